import PyProof.Rows.All
import Wide.All
import OpenK.AllK
import Wide.FinOn
import HandS.ForMost
import HandS.ForExc
import HandS.IsInst
import HandS.Style
import HandS.StrMore
import HandS.WideBits
import HandS.Flow
import HandS.Steps
import HandS.ExcInit
import HandS.ExcField
import HandS.ExcIs
import HandS.TryMany
import PySem.Challenge.RW_narrowing_k02_integers_rejected
set_option Elab.async false
set_option linter.all false
set_option maxRecDepth 100000
set_option maxHeartbeats 4000000
namespace Nv
open PySem PySem.Spec PyProof.Rows L2
/-- where the classes stand, by their names -/
abbrev Kap := String → Addr
/-! ### stepping lemmas over the readings -/
section
variable {D : Ends} {σ : L2.St} {H : Hp} {Q : VK} {K : PySem.W.Frag}
theorem x_seq {t1 t2 : TS} (h : t1 { D with nx := t2 D } σ H) : tSeq t1 t2 D σ H := h
theorem x_asg {te : TE} {g : TG} (h : te σ H fun x H1 => g x σ H1 D.nx) : tAsg te g D σ H := h
theorem x_name {i : Nat} {v : V} {Q : L2.St → Hp → Prop} (h : Q (σ.set i (some v)) H) : gName i v σ H Q := h
theorem x_var {i : Nat} {v : V} (e : σ[i]? = some (some v)) (h : Q v H) : tVar i σ H Q := ⟨v, e, h⟩
theorem x_c {v : V} (h : Q v H) : tC v σ H Q := h
theorem x_op {r : R2} {ta tb : TE} (h : ta σ H fun x H1 => tb σ H1 fun y H2 => r x y H2 Q) : tOp r ta tb σ H Q := h
theorem x_un {r : V → Hp → VK → Prop} {ta : TE} (h : ta σ H fun x H1 => r x H1 Q) : tUn r ta σ H Q := h
theorem x_drop {te : TE} (h : te σ H fun _ H1 => D.nx σ H1) : tDrop te D σ H := h
theorem x_ret {te : TE} (h : te σ H D.rt) : tRet te D σ H := h
theorem x_retN (h : D.rt .non H) : tRetN D σ H := h
theorem x_next (h : D.nx σ H) : tNext D σ H := h
theorem x_ifS {c : TT} {t u : TS} (h : c σ H fun b H1 => if b = true then t D σ H1 else u D σ H1) : tIfS c t u D σ H := h
theorem x_if {c : TT} {ta tb : TE} (h : c σ H fun b H1 => if b = true then ta σ H1 Q else tb σ H1 Q) : tIf c ta tb σ H Q := h
theorem x_test {t : TE} {R : Bool → Hp → Prop} (h : t σ H fun x H' => ∃ k, x = .bl k ∧ R k H') : tTest t σ H R := h
theorem x_blk {k : Bool} {R : Bool → Prop} (h : R k) : ∃ k', V.bl k = .bl k' ∧ R k' := ⟨k, rfl, h⟩
theorem x_and {t u : TT} {R : Bool → Hp → Prop} (h : t σ H fun c H1 => if c = true then u σ H1 R else R false H1) : tAnd t u σ H R := h
theorem x_or {t u : TT} {R : Bool → Hp → Prop} (h : t σ H fun c H1 => if c = true then R true H1 else u σ H1 R) : tOr t u σ H R := h
theorem x_not {t : TT} {R : Bool → Hp → Prop} (h : t σ H fun c H1 => R (!c) H1) : tNot t σ H R := h
theorem x_nil {R : List V → Hp → Prop} (h : R [] H) : tNil σ H R := h
theorem x_cons {ta : TE} {tr : TA} {R : List V → Hp → Prop} (h : ta σ H fun x H1 => tr σ H1 fun xs H2 => R (x :: xs) H2) : tCons ta tr σ H R := h
theorem x_cb {r : List V → Hp → VK → Prop} {t : TA} (h : t σ H fun vs H1 => r vs H1 Q) : tCB r t σ H Q := h
theorem x_call {sp : Sp} {E : L2.St → XK} {t : TA} (h : t σ H fun vs H1 => sp vs H1 Q (E σ)) : tCallS sp E t σ H Q := h
theorem x_lst {t : TA} (h : t σ H fun xs H1 => xs.length ≤ sizeLine ∧ ∀ p, H1 p = none → Q (.ref p) (upd H1 p (.lst xs))) : tLst t σ H Q := h
theorem x_tup {t : TA} (h : t σ H fun xs H1 => xs.length ≤ sizeLine ∧ ∀ p, H1 p = none → Q (.ref p) (upd H1 p (.tup xs))) : tTup t σ H Q := h
theorem x_sub {to ti : TE} {t : TSet} {v : V} {R : L2.St → Hp → Prop} (h : to σ H fun o H1 => ti σ H1 fun i H2 => t o i v H2 fun H3 => R σ H3) : gSub to ti t v σ H R := h
theorem x_bm {T : String} {r : V → List V → Hp → VK → Prop} {to : TE} {t : TA} (h : to σ H fun x H1 => tyV K T x H1 ∧ t σ H1 fun xs H2 => r x xs H2 Q) : tBM K T r to t σ H Q := h
theorem x_bm0 {T : String} {r : V → List V → Hp → VK → Prop} {to : TE} (h : to σ H fun x H1 => tyV K T x H1 ∧ r x [] H1 Q) : tBM0 K T r to σ H Q := h
theorem x_sl {r : V → Option Int → Option Int → Hp → VK → Prop} {te : TE} {tl th : TO} (h : te σ H fun x H1 => tl σ H1 fun l H2 => th σ H2 fun u H3 => r x l u H3 Q) : tSl r te tl th σ H Q := h
theorem x_noPart {R : Option Int → Hp → Prop} (h : R none H) : tNoPart σ H R := h
theorem x_part {t : TE} {R : Option Int → Hp → Prop} (h : t σ H fun x H1 => ∃ i, x = .int i ∧ R (some i) H1) : tPart t σ H R := h
theorem x_intk {k : Int} {R : Int → Prop} (h : R k) : ∃ k', V.int k = .int k' ∧ R k' := ⟨k, rfl, h⟩
end
/-! ### operators by values -/
section
variable {X : Cx} {K : PySem.W.Frag} {H : Hp} {Q : VK}
def rAddU (K : PySem.W.Frag) : R2 := fun x y H Q => match x, y with
  | .int i, .int j => Q (.int (i + j)) H
  | .str a, .str b => a.length + b.length ≤ sizeLine ∧ Q (.str (a ++ b)) H
  | .ref l, .ref b => rCat (.ref l) (.ref b) H Q
  | _, _ => False
theorem op_addU : OpR X (binaryOp .Add) (rAddU X.K) := by
  intro pins s σ H x y v u Q I rx ry h
  cases x <;> cases y <;> first | exact h.elim | exact op_add pins s σ H _ _ v u Q I rx ry ⟨_, _, rfl, rfl, h⟩ | exact op_add_str pins s σ H _ _ v u Q I rx ry ⟨_, _, rfl, rfl, h⟩ | exact op_cat pins s σ H _ _ v u Q I rx ry h
def rSubU : R2 := fun x y H Q => match x, y with
  | .int i, .int j => Q (.int (i - j)) H
  | _, _ => False
theorem op_subU : OpR X (binaryOp .Sub) rSubU := by
  intro pins s σ H x y v u Q I rx ry h
  cases x <;> cases y <;> first | exact h.elim | exact op_sub pins s σ H _ _ v u Q I rx ry ⟨_, _, rfl, rfl, h⟩
/-- a text, n times -/
def repS (a : Str) (n : Nat) : Str := ⟨(List.replicate n a.cps.toList).flatten.toArray⟩
theorem fold_rep (l : List (Array Nat)) : ∀ acc : Array Nat, l.foldl (· ++ ·) acc = acc ++ (l.map Array.toList).flatten.toArray := by
  induction l with
  | nil => intro acc; simp
  | cons a r ih =>
    intro acc
    rw [List.foldl_cons, ih, List.map_cons, List.flatten_cons]
    apply Array.toList_inj.mp
    simp
theorem rep_fold (a : Str) (n : Nat) : (⟨(List.replicate n a.cps).foldl (· ++ ·) #[]⟩ : Str) = repS a n := by
  unfold repS
  rw [fold_rep, List.map_replicate]
  simp
theorem op_mulS : OpR X (binaryOp .Mult) (fun x y H Q => ∃ (a : Str) (n : Int), x = .str a ∧ y = .int n ∧ 0 ≤ n ∧ n ≤ 16777216 ∧ a.length * n.toNat ≤ 16777216 ∧ Q (.str (repS a n.toNat)) H) := by
  intro pins s σ H x y v u Q I rx ry h
  obtain ⟨a, n, rfl, rfl, h0, h1, h2, q⟩ := h
  obtain ⟨t, rfl⟩ := rx
  obtain ⟨t', rfl⟩ := ry
  refine PySem.P.mul_str ?_ (fun c1 c2 => ?_) (fun c1 c2 => ?_) ?_
  · rw [decide_eq_false (by omega), decide_eq_false (by omega)]; rfl
  · have hn : 1 ≤ n := by omega
    have : (a.length : Int) ≤ (a.length : Int) * n := by
      have := Int.mul_le_mul_of_nonneg_left hn (Int.natCast_nonneg a.length)
      omega
    have e2 : ((a.length * n.toNat : Nat) : Int) = (a.length : Int) * n := by
      rw [Int.natCast_mul, Int.toNat_of_nonneg h0]
    have up : (a.length : Int) ≤ 16777216 := by omega
    have lo : (16777216 : Int) ≤ (2 ^ 63 - 1) / n := by
      refine (Int.le_ediv_iff_mul_le (by omega)).mpr ?_
      omega
    omega
  · unfold Builtin.Str.tooLong
    rw [sizeLine_eq]
    exact decide_eq_false (by omega)
  · by_cases c1 : n < 1
    · rw [if_pos c1]
      have e0 : n.toNat = 0 := by omega
      rw [e0] at q
      exact ⟨by decide, ⟨.str _, H, I.tok _, ⟨_, rfl⟩, q⟩⟩
    · rw [if_neg c1]
      by_cases c2 : (n == 1 || a.length == 0) = true
      · rw [if_pos c2]
        have e : repS a n.toNat = a := by
          unfold repS
          rcases Bool.or_eq_true_iff.mp c2 with z | z
          · have : n = 1 := by simpa using z
            subst this
            simp
          · have : a.length = 0 := by simpa using z
            have e0 : a.cps.toList = [] := List.length_eq_zero_iff.mp (by rw [Array.length_toList]; exact this)
            rw [e0]
            have e1 : (List.replicate n.toNat ([] : List Nat)).flatten = [] := by
              induction n.toNat with
              | zero => rfl
              | succ k ih => rw [List.replicate_succ, List.flatten_cons, ih]; rfl
            rw [e1]
            obtain ⟨⟨l⟩⟩ := a
            have : l = [] := e0
            rw [this]
        rw [e] at q
        exact ⟨.str a, H, I, ⟨t, rfl⟩, q⟩
      · rw [if_neg c2, rep_fold]
        refine ⟨?_, ⟨.str _, H, I.tok _, ⟨_, rfl⟩, q⟩⟩
        show (repS a n.toNat).length ≤ sizeLine
        rw [sizeLine_eq]
        unfold repS Str.length
        have : (List.replicate n.toNat a.cps.toList).flatten.toArray.size = a.length * n.toNat := by
          rw [List.size_toArray, List.length_flatten, List.map_replicate, List.sum_replicate_nat, Array.length_toList]
          show n.toNat * a.cps.size = a.cps.size * n.toNat
          exact Nat.mul_comm _ _
        show (List.replicate n.toNat a.cps.toList).flatten.toArray.size ≤ _
        omega
def rMulU : R2 := fun x y H Q => match x, y with
  | .int i, .int j => CMul i j ∧ Q (.int (i * j)) H
  | .str a, .int n => 0 ≤ n ∧ n ≤ 16777216 ∧ a.length * n.toNat ≤ 16777216 ∧ Q (.str (repS a n.toNat)) H
  | _, _ => False
theorem op_mulU : OpR X (binaryOp .Mult) rMulU := by
  intro pins s σ H x y v u Q I rx ry h
  cases x <;> cases y <;> first | exact h.elim | exact op_mul pins s σ H _ _ v u Q I rx ry ⟨_, _, rfl, rfl, h.1, h.2⟩ | exact op_mulS pins s σ H _ _ v u Q I rx ry ⟨_, _, rfl, rfl, h.1, h.2.1, h.2.2.1, h.2.2.2⟩
theorem x_mulS {a : Str} {n : Int} (h0 : 0 ≤ n) (h1 : n ≤ 16777216) (h2 : a.length * n.toNat ≤ 16777216) (h : Q (.str (repS a n.toNat)) H) : rMulU (.str a) (.int n) H Q := ⟨h0, h1, h2, h⟩
def rModU : R2 := fun x y H Q => match x, y with
  | .int i, .int j => 0 < j ∧ Q (.int (i % j)) H
  | _, _ => False
theorem op_modU : OpR X (binaryOp .Mod) rModU := by
  intro pins s σ H x y v u Q I rx ry h
  cases x <;> cases y <;> first | exact h.elim | exact op_mod pins s σ H _ _ v u Q I rx ry ⟨_, _, rfl, rfl, h.1, h.2⟩
def rFdivU : R2 := fun x y H Q => match x, y with
  | .int i, .int j => CDiv i j ∧ Q (.int (i / j)) H
  | _, _ => False
theorem op_fdivU : OpR X (binaryOp .FloorDiv) rFdivU := by
  intro pins s σ H x y v u Q I rx ry h
  cases x <;> cases y <;> first | exact h.elim | exact op_fdiv pins s σ H _ _ v u Q I rx ry ⟨_, _, rfl, rfl, h.1, h.2⟩
def rPowU : R2 := fun x y H Q => match x, y with
  | .int i, .int j => CPow i j ∧ Q (.int (i ^ j.toNat)) H
  | _, _ => False
theorem op_powU : OpR X (binaryOp .Pow) rPowU := by
  intro pins s σ H x y v u Q I rx ry h
  cases x <;> cases y <;> first | exact h.elim | exact op_pow pins s σ H _ _ v u Q I rx ry ⟨_, _, rfl, rfl, h.1, h.2⟩
def rLtU : R2 := fun x y H Q => match x, y with
  | .int i, .int j => Q (.bl (decide (i < j))) H
  | .str a, .str b => Q (.bl (decide (a.cps.toList < b.cps.toList))) H
  | _, _ => False
theorem op_ltU : OpR X (compareOp .Lt) rLtU := by
  intro pins s σ H x y v u Q I rx ry h
  cases x <;> cases y <;> first | exact h.elim | exact op_lt pins s σ H _ _ v u Q I rx ry ⟨_, _, rfl, rfl, h⟩ | exact op_lt_str pins s σ H _ _ v u Q I rx ry ⟨_, _, rfl, rfl, h⟩
def rLeU : R2 := fun x y H Q => match x, y with
  | .int i, .int j => Q (.bl (decide (i ≤ j))) H
  | .str a, .str b => Q (.bl (!decide (b.cps.toList < a.cps.toList))) H
  | _, _ => False
theorem op_leU : OpR X (compareOp .LtE) rLeU := by
  intro pins s σ H x y v u Q I rx ry h
  cases x <;> cases y <;> first | exact h.elim | exact op_le pins s σ H _ _ v u Q I rx ry ⟨_, _, rfl, rfl, h⟩ | exact op_le_str pins s σ H _ _ v u Q I rx ry ⟨_, _, rfl, rfl, h⟩
def rGtU : R2 := fun x y H Q => match x, y with
  | .int i, .int j => Q (.bl (decide (j < i))) H
  | _, _ => False
theorem op_gtU : OpR X (compareOp .Gt) rGtU := by
  intro pins s σ H x y v u Q I rx ry h
  cases x <;> cases y <;> first | exact h.elim | exact op_gt pins s σ H _ _ v u Q I rx ry ⟨_, _, rfl, rfl, h⟩
def rGeU : R2 := fun x y H Q => match x, y with
  | .int i, .int j => Q (.bl (decide (j ≤ i))) H
  | _, _ => False
theorem op_geU : OpR X (compareOp .GtE) rGeU := by
  intro pins s σ H x y v u Q I rx ry h
  cases x <;> cases y <;> first | exact h.elim | exact op_ge pins s σ H _ _ v u Q I rx ry ⟨_, _, rfl, rfl, h⟩
theorem x_addI {i j : Int} (h : Q (.int (i + j)) H) : rAddU K (.int i) (.int j) H Q := h
theorem x_addS {a b : Str} (l : a.length + b.length ≤ sizeLine) (h : Q (.str (a ++ b)) H) : rAddU K (.str a) (.str b) H Q := ⟨l, h⟩
theorem x_subI {i j : Int} (h : Q (.int (i - j)) H) : rSubU (.int i) (.int j) H Q := h
theorem x_mulI {i j : Int} (l : CMul i j) (h : Q (.int (i * j)) H) : rMulU (.int i) (.int j) H Q := ⟨l, h⟩
theorem x_mulR {i j : Int} (l : -18446744073709551616 < j) (l2 : j < 18446744073709551616) (h : Q (.int (i * j)) H) : rMulU (.int i) (.int j) H Q := ⟨.inr ⟨l, l2⟩, h⟩
theorem x_mulL {i j : Int} (l : -18446744073709551616 < i) (l2 : i < 18446744073709551616) (h : Q (.int (i * j)) H) : rMulU (.int i) (.int j) H Q := ⟨.inl ⟨l, l2⟩, h⟩
theorem x_modI {i j : Int} (l : 0 < j) (h : Q (.int (i % j)) H) : rModU (.int i) (.int j) H Q := ⟨l, h⟩
theorem x_fdivI {i j : Int} (l : 0 < j) (l2 : j < 1073741824) (h : Q (.int (i / j)) H) : rFdivU (.int i) (.int j) H Q := ⟨⟨l, l2⟩, h⟩
theorem x_powI {i j : Int} (l : CPow i j) (h : Q (.int (i ^ j.toNat)) H) : rPowU (.int i) (.int j) H Q := ⟨l, h⟩
theorem x_ltI {i j : Int} (h : Q (.bl (decide (i < j))) H) : rLtU (.int i) (.int j) H Q := h
theorem x_leI {i j : Int} (h : Q (.bl (decide (i ≤ j))) H) : rLeU (.int i) (.int j) H Q := h
theorem x_gtI {i j : Int} (h : Q (.bl (decide (j < i))) H) : rGtU (.int i) (.int j) H Q := h
theorem x_geI {i j : Int} (h : Q (.bl (decide (j ≤ i))) H) : rGeU (.int i) (.int j) H Q := h
theorem x_eq {x y : V} (l : scal x y = true) (h : Q (.bl (decide (x = y))) H) : rEq x y H Q := ⟨l, h⟩
theorem x_ne {x y : V} (l : scal x y = true) (h : Q (.bl (!decide (x = y))) H) : rNe x y H Q := ⟨l, h⟩
theorem x_ixL {p : Addr} {xs : List V} {i : Int} {v : V} (h : SqL K H p xs) (a : atI xs i = some v) (q : Q v H) : rIx K (.ref p) (.int i) H Q := .inl ⟨p, xs, i, v, rfl, rfl, h, a, q⟩
theorem x_ixT {p : Addr} {xs : List V} {i : Int} {v : V} (h : SqT K H p xs) (a : atI xs i = some v) (q : Q v H) : rIx K (.ref p) (.int i) H Q := .inr (.inl ⟨p, xs, i, v, rfl, rfl, h, a, q⟩)
theorem x_ixS {z : Str} {i : Int} {c : Nat} (h : z.length ≤ sizeLine) (a : atI z.cps.toList i = some c) (q : Q (.str ⟨#[c]⟩) H) : rIx K (.str z) (.int i) H Q := .inr (.inr ⟨z, i, c, rfl, rfl, h, a, q⟩)
theorem x_setL {p : Addr} {xs : List V} {i : Int} {j : Nat} {v : V} {Q : Hp → Prop} (h : H p = some (.lst xs)) (a : ixN xs.length i = some j) (q : Q (upd H p (.lst (xs.set j v)))) : rSetL (.ref p) (.int i) v H Q := ⟨p, xs, i, j, rfl, rfl, h, a, q⟩
theorem x_set4_1 {p : Addr} {a b c d v : V} {Q : Hp → Prop} (h : H p = some (.lst [a, b, c, d])) (q : Q (upd H p (.lst [a, v, c, d]))) : rSetL (.ref p) (.int 1) v H Q := ⟨p, _, 1, 1, rfl, rfl, h, rfl, q⟩
theorem x_set4_2 {p : Addr} {a b c d v : V} {Q : Hp → Prop} (h : H p = some (.lst [a, b, c, d])) (q : Q (upd H p (.lst [a, b, v, d]))) : rSetL (.ref p) (.int 2) v H Q := ⟨p, _, 2, 2, rfl, rfl, h, rfl, q⟩
theorem x_set4_3 {p : Addr} {a b c d v : V} {Q : Hp → Prop} (h : H p = some (.lst [a, b, c, d])) (q : Q (upd H p (.lst [a, b, c, v]))) : rSetL (.ref p) (.int 3) v H Q := ⟨p, _, 3, 3, rfl, rfl, h, rfl, q⟩
/-! len, int of an int, by values -/
def rLenU (K : PySem.W.Frag) : List V → Hp → VK → Prop := fun xs H Q => match xs with
  | [.str z] => z.length ≤ sizeLine ∧ Q (.int z.length) H
  | [.ref p] => (∃ ys, (SqL K H p ys ∨ SqT K H p ys) ∧ Q (.int ys.length) H)
  | _ => False
theorem call_lenU : CallR X (.builtin "len") (rLenU X.K) := by
  intro pins s σ H xs us Q I r h
  match xs, h with
  | [.str z], h => exact call_len_str pins s σ H _ us Q I r ⟨z, rfl, h.1, h.2⟩
  | [.ref p], h =>
    obtain ⟨ys, h1, h2⟩ := h
    exact call_len_seq pins s σ H _ us Q I r ⟨p, ys, rfl, h1, h2⟩
def rIntU : List V → Hp → VK → Prop := fun xs H Q => match xs with
  | [.int i] => Q (.int i) H
  | [.bl b] => Q (.int (if b then 1 else 0)) H
  | [.str a] => ∃ n, PySem.intText? a = some n ∧ a.length ≤ 640 ∧ Q (.int n) H
  | _ => False
theorem call_intU : CallR X (.type "int") rIntU := by
  intro pins s σ H xs us Q I r h
  match xs, h with
  | [.int i], h => exact call_int1 pins s σ H _ us Q I r (.inl ⟨i, rfl, h⟩)
  | [.bl b], h => exact call_int1 pins s σ H _ us Q I r (.inr ⟨b, rfl, h⟩)
  | [.str a], h =>
    obtain ⟨n, h1, h2, h3⟩ := h
    exact call_int_str pins s σ H _ us Q I r ⟨a, n, rfl, h1, h2, h3⟩
def rStrU : List V → Hp → VK → Prop := fun xs H Q => match xs with
  | [.int i] => i.natAbs.log2 < 1920 ∧ Q (.str (toString i)) H
  | _ => False
theorem call_strU : CallR X (.type "str") rStrU := by
  intro pins s σ H xs us Q I r h
  match xs, h with
  | [.int i], h => exact call_str_int pins s σ H _ us Q I r ⟨i, rfl, h.1, h.2⟩
theorem x_lenS {z : Str} (l : z.length ≤ sizeLine) (h : Q (.int z.length) H) : rLenU K [.str z] H Q := ⟨l, h⟩
theorem x_lenL {p : Addr} {ys : List V} (l : SqL K H p ys) (h : Q (.int ys.length) H) : rLenU K [.ref p] H Q := ⟨ys, .inl l, h⟩
theorem x_lenT {p : Addr} {ys : List V} (l : SqT K H p ys) (h : Q (.int ys.length) H) : rLenU K [.ref p] H Q := ⟨ys, .inr l, h⟩
theorem x_intI {i : Int} (h : Q (.int i) H) : rIntU [.int i] H Q := h
end

section
variable {X : Cx} {K : PySem.W.Frag} {H : Hp} {Q : VK} {σ : L2.St} {D : Ends}
def rAbsU : List V → Hp → VK → Prop := fun xs H Q => match xs with
  | [.int i] => Q (.int (if i < 0 then -i else i)) H
  | _ => False
theorem call_absU : CallR X (.builtin "abs") rAbsU := by
  intro pins s σ H xs us Q I r h
  match xs, h with
  | [.int i], h => exact call_abs pins s σ H _ us Q I r ⟨i, rfl, h⟩
theorem x_abs {i : Int} (h : Q (.int (if i < 0 then -i else i)) H) : rAbsU [.int i] H Q := h
def rDivmodW : List V → Hp → VK → Prop := fun xs H Q => match xs with
  | [.int i, .int j] => CDivP i j ∧ ∀ p, H p = none → Q (.ref p) (upd H p (.tup [.int (i / j), .int (i % j)]))
  | _ => False
theorem call_divmodU : CallR X (.builtin "divmod") rDivmodW := by
  intro pins s σ H xs us Q I r h
  match xs, h with
  | [.int i, .int j], h => exact call_divmodW pins s σ H _ us Q I r ⟨i, j, rfl, h.1, h.2⟩
/-! truth of a value, as a test -/
def truU (K : PySem.W.Frag) (x : V) (H : Hp) (R : Bool → Hp → Prop) : Prop := match x with
  | .bl b => R b H
  | .non => R false H
  | .int i => R (i != 0) H
  | .str z => z.length ≤ sizeLine ∧ R ((z.length : Int) != 0) H
  | .ref p => ∃ k, TruV K (.ref p) H k ∧ R k H
  | _ => False
def tTruU (K : PySem.W.Frag) (te : TE) : TT := fun σ H R => te σ H fun x H1 => truU K x H1 R
theorem PT.weak {e : Expr} {t t' : TT} (h : PT X e t) (w : ∀ σ H R, t' σ H R → t σ H R) : PT X e t' := ⟨fun pins s σ H R I q => h.run pins s σ H R I (w σ H R q)⟩
theorem PE.weak {e : Expr} {t t' : TE} (h : PE X e t) (w : ∀ σ H R, t' σ H R → t σ H R) : PE X e t' := ⟨fun pins s σ H R I q => h.run pins s σ H R I (w σ H R q)⟩
theorem PE.mono {e : Expr} {t : TE} (h : PE X e t) {t' : TE} (w : ∀ σ H Q, t' σ H Q → t σ H Q) : PE X e t' := PE.weak h w
/-- the value under another wish: pt_truth's reading, by cases -/
theorem pt_truU {a : Expr} {ta : TE} (ha : PE X a ta) (he : ∀ whole, isTrue a X.env whole = (do let v ← whole; standAt a.pos; holding [v] (truthy v))) : PT X a (tTruU X.K ta) := by
  refine ⟨fun pins s σ H R I q => ?_⟩
  refine isTrue_plain (thn (ha.run pins s σ H _ I q) fun v s1 ⟨x, H1, I1, r1, q1⟩ => ?_) (he _)
  have key : ∀ k, TruV X.K x H1 k → R k H1 → wpAny (model X.prog X.w) X.A (truthy v) (TP X pins σ R) X.xe s1 := fun k hk hR => tru_ok pins s1 σ H1 x v R I1 r1 ⟨k, hk, hR⟩
  cases x with
  | non => exact key false rfl q1
  | bl b => exact key b rfl q1
  | int i => exact key _ rfl q1
  | str z => exact key _ ⟨q1.1, rfl⟩ q1.2
  | ref p => obtain ⟨k, h1, h2⟩ := q1; exact key k h1 h2
  | byt _ => exact q1.elim
  | flt _ => exact q1.elim
  | ty _ => exact q1.elim
theorem x_tru {te : TE} {R : Bool → Hp → Prop} (h : te σ H fun x H1 => truU K x H1 R) : tTruU K te σ H R := h
theorem x_truB {b : Bool} {R : Bool → Hp → Prop} (h : R b H) : truU K (.bl b) H R := h
theorem x_truN {R : Bool → Hp → Prop} (h : R false H) : truU K .non H R := h
theorem x_truI {i : Int} {R : Bool → Hp → Prop} (h : R (decide (i ≠ 0)) H) : truU K (.int i) H R := by
  show R (i != 0) H
  have e : (i != 0) = decide (i ≠ 0) := by
    by_cases q : i = 0
    · subst q; rfl
    · rw [decide_eq_true q]; exact bne_iff_ne.mpr q
  rw [e]; exact h
theorem x_truS {z : Str} {R : Bool → Hp → Prop} (l : z.length ≤ sizeLine) (h : R ((z.length : Int) != 0) H) : truU K (.str z) H R := ⟨l, h⟩
/-! tests decided -/
theorem x_dec {c : Prop} [Decidable c] {A B : Prop} (h1 : c → A) (h2 : ¬ c → B) : if decide c = true then A else B := by
  by_cases h : c
  · rw [decide_eq_true h, if_pos rfl]; exact h1 h
  · rw [decide_eq_false h, if_neg Bool.false_ne_true]; exact h2 h
theorem x_decT {c : Prop} [Decidable c] {A B : Prop} (h : c) (h1 : A) : if decide c = true then A else B := by
  rw [decide_eq_true h, if_pos rfl]; exact h1
theorem x_decF {c : Prop} [Decidable c] {A B : Prop} (h : ¬ c) (h1 : B) : if decide c = true then A else B := by
  rw [decide_eq_false h, if_neg Bool.false_ne_true]; exact h1
theorem x_decNT {c : Prop} [Decidable c] {A B : Prop} (h : ¬ c) (h1 : A) : if (!decide c) = true then A else B := by
  rw [decide_eq_false h]; exact h1
theorem x_decNF {c : Prop} [Decidable c] {A B : Prop} (h : c) (h1 : B) : if (!decide c) = true then A else B := by
  rw [decide_eq_true h]; exact h1
theorem x_decN {c : Prop} [Decidable c] {A B : Prop} (h1 : ¬ c → A) (h2 : c → B) : if (!decide c) = true then A else B := by
  by_cases h : c
  · exact x_decNF h (h2 h)
  · exact x_decNT h (h1 h)
theorem x_true {A B : Prop} (h : A) : if true = true then A else B := by rw [if_pos rfl]; exact h
theorem x_false {A B : Prop} (h : B) : if false = true then A else B := by rw [if_neg Bool.false_ne_true]; exact h
theorem x_ntrue {A B : Prop} (h : B) : if (!true) = true then A else B := h
theorem x_nfalse {A B : Prop} (h : A) : if (!false) = true then A else B := h
theorem x_bool {b : Bool} {A B : Prop} (h1 : b = true → A) (h2 : b = false → B) : if b = true then A else B := by
  cases b
  · exact x_false (h2 rfl)
  · exact x_true (h1 rfl)
theorem x_eqI {i j : Int} (h : Q (.bl (decide (i = j))) H) : rEq (.int i) (.int j) H Q := by
  refine ⟨rfl, ?_⟩
  have e : decide (V.int i = V.int j) = decide (i = j) := by
    by_cases q : i = j
    · subst q; rw [decide_eq_true rfl, decide_eq_true rfl]
    · rw [decide_eq_false q, decide_eq_false fun z => q (V.int.inj z)]
  rw [e]; exact h
theorem x_neI {i j : Int} (h : Q (.bl (!decide (i = j))) H) : rNe (.int i) (.int j) H Q := by
  refine ⟨rfl, ?_⟩
  have e : decide (V.int i = V.int j) = decide (i = j) := by
    by_cases q : i = j
    · subst q; rw [decide_eq_true rfl, decide_eq_true rfl]
    · rw [decide_eq_false q, decide_eq_false fun z => q (V.int.inj z)]
  rw [e]; exact h
theorem dec_strP {i j : Str} : decide (V.str i = V.str j) = decide (i = j) := by
  by_cases q : i = j
  · subst q; rw [decide_eq_true rfl, decide_eq_true rfl]
  · rw [decide_eq_false q, decide_eq_false fun z => q (V.str.inj z)]
theorem x_eqS {i j : Str} (h : Q (.bl (decide (i = j))) H) : rEq (.str i) (.str j) H Q := ⟨rfl, by rw [dec_strP]; exact h⟩
theorem x_neS {i j : Str} (h : Q (.bl (!decide (i = j))) H) : rNe (.str i) (.str j) H Q := ⟨rfl, by rw [dec_strP]; exact h⟩
theorem x_powL {i j k : Int} (l0 : 0 ≤ j) (l1 : j ≤ 1000000) (l2 : i.natAbs < 18446744073709551616) (e : i ^ j.toNat = k) (h : Q (.int k) H) : rPowU (.int i) (.int j) H Q := ⟨⟨l0, l1, l2⟩, by rw [e]; exact h⟩
theorem cmul_r {i j : Int} (h : -(2 ^ 64) < j ∧ j < 2 ^ 64) : CMul i j := .inr h
theorem cmul_l {i j : Int} (h : -(2 ^ 64) < i ∧ i < 2 ^ 64) : CMul i j := .inl h
/-! isinstance against a built-in type -/
def rIsiU (K : PySem.W.Frag) : List V → Hp → VK → Prop := rIsi K
theorem call_isiU : CallR X (.builtin "isinstance") (rIsiU X.K) := call_isi
theorem x_isi {x : V} {n m : String} {b : Bool} (t : TyX K H x (.type m)) (k : kitB m n = some b) (h : Q (.bl b) H) : rIsiU K [x, .ty n] H Q := ⟨x, .ty n, .type m, .type n, b, rfl, .ty n, t, kit_ty k, h⟩
/-! slices of texts and lists -/
def rSlU (K : PySem.W.Frag) : V → Option Int → Option Int → Hp → VK → Prop := fun x lo hi H Q => match x with
  | .str z => z.length ≤ sizeLine ∧ Q (.str (cutS z lo hi)) H
  | .ref a => rSlL K (.ref a) lo hi H Q
  | _ => False
theorem SlR.weak {r r' : V → Option Int → Option Int → Hp → VK → Prop} (h : SlR X r) (w : ∀ x lo hi H Q, r' x lo hi H Q → r x lo hi H Q) : SlR X r' := by
  intro pins s σ H x v vl vu lo hi sl Q I rx hs pl pu q
  exact h pins s σ H x v vl vu lo hi sl Q I rx hs pl pu (w _ _ _ _ _ q)
theorem sl_U : SlR X (rSlU X.K) := SlR.weak (SlR.or sl_str sl_list) fun x lo hi H Q h => by
  cases x with
  | str z => exact .inl ⟨z, rfl, h.1, h.2⟩
  | ref a => exact .inr h
  | _ => exact h.elim
theorem x_slS {z : Str} {lo hi : Option Int} (l : z.length ≤ sizeLine) (h : Q (.str (cutS z lo hi)) H) : rSlU K (.str z) lo hi H Q := ⟨l, h⟩
theorem x_slL {a : Addr} {xs : List V} {lo hi : Option Int} (l : SqL K H a xs) (h : ∀ p, H p = none → Q (.ref p) (upd H p (.lst (cutV xs lo hi)))) : rSlU K (.ref a) lo hi H Q := ⟨a, xs, rfl, l, h⟩
/-! in, not in -/
def rInG (K : PySem.W.Frag) (neg : Bool) : R2 := fun x y H Q => match y with
  | .str z => ∃ c, x = .str ⟨#[c]⟩ ∧ Q (.bl (if neg then !decide (c ∈ z.cps.toList) else decide (c ∈ z.cps.toList))) H
  | .ref _ => rIn K neg x y H Q
  | _ => False
def rInU (K : PySem.W.Frag) : R2 := rInG K false
def rNotInU (K : PySem.W.Frag) : R2 := rInG K true
theorem op_inU : OpR X (compareOp .In) (rInU X.K) := by
  intro pins s σ H x y v u Q I rx ry h
  cases y with
  | str z => obtain ⟨c, rfl, h⟩ := h; exact op_in_sign pins s σ H _ _ v u Q I rx ry ⟨c, z, rfl, rfl, h⟩
  | ref a => exact op_in_seq pins s σ H _ _ v u Q I rx ry h
  | _ => exact h.elim
theorem op_notInU : OpR X (compareOp .NotIn) (rNotInU X.K) := by
  intro pins s σ H x y v u Q I rx ry h
  cases y with
  | str z => obtain ⟨c, rfl, h⟩ := h; exact op_notIn_sign pins s σ H _ _ v u Q I rx ry ⟨c, z, rfl, rfl, h⟩
  | ref a => exact op_notIn_seq pins s σ H _ _ v u Q I rx ry h
  | _ => exact h.elim
theorem x_inS {c : Nat} {z : Str} (h : Q (.bl (decide (c ∈ z.cps.toList))) H) : rInU K (.str ⟨#[c]⟩) (.str z) H Q := ⟨c, rfl, h⟩
theorem x_notInS {c : Nat} {z : Str} (h : Q (.bl (!decide (c ∈ z.cps.toList))) H) : rNotInU K (.str ⟨#[c]⟩) (.str z) H Q := ⟨c, rfl, h⟩
theorem x_inL {x : V} {p : Addr} {xs : List V} (l : SqL K H p xs) (fx : flatV x = true) (fs : xs.all flatV = true) (h : Q (.bl (inV x xs)) H) : rInU K x (.ref p) H Q := ⟨p, xs, rfl, .inl l, fx, fs, h⟩
theorem x_inT {x : V} {p : Addr} {xs : List V} (l : SqT K H p xs) (fx : flatV x = true) (fs : xs.all flatV = true) (h : Q (.bl (inV x xs)) H) : rInU K x (.ref p) H Q := ⟨p, xs, rfl, .inr l, fx, fs, h⟩
theorem x_notInL {x : V} {p : Addr} {xs : List V} (l : SqL K H p xs) (fx : flatV x = true) (fs : xs.all flatV = true) (h : Q (.bl (!inV x xs)) H) : rNotInU K x (.ref p) H Q := ⟨p, xs, rfl, .inl l, fx, fs, h⟩
theorem x_notInT {x : V} {p : Addr} {xs : List V} (l : SqT K H p xs) (fx : flatV x = true) (fs : xs.all flatV = true) (h : Q (.bl (!inV x xs)) H) : rNotInU K x (.ref p) H Q := ⟨p, xs, rfl, .inr l, fx, fs, h⟩
/-! methods of texts -/
def rZfillU : V → List V → Hp → VK → Prop := fun x xs H Q => match x, xs with
  | .str a, [.int i] => PadOk i = true ∧ Q (.str (Txt.zfill a i)) H
  | _, _ => False
theorem mt_zfillU : MtR X "str.zfill" rZfillU := by
  intro pins s σ H x xs v us Q I rx rs h
  match x, xs, h with
  | .str a, [.int i], h => exact mt_zfill pins s σ H _ _ v us Q I rx rs ⟨a, i, rfl, rfl, h.1, h.2⟩
def rJoinU (K : PySem.W.Frag) : V → List V → Hp → VK → Prop := fun x xs H Q => match x, xs with
  | .str a, [.ref p] => ∃ ys : List Str, (SqL K H p (ys.map V.str) ∨ SqT K H p (ys.map V.str)) ∧ (ys.map (·.length)).sum + ys.length * a.length ≤ 16777216 ∧ Q (.str (Txt.join a ys)) H
  | _, _ => False
theorem mt_joinU : MtR X "str.join" (rJoinU X.K) := by
  intro pins s σ H x xs v us Q I rx rs h
  match x, xs, h with
  | .str a, [.ref p], h =>
    obtain ⟨ys, h1, h2, h3⟩ := h
    exact mt_join pins s σ H _ _ v us Q I rx rs ⟨a, p, ys, rfl, rfl, h1, h2, h3⟩
theorem x_zfill {a : Str} {i : Int} (l : PadOk i = true) (h : Q (.str (Txt.zfill a i)) H) : rZfillU (.str a) [.int i] H Q := ⟨l, h⟩
theorem x_join {a : Str} {p : Addr} {ys : List Str} (l : SqL K H p (ys.map V.str)) (z : (ys.map (·.length)).sum + ys.length * a.length ≤ 16777216) (h : Q (.str (Txt.join a ys)) H) : rJoinU K (.str a) [.ref p] H Q := ⟨ys, .inl l, z, h⟩
theorem x_append {p : Addr} {xs : List V} {y : V} (l : H p = some (.lst xs)) (z : xs.length < sizeLine) (h : Q .non (upd H p (.lst (xs ++ [y])))) : rAppend (.ref p) [y] H Q := ⟨p, xs, y, rfl, rfl, l, z, h⟩
/-! a def of the text that is called -/
structure Cal (P : Program) (w : World) (K : PySem.W.Frag) (mg : Str → Option Value) (base : Heap) (k : Nat) (x : Str) (ps : List Str) (sp : Sp) : Prop where
  ex : ∃ (f : Addr) (fd : FuncData), FnOk P w K mg base (L2.CX P w) k f fd ps sp ∧ mg x = some (.ref f) ∧ PySem.W.keepIn K (.ref f) = true ∧ Binds K fd ps []
theorem Cal.mono {P : Program} {w : World} {mg : Str → Option Value} {base : Heap} {j k : Nat} {x : Str} {ps : List Str} {sp : Sp} (c : Cal P w K mg base j x ps sp) (h : j ≤ k) : Cal P w K mg base k x ps sp := by
  obtain ⟨f, fd, a, b⟩ := c.ex
  exact ⟨f, fd, a.mono h, b⟩
section
variable {k : Nat} {x : Str} {ps : List Str} {sp : Sp} {W : WX} {p pos : Pos} {e : Expr} {es : List Expr} {t : TA}
theorem pe_cal (C : Cal X.prog X.w X.K X.mg X.base k x ps sp) (hr : Room k X.A) (tk : Takes X W) (hg : Gl X x) (ha : PA X (e :: es) t)
    (hdb : (x == ("__debug__" : Str)) = false := by decide) (he : starEach (e :: es) X.env = (false, eval e X.env) :: starEach es X.env := by rfl) (hpl : (backTo pos (starEach es X.env)).any (·.1) = false := by rfl) :
    PE X (.Call (.Name x p) (e :: es) [] pos) (tCallS sp (WE W) t) := by
  obtain ⟨f, fd, G, hm, hk, hb⟩ := C.ex
  exact pe_callS G hr hg hm hk hb (fun σ => passAt tk σ) ha hdb he hpl
end
end
section
variable {K : PySem.W.Frag} {H : Hp} {Q : VK} {σ : L2.St} {D : Ends}
theorem x_for {wi : TI} {g : TG} {tb : TS} (h : wi σ H fun J H1 => ∃ W : Nat → Nat → L2.St → Hp → Prop, (∃ m, W 0 m σ H1) ∧ ∀ i m σ H, W i m σ H →
  (J.stop i H ∧ D.nx σ H) ∨ (J.go i H ∧ ∃ N : L2.St → Hp → Prop, (∀ σ' H', N σ' H' → ∃ m', m' < m ∧ W (i + 1) m' σ' H') ∧ ∀ x H', J.yld i H x H' → g x σ H' fun σ2 H2 => tb { D with nx := N, ct := N, bk := D.nx } σ2 H2)) : tFor wi g tb D σ H := h
theorem x_rng1 {ta : TA} {R : It → Hp → Prop} (h : ta σ H fun vs H1 => ∃ j : Int, vs = [.int j] ∧ -(2 ^ 62) ≤ j ∧ j < 2 ^ 62 ∧ R (Itr 0 j.toNat) H1) : iRng1 ta σ H R := h
theorem x_rngk1 {j : Int} {R : Int → Prop} (h1 : -4611686018427387904 ≤ j) (h2 : j < 4611686018427387904) (h : R j) : ∃ j' : Int, [V.int j] = [.int j'] ∧ -(2 ^ 62) ≤ j' ∧ j' < 2 ^ 62 ∧ R j' := ⟨j, rfl, h1, h2, h⟩
theorem x_rng2 {ta : TA} {R : It → Hp → Prop} (h : ta σ H fun vs H1 => ∃ i j : Int, vs = [.int i, .int j] ∧ (-(2 ^ 62) ≤ i ∧ i < 2 ^ 62 ∧ -(2 ^ 62) ≤ j ∧ j < 2 ^ 62) ∧ R (Itr i (j - i).toNat) H1) : iRng2 ta σ H R := h
theorem x_rngk2 {i j : Int} {R : Int → Int → Prop} (h1 : -4611686018427387904 ≤ i) (h2 : i < 4611686018427387904) (h3 : -4611686018427387904 ≤ j) (h4 : j < 4611686018427387904) (h : R i j) :
    ∃ i' j' : Int, [V.int i, V.int j] = [.int i', .int j'] ∧ (-(2 ^ 62) ≤ i' ∧ i' < 2 ^ 62 ∧ -(2 ^ 62) ≤ j' ∧ j' < 2 ^ 62) ∧ R i' j' := ⟨i, j, rfl, ⟨h1, h2, h3, h4⟩, h⟩
theorem x_rng3 {ta : TA} {R : It → Hp → Prop} (h : ta σ H fun vs H1 => ∃ (i j c : Int) (n : Nat), vs = [.int i, .int j, .int c] ∧ RgC i j c n ∧ R (Itc i c n) H1) : iRng3 ta σ H R := h
theorem x_iList {tl : TE} {R : It → Hp → Prop} (h : tl σ H fun x H1 => ∃ a, x = .ref a ∧ (∃ xs, SqL K H1 a xs) ∧ R (Itl K a) H1) : iList K tl σ H R := h
theorem x_iListk {a : Addr} {xs : List V} {R : Addr → Prop} (l : SqL K H a xs) (h : R a) : ∃ a', V.ref a = .ref a' ∧ (∃ xs, SqL K H a' xs) ∧ R a' := ⟨a, rfl, ⟨xs, l⟩, h⟩
theorem x_iTup {tl : TE} {R : It → Hp → Prop} (h : tl σ H fun x H1 => ∃ a, x = .ref a ∧ (∃ xs, SqT K H1 a xs) ∧ R (Itt K a) H1) : iTup K tl σ H R := h
theorem x_iTupk {a : Addr} {xs : List V} {R : Addr → Prop} (l : SqT K H a xs) (h : R a) : ∃ a', V.ref a = .ref a' ∧ (∃ xs, SqT K H a' xs) ∧ R a' := ⟨a, rfl, ⟨xs, l⟩, h⟩
theorem x_while {c : TT} {tb : TS} (Pv : Nat → L2.St → Hp → Prop) (h0 : ∃ m, Pv m σ H) (hs : ∀ m σ H, Pv m σ H → c σ H fun b H1 => if b = true then ∃ N : L2.St → Hp → Prop, (∀ σ' H', N σ' H' → ∃ m', m' < m ∧ Pv m' σ' H') ∧ tb { D with nx := N, ct := N, bk := D.nx } σ H1 else D.nx σ H1) : tWhile c tb D σ H := ⟨Pv, h0, hs⟩
theorem x_turn {Pv : Nat → L2.St → Hp → Prop} {m : Nat} {R : (L2.St → Hp → Prop) → Prop} (h : R fun σ' H' => ∃ m', m' < m ∧ Pv m' σ' H') : ∃ N : L2.St → Hp → Prop, (∀ σ' H', N σ' H' → ∃ m', m' < m ∧ Pv m' σ' H') ∧ R N := ⟨_, fun _ _ q => q, h⟩
theorem x_gtup {n : Nat} {t : TGs} {a : Addr} {xs : List V} {R : L2.St → Hp → Prop} (l : SqT K H a xs) (e : xs.length = n) (h : t xs σ H R) : gTup K n t (.ref a) σ H R := ⟨a, xs, rfl, l, e, h⟩
theorem x_gcons {t : TG} {u : TGs} {v : V} {r : List V} {R : L2.St → Hp → Prop} (h : t v σ H fun σ' H' => u r σ' H' R) : gCons t u (v :: r) σ H R := ⟨v, r, rfl, h⟩
theorem x_gnil {R : L2.St → Hp → Prop} (h : R σ H) : gNil [] σ H R := ⟨rfl, h⟩
theorem x_divmod {i j : Int} (l : CDivP i j) (h : ∀ p, H p = none → Q (.ref p) (upd H p (.tup [.int (i / j), .int (i % j)]))) : rDivmodW [.int i, .int j] H Q := ⟨l, h⟩
theorem x_revL {te : TE} (h : te σ H fun x H1 => ∃ a xs, x = .ref a ∧ SqL K H1 a xs ∧ ∀ p, H1 p = none → Q (.ref p) (upd H1 p (.lst xs.reverse))) : tRevL K te σ H Q := h
theorem x_revLk {a : Addr} {xs : List V} {R : Addr → List V → Prop} (l : SqL K H a xs) (h : ∀ p, H p = none → R p xs) : ∃ a' xs, V.ref a = .ref a' ∧ SqL K H a' xs ∧ ∀ p, H p = none → R p xs := ⟨a, xs, rfl, l, h⟩
theorem x_strI {i : Int} (l : i.natAbs.log2 < 1920) (h : Q (.str (toString i)) H) : rStrU [.int i] H Q := ⟨l, h⟩
theorem x_intS {a : Str} {n : Int} (e : PySem.intText? a = some n) (l : a.length ≤ 640) (h : Q (.int n) H) : rIntU [.str a] H Q := ⟨n, e, l, h⟩
theorem x_isN {x : V} (h : Q (.bl (decide (x = .non))) H) : rIsN x .non H Q := ⟨rfl, h⟩
theorem x_notN {x : V} (h : Q (.bl (!decide (x = .non))) H) : rNotN x .non H Q := ⟨rfl, h⟩
theorem x_unNeg {i : Int} (h : Q (.int (-i)) H) : rU (fun i => .int (-i)) (.int i) H Q := ⟨i, rfl, h⟩
theorem tyV_str {z : Str} : tyV K "str" (.str z) H := rfl
theorem tyV_lst {p : Addr} {xs : List V} (h : H p = some (.lst xs)) : tyV K "list" (.ref p) H := .inl ⟨rfl, xs, .inl (.inl h)⟩
theorem x_bms {T : Prop} {R : Prop} (t : T) (h : R) : T ∧ R := ⟨t, h⟩
/-! heaps that grow -/
theorem upd_new {a p : Addr} {o u : HO} (h : H a = some u) (n : H p = none) : upd H p o a = some u := by rw [upd_ne (ne_of_none h n)]; exact h
theorem same_new {p : Addr} {o : HO} (n : H p = none) : Same H (upd H p o) := fun b x e => upd_new e n
theorem same_mut {H0 : Hp} {p : Addr} {o : HO} (s : Same H0 H) (n : H0 p = none) : Same H0 (upd H p o) := fun b x e => by rw [upd_ne (ne_of_none e n)]; exact s b x e
theorem same_none {H0 : Hp} {p : Addr} (s : Same H0 H) (n : H p = none) : H0 p = none := s.free n
theorem Same.seqT {H' : Hp} {a : Addr} {xs : List V} (e : Same H H') (h : SqT K H a xs) : SqT K H' a xs := by
  rcases h with (h | ⟨o, h⟩) | h
  · exact .inl (.inl (e _ _ h))
  · exact .inl (.inr ⟨o, e _ _ h⟩)
  · exact .inr h
/-- a constant of the module -/
theorem pe_const {X : Cx} {x : Str} {v : V} {pos : Pos} (c : ∃ u, X.mg x = some u ∧ RelV v u) (hg : Gl X x) (hd : (x == ("__debug__" : Str)) = false := by decide) : PE X (.Name x pos) (tC v) := by
  obtain ⟨u, h, r⟩ := c
  exact pe_glob hg h r hd
/-! ranges with a step of 18 -/
theorem RgC.by18 {i j : Int} (hi : 0 ≤ i) (hj2 : j < 4611686018427387904) (hij : i ≤ j) (hd : (j - i) % 18 = 0) : RgC i j 18 ((j - i) / 18).toNat := by
  have e : Builtin.Range.rangeSize i j 18 = (j - i) / 18 := by
    unfold Builtin.Range.rangeSize
    rw [if_pos (by decide)]
    split <;> omega
  refine ⟨by decide, by decide, ?_, by rw [e]; omega⟩
  unfold Builtin.Range.small
  rw [e]
  simp only [Builtin.Range.rangeFitsLong, Bool.and_eq_true, Bool.or_eq_true, decide_eq_true_eq, beq_iff_eq, show ((18 : Int) > 0) by decide, if_true]
  omega
/-- both ways of a conditional expression give v -/
theorem x_ifE {c : Prop} [Decidable c] {ta tb : TE} {v : V} (h1 : c → ∀ Q : VK, Q v H → ta σ H Q) (h2 : ¬ c → ∀ Q : VK, Q v H → tb σ H Q) (h : Q v H) : if decide c = true then ta σ H Q else tb σ H Q :=
  x_dec (fun c => h1 c Q h) (fun c => h2 c Q h)
theorem at_g {α : Type} {xs : List α} {z : Int} {v : α} (j : Nat) (e : z = (j : Int)) (h : xs[j]? = some v) : atI xs z = some v := by
  rw [e]
  exact atI_nat h
theorem szL {xs : List V} (h : Nat.ble xs.length 100 = true) : xs.length ≤ sizeLine := Nat.le_trans (Nat.le_of_ble_eq_true h) (by decide)
theorem x_andT {ta tb : TE} (h : ta σ H fun x H1 => ∃ k, TruV K x H1 k ∧ if k = true then tb σ H1 Q else Q x H1) : tAndT K ta tb σ H Q := h
theorem x_orT {ta tb : TE} (h : ta σ H fun x H1 => ∃ k, TruV K x H1 k ∧ if k = true then Q x H1 else tb σ H1 Q) : tOrT K ta tb σ H Q := h
theorem x_trvB {b : Bool} {R : Bool → Prop} (h : R b) : ∃ k, TruV K (.bl b) H k ∧ R k := ⟨b, rfl, h⟩
/-- what try wishes of its body -/
def tTryMixD (K : PySem.W.Frag) (tb : WX → TS) (W : WX) : TS := fun D σ H => tb W D σ H
end
end Nv

/-! ### own errors with an own __init__ over a base class of one's own -/
namespace PySem.W
open PySem PySem.Spec PySem.Calls PyProof.Rows
section
variable {prog : Program} {w : World} {A : Around} {E : Value → Shared → Prop} {s : Shared} {K : Frag} {x D : Addr} {ox : Obj} {od : Option Obj}
theorem nv_find_data {C : Addr} {name : Str} {a g : Value} {od : Option Obj} (hc : (clsIn K C).isSome = true) (ha : findIn K (.ref C) name = some (some a)) (hg : specialIn K a "__get__" = some (some g)) (ht : takesIn K a = some true) : findObj K C od name = some (.bind g a) := by
  obtain ⟨cd, hc⟩ := Option.isSome_iff_exists.mp hc
  unfold findObj
  rw [hc, Option.bind_some, ha, Option.bind_some]
  simp [hg, ht]
theorem nv_class {Q : Option Value → Shared → Prop} (hga : findIn K (.ref D) "__getattribute__" = some (some (.builtin "BaseException.__getattribute__"))) (hgt : findIn K (.ref D) "__getattr__" = some none) (hsub : subIn K (.ref D) (.type "BaseException") = some true)
    (hdct : hasDictIn K D = true) (ha : findIn K (.ref D) "__class__" = some (some (.builtin "object.__class__")))
    (hn : specialIn K (.builtin "object.__class__") "__get__" = some (some (.builtin "getset_descriptor.__get__"))) (htk : takesIn K (.builtin "object.__class__") = some true) (hm : mroIn K D (.type "object") = some true)
    (X : K.In s.heap) (I : InstAt s.heap x ox D od) (h : Q (some (.ref D)) { s with toks := s.toks + 1 }) : wpAny (model prog w) A (getAttr? (.ref x) "__class__") Q E s := by
  have hf : findObj K D od "__class__" = some (.bind (.builtin "getset_descriptor.__get__") (.builtin "object.__class__")) := nv_find_data (by obtain ⟨cd, hc, _⟩ := any_some hdct; rw [hc]; rfl) ha hn htk
  obtain ⟨hp, g, d, t, os⟩ := s
  have L0 := I.type (M := model prog w)
  have L1 := looks_findIn (M := model prog w) X hga
  have L2 := looks_findIn (M := model prog w) X hgt
  have L3 := looks_find (M := model prog w) X I hf
  have sub : Looks (model prog w) hp (isInstance (.ref x) (.type "BaseException")) true := L0.andThen (looks_subIn X hsub)
  have hx0 : (false && onTheHeap (Value.builtin "BaseException.__getattribute__")) = false := rfl
  have hx2 : (Value.builtin "BaseException.__getattribute__" == Value.builtin "object.__getattribute__") = false := by decide +kernel
  have hx1 : (onTheHeap (Value.ref D) && Value.builtin "BaseException.__getattribute__" == Value.builtin "object.__getattribute__") = false := by rw [hx2]; rfl
  unfold getAttr? getAttrBy? getAttrBy
  refine wpAny_bind (wpAny_mkText (wpAny_bind (wpAny_attempt (wpAny_holding (wpAny_bind (L0.at (wpAny_bind (L1.at ?_))))))))
  show wpAny _ _ (if (onTheHeap (Value.ref D) && Value.builtin "BaseException.__getattribute__" == Value.builtin "object.__getattribute__") = true then _ else _) _ _ _
  rw [hx1, if_neg Bool.false_ne_true]
  unfold getAttrByItsOwn hookBefore
  refine wpAny_bind ?_
  rw [if_pos (show onTheHeap (Value.ref D) = true from rfl)]
  refine L2.at ?_
  refine wpAny_bind (wpAny_attempt (wpAny_holding ?_))
  unfold callGetattribute
  rw [hx0, if_neg Bool.false_ne_true]
  unfold boundAndCalled
  rw [PySem.F.excAttr_ValueError.ga.bind (.ref x)]
  refine wpAny_bind (wpAny_pure ?_)
  show wpAny _ _ (call (.builtin "BaseException.__getattribute__") [.ref x, .str "__class__" t]) _ _ _
  refine wpAny_call (codeAny_call_builtin PySem.F.excAttr_ValueError.ga.plain PySem.F.entry_bexc_ga ?_)
  refine @check_slot (model prog w) _ _ ⟨hp, g, d, t + 1, os⟩ "BaseException.__getattribute__" "BaseException" "__getattribute__" (.ref x) [.str "__class__" t] [] _ (by decide +kernel) (by decide +kernel) sub (PySem.F.args_bexc_ga (.ref x) (.str "__class__" t)) ?_
  unfold Builtin.«object.__getattribute__»
  refine wpAny_bind (wpAny_of_eq (a := ((Value.ref x : Value), [Value.str "__class__" t])) (by first | rfl | (simp only [slotArgs]; rfl)) ?_)
  refine wpAny_bind (wpAny_pure (wpAny_bind (L0.at (wpAny_bind (L3.at ?_)))))
  show wpAny _ _ (holding [Value.builtin "object.__class__"] (call (.builtin "getset_descriptor.__get__") [.builtin "object.__class__", .ref x, .ref D]) >>= ret) _ _ _
  refine wpAny_bind (wpAny_holding (wpAny_call (class_get (s := ⟨hp, g, d, t + 1, os⟩) (ox := ox) (od := od) X I hm ?_)))
  refine wpAny_pure ?_
  show wpAny _ _ (handedOut (.ref D)) _ _ _
  rw [handedOut_of (v := .ref D) rfl]
  first
    | exact wpAny_pure (wpAny_pure h)
    | exact wpAny_pure h
    | exact wpAny_pure (wpAny_bind (wpAny_pure (wpAny_pure h)))
theorem nv_kitx_exc (hga : findIn K (.ref D) "__getattribute__" = some (some (.builtin "BaseException.__getattribute__"))) (hgt : findIn K (.ref D) "__getattr__" = some none) (hsub : subIn K (.ref D) (.type "BaseException") = some true) (hdct : hasDictIn K D = true) (ha : findIn K (.ref D) "__class__" = some (some (.builtin "object.__class__")))
    (hn : specialIn K (.builtin "object.__class__") "__get__" = some (some (.builtin "getset_descriptor.__get__"))) (htk : takesIn K (.builtin "object.__class__") = some true) (hm : mroIn K D (.type "object") = some true) :
    KitX K (.ref x) (.ref D) (fun h => ∃ od, InstAt h x ox D od) where
  ty := fun _ _ _ ⟨_, I⟩ => I.type
  it := fun _ _ X _ => by
    obtain ⟨cdD, hcD, _⟩ := any_some hdct
    unfold clsIn at hcD
    split at hcD
    · rename_i c' d' cd' sl' ho
      intro A' Q' E' s' k q
      unfold isType loadHead
      exact wpAny_bind (wpAny_loadPart (k _ _ (X _ _ ho)) (wpAny_pure q))
    · cases hcD
  ne := fun h tp dd its n sl X htp => by
    obtain ⟨cdD, hcD, _⟩ := any_some hdct
    refine Bool.eq_false_iff.mpr fun q => ?_
    have e : D = tp := Value.ref.inj (beq_iff_eq.mp q)
    subst e
    unfold clsIn at hcD
    split at hcD
    · rename_i c' d' cd' sl' ho
      have z := (X _ _ ho).symm.trans htp
      cases z
    · cases hcD
  ca := fun X I k => by
    obtain ⟨od, I⟩ := I
    exact nv_class hga hgt hsub hdct ha hn htk hm X I k
end
end PySem.W
namespace Nv
open PySem PySem.Spec PyProof.Rows L2
/-- what the written part says of an own error class -/
structure ECls (K : PySem.W.Frag) (mg : Str → Option Value) (x : Str) (C : Addr) : Prop where
  g : mg x = some (.ref C)
  o : OexC K C
  xf : XfC K C
  ic : ExcC K C
/-- isinstance(e, c), e the error that the suite holds: its class cls, its own dict d -/
def rIsX (K : PySem.W.Frag) (a : Addr) (cls : Value) (d : Option Addr) : List V → Hp → VK → Prop := fun xs H Q => ∃ (D : Addr) (c : V) (cv : Value) (b : Bool), cls = .ref D ∧ ExcC K D ∧ (∀ dd, d = some dd → ∃ fs, H dd = some (.xd fs)) ∧ xs = [.ref a, c] ∧ ClsV c cv ∧ PySem.W.kitOne K (.ref D) cv = some b ∧ Q (.bl b) H
theorem call_isX {X : Cx} {a : Addr} {cls : Value} {d : Option Addr} {oe : Obj} {pn : List (Addr × Obj)} (hz : Zc cls d oe) (hf : ∃ vs, oe.data = .fields vs) :
    CallR (X.suite a ((a, oe) :: pn)) (.builtin "isinstance") (rIsX X.K a cls d) := by
  intro pins s σ H xs us Q I r h
  obtain ⟨D, c, cv, b, rfl, C, hd, rfl, hcv, e, q⟩ := h
  cases r with
  | cons rx rr =>
    cases rr with
    | cons rt rr =>
      cases rr
      cases rx
      have ec := hcv.eq rt
      subst ec
      obtain ⟨hget, _⟩ := I.pin (a, oe) (List.mem_append.mpr (.inl List.mem_cons_self))
      obtain ⟨vs, hv⟩ := hf
      have J : ∃ od, PySem.W.InstAt s.heap a oe D od := by
        obtain ⟨oc, od, oda, osl⟩ := oe
        obtain ⟨h1, h2⟩ := hz
        dsimp only at h1 h2 hv
        subst h1 h2 hv
        cases hdd : od with
        | none => subst hdd; exact ⟨none, hget, rfl, rfl, trivial⟩
        | some dd =>
          obtain ⟨fs, hfs⟩ := hd dd hdd
          have hx : ObjOk X.prog X.w H s.heap dd (.xd fs) := I.hok dd _ hfs
          obtain ⟨mA, ⟨o, _, _, ho, _⟩, _⟩ := hx
          subst hdd
          exact ⟨some o, hget, rfl, rfl, ho⟩
      exact PySem.W.kia_one (PySem.W.nv_kitx_exc C.hg C.hk C.hs C.hd C.ha C.hn C.ht C.hm) I.kIn J e (fun z => nomatch z) fun tk => ⟨.bl b, H, I.kept (t' := tk) fun _ _ z => z, rfl, q⟩
section
variable {X : Cx} {o e : Expr} {es : List Expr} {to te : TE} {ta : TA} {f : Str} {p p' p1 p2 pos : Pos}
/-- Base.__init__(self, ..), Base an own class whose __init__ is ValueError's -/
theorem pe_binit {pl : Sem Bool} {x : Str} {N : Addr} (hg : Gl X x) (hm : X.mg x = some (.ref N)) (hs : PySem.W.specialIn X.K (.ref N) "__getattribute__" = some (some (.builtin "type.__getattribute__"))) (hr : PySem.W.readsIn X.K N (.type "type") = true)
    (vV : PySem.W.findCls X.K (.ref N) (.type "type") "__init__" = some (.val (.builtin "ValueError.__init__"))) (ha : PA X (e :: es) ta) (hdb : (x == ("__debug__" : Str)) = false := by decide)
    (hc : eval (.Call (.Attribute (.Name x p1) "__init__" p2) (e :: es) [] pos) X.env = (do
      let ov ← eval (.Name x p1) X.env
      standAt p2.atName
      let (f, first) ← holding [ov] (getMethod ov "__init__" pl)
      callWith pos f first (backTo pos (starEach (e :: es) X.env)) (backToKw pos (keywordEach [] X.env))) := by rfl)
    (he : starEach (e :: es) X.env = (false, eval e X.env) :: starEach es X.env := by rfl) (hpl : (backTo pos (starEach es X.env)).any (·.1) = false := by rfl) :
    PE X (.Call (.Attribute (.Name x p1) "__init__" p2) (e :: es) [] pos) (tVeI X.K ta) := by
  refine ⟨fun pins s σ H Q I h => ?_⟩
  refine PySem.W.methodCall_KW (ld_glob I hg hm ?_ hdb) hc
  refine PySem.W.method_cls I.kIn hs (PySem.W.cls_value I.kIn hr vV (by decide +kernel) ?_)
  show wpAny _ _ (callWith pos (Value.builtin "ValueError.__init__") [] (backTo pos (starEach (e :: es) X.env)) []) _ _ _
  refine PyProof.Rows.callWith_method1 (thn (ha.run pos pins _ σ H _ (I.tok _) h) fun us s1 ⟨vs, H1, I1, r1, a, C, ws, ev, hl, T, ea, q⟩ => ?_) he hpl
  subst ev
  cases r1 with
  | @cons _ u0 _ ur ra rw' =>
    obtain rfl : u0 = Value.ref a := ra
    have hlen : ur.length ≤ sizeLine := by
      rw [← Paired.length rw', sizeLine_eq]
      omega
    exact oinit_ok T I1 ea hlen fun s' J => ⟨.non, H1, J, rfl, q⟩
end
/-! the error's __init__: its promise -/
/-- the fields of an error, as its own dict has them behind __init__ (the last one first) -/
def sp_init1 (K : PySem.W.Frag) (f : Str) : Sp := fun vs H Q _ => ∃ (a C : Addr) (y : V), vs = [.ref a, y] ∧ OexC K C ∧ PySem.W.findIn K (.ref C) f = some none ∧ H a = some (exo a C none) ∧
  ∀ dx, H dx = none → dx ≠ a → Q .non (upd (upd H dx (exd dx [(f, y)])) a (exo a C (some dx)))
def t_init1 (K : PySem.W.Frag) (m f : Str) : TS := tSeq (tDrop (tVeI K (tCons (tVar 0) (tCons (tC (.str m)) tNil)))) (tOst K f (tVar 0) (tVar 1))
theorem r_init1 (K : PySem.W.Frag) (m f : Str) (N : List Str) (hN : N.length = 2) (vs : List V) (H : Hp) (Q : VK) (E : XK) (h : sp_init1 K f vs H Q E) : t_init1 K m f { nx := fun _ H' => Q .non H', rt := Q } (L2.start N vs) H := by
  obtain ⟨a, C, y, rfl, T, hno, ha, q⟩ := h
  have e : L2.start N [.ref a, y] = [some (.ref a), some y] := by
    unfold L2.start
    rw [hN]
    rfl
  rw [e]
  exact ⟨_, rfl, a, C, [.str m], rfl, (by decide : 1 ≤ 1000), T, ha, y, rfl, _, rfl, a, C, rfl, T, hno, .inl ⟨ha, q⟩⟩
def sp_init2 (K : PySem.W.Frag) (f g : Str) : Sp := fun vs H Q _ => ∃ (a C : Addr) (y z : V), vs = [.ref a, y, z] ∧ OexC K C ∧ PySem.W.findIn K (.ref C) f = some none ∧ PySem.W.findIn K (.ref C) g = some none ∧ H a = some (exo a C none) ∧
  ∀ dx, H dx = none → dx ≠ a → Q .non (upd (upd (upd H dx (exd dx [(f, y)])) a (exo a C (some dx))) dx (exd dx [(g, z), (f, y)]))
def t_init2 (K : PySem.W.Frag) (m f g : Str) : TS := tSeq (tDrop (tVeI K (tCons (tVar 0) (tCons (tC (.str m)) tNil)))) (tSeq (tOst K f (tVar 0) (tVar 1)) (tOst K g (tVar 0) (tVar 2)))
theorem r_init2 (K : PySem.W.Frag) (m f g : Str) (N : List Str) (hN : N.length = 3) (vs : List V) (H : Hp) (Q : VK) (E : XK) (h : sp_init2 K f g vs H Q E) : t_init2 K m f g { nx := fun _ H' => Q .non H', rt := Q } (L2.start N vs) H := by
  obtain ⟨a, C, y, z, rfl, T, hno, hno2, ha, q⟩ := h
  have e : L2.start N [.ref a, y, z] = [some (.ref a), some y, some z] := by
    unfold L2.start
    rw [hN]
    rfl
  rw [e]
  refine ⟨_, rfl, a, C, [.str m], rfl, (by decide : 1 ≤ 1000), T, ha, y, rfl, _, rfl, a, C, rfl, T, hno, .inl ⟨ha, fun dx hd ne => ?_⟩⟩
  refine ⟨z, rfl, _, rfl, a, C, rfl, T, hno2, .inr ⟨dx, [(f, y)], upd_same, ?_, (by decide : 1 ≤ 900), q dx hd ne⟩⟩
  rw [upd_ne ne, upd_same]
/-- behind the making: the error is let go, its dict stands -/
theorem let_go {H : Hp} {a d : Addr} {o1 o2 u : HO} {fs : List (Str × V)} (ha : H a = none) (hd : H d = none) (ne : d ≠ a) : upd (del (upd (upd (upd H a o1) d o2) a u) a) d (.xd fs) = upd H d (.xd fs) := by
  funext b
  by_cases h1 : b = d
  · rw [h1, upd_same, upd_same]
  · rw [upd_ne h1, upd_ne h1]
    by_cases h2 : b = a
    · rw [h2, del_same, ha]
    · rw [del_ne h2, upd_ne h2, upd_ne h1, upd_ne h2]
theorem let_go2 {H : Hp} {a d : Addr} {o1 o2 u v : HO} {fs : List (Str × V)} (ha : H a = none) (hd : H d = none) (ne : d ≠ a) : upd (del (upd (upd (upd (upd H a o1) d o2) a u) d v) a) d (.xd fs) = upd H d (.xd fs) := by
  funext b
  by_cases h1 : b = d
  · rw [h1, upd_same, upd_same]
  · rw [upd_ne h1, upd_ne h1]
    by_cases h2 : b = a
    · rw [h2, del_same, ha]
    · rw [del_ne h2, upd_ne h1, upd_ne h2, upd_ne h1, upd_ne h2]
/-- raise X(y), raise X(y, z): what is wished of it -/
def tRaise1 (C : Addr) (f : Str) (W : WX) (ta : TA) : TS := fun _ σ H => ta σ H fun vs H1 => ∃ y, vs = [y] ∧ ∀ d, H1 d = none → W (.ref C) (some d) σ (upd H1 d (.xd [(f, y)]))
def tRaise2 (C : Addr) (f g : Str) (W : WX) (ta : TA) : TS := fun _ σ H => ta σ H fun vs H1 => ∃ y z, vs = [y, z] ∧ ∀ d, H1 d = none → W (.ref C) (some d) σ (upd H1 d (.xd [(g, z), (f, y)]))
/-- what the text says of the class's own __init__ -/
structure EIni (P : Program) (w : World) (K : PySem.W.Frag) (mg : Str → Option Value) (base : Heap) (k : Nat) (C : Addr) (ps : List Str) (sp : Sp) : Prop where
  ex : ∃ (f : Addr) (fd : FuncData), FnOk P w K mg base (L2.CX P w) k f fd ps sp ∧ PySem.W.findIn K (.ref C) "__init__" = some (some (.ref f)) ∧ PySem.W.typeIn K (.ref f) = some (.type "function") ∧ Binds K fd ps []
theorem PS.weak {X : Cx} {st : Stmt} {t t' : TS} (h : PS X st t) (w : ∀ D σ H, t' D σ H → t D σ H) : PS X st t' := ⟨fun pins s σ H D I q => h.run pins s σ H D I (w D σ H q)⟩
section
variable {X : Cx} {e : Expr} {es : List Expr} {ta : TA} {f g x : Str} {C : Addr} {p pos pos2 : Pos} {k : Nat} {ps : List Str} {W : WX}
/-- an argument list's reading, closed under weaker wishes -/
def tMon (ta : TA) : TA := fun σ H Q => ∃ R : List V → Hp → Prop, ta σ H R ∧ ∀ vs H1, R vs H1 → Q vs H1
theorem pa_mon {es : List Expr} (ha : PA X es ta) : PA X es (tMon ta) :=
  ⟨fun pos pins s σ H Q I ⟨R, h, w⟩ => thn (ha.run pos pins s σ H R I h) fun us s1 ⟨vs, H1, I1, r, q⟩ => ⟨vs, H1, I1, r, w vs H1 q⟩⟩
theorem ps_raise1 (hc : X.calm = true) (T : ECls X.K X.mg x C) (N : EIni X.prog X.w X.K X.mg X.base k C ps (sp_init1 X.K f)) (hno : PySem.W.findIn X.K (.ref C) f = some none) (hr : Room (k + 1) X.A) (tk : Takes X W) (hg : Gl X x) (ha : PA X (e :: es) ta)
    (hdb : (x == ("__debug__" : Str)) = false := by decide) (he : starEach (e :: es) X.env = (false, eval e X.env) :: starEach es X.env := by rfl) (hpl : (backTo pos (starEach es X.env)).any (·.1) = false := by rfl) :
    PS X (.Raise (some (.Call (.Name x p) (e :: es) [] pos)) none pos2) (tRaise1 C f W ta) := by
  obtain ⟨fI, fd, F, iC, tI, hb⟩ := N.ex
  refine PS.weak (ps_raise hc tk (pmk_oex T.o iC tI F hr hb .nil passL hg T.g (pa_mon ha) hdb he hpl)) fun D σ H h => ⟨_, h, fun vs H1 ⟨y, ev, q⟩ => ?_⟩
  subst ev
  refine ⟨(by decide : 1 ≤ 1000), fun a hn => ⟨a, C, y, rfl, T.o, hno, upd_same, fun dx hd ne => ⟨rfl, dx, [(f, y)], upd_same, ?_, ?_, ?_⟩⟩⟩
  · rw [upd_ne ne, upd_same]
  · rw [upd_ne ne] at hd
    exact hd
  · rw [upd_ne ne] at hd
    rw [let_go hn hd ne]
    exact q dx hd
theorem ps_raise2 (hc : X.calm = true) (T : ECls X.K X.mg x C) (N : EIni X.prog X.w X.K X.mg X.base k C ps (sp_init2 X.K f g)) (hno : PySem.W.findIn X.K (.ref C) f = some none) (hno2 : PySem.W.findIn X.K (.ref C) g = some none) (hr : Room (k + 1) X.A) (tk : Takes X W) (hg : Gl X x) (ha : PA X (e :: es) ta)
    (hdb : (x == ("__debug__" : Str)) = false := by decide) (he : starEach (e :: es) X.env = (false, eval e X.env) :: starEach es X.env := by rfl) (hpl : (backTo pos (starEach es X.env)).any (·.1) = false := by rfl) :
    PS X (.Raise (some (.Call (.Name x p) (e :: es) [] pos)) none pos2) (tRaise2 C f g W ta) := by
  obtain ⟨fI, fd, F, iC, tI, hb⟩ := N.ex
  refine PS.weak (ps_raise hc tk (pmk_oex T.o iC tI F hr hb .nil passL hg T.g (pa_mon ha) hdb he hpl)) fun D σ H h => ⟨_, h, fun vs H1 ⟨y, z, ev, q⟩ => ?_⟩
  subst ev
  refine ⟨(by decide : 2 ≤ 1000), fun a hn => ⟨a, C, y, z, rfl, T.o, hno, hno2, upd_same, fun dx hd ne => ⟨rfl, dx, [(g, z), (f, y)], ?_, upd_same, ?_, ?_⟩⟩⟩
  · rw [upd_ne ne.symm, upd_same]
  · rw [upd_ne ne] at hd
    exact hd
  · rw [upd_ne ne] at hd
    rw [let_go2 hn hd ne]
    exact q dx hd
end
/-! ### try with several clauses, with or without a name -/
def wMix (K : PySem.W.Frag) (Wout : WX) (D : Ends) : List (Value × Option Nat × (Addr → Value → Option Addr → TS)) → WX
  | [] => Wout
  | (c, none, ts) :: r => fun cls d σ H => ∃ b, PySem.W.exmOne K cls c = some b ∧ (b = true → ∀ a, H a = none → ts a cls d D σ H) ∧ (b = false → wMix K Wout D r cls d σ H)
  | (c, some i, ts) :: r => fun cls d σ H => ∃ b, PySem.W.exmOne K cls c = some b ∧ (b = true → ∀ a, H a = none → ts a cls d { nx := fun σ' H' => D.nx (σ'.set i none) H', rt := D.rt, bk := fun σ' H' => D.bk (σ'.set i none) H', ct := fun σ' H' => D.ct (σ'.set i none) H' } (σ.set i (some (.ref a))) H) ∧
      (b = false → wMix K Wout D r cls d σ H)
/-- try: the body under the clauses' wish -/
def tTryMix (K : PySem.W.Frag) (tb : WX → TS) (Wout : WX) (l : List (Value × Option Nat × (Addr → Value → Option Addr → TS))) : TS := fun D σ H => tb (wMix K Wout D l) D σ H
inductive HdsMix (X : Cx) : List ExceptHandler → List (Value × Option Nat × (Addr → Value → Option Addr → TS)) → Prop
  | nil : HdsMix X [] []
  | bare {x : Str} {c : Value} {ts : Addr → Value → Option Addr → TS} {b₀ : Stmt} {suite : List Stmt} {np pos' : Pos} {hds : List ExceptHandler} {l : List (Value × Option Nat × (Addr → Value → Option Addr → TS))} (hc : Names X x c)
      (hsu : ∀ (a : Addr) (oe : Obj) (cls : Value) (d : Option Addr) (pn : List (Addr × Obj)), Zc cls d oe → (∃ vs, oe.data = .fields vs) → PSs (X.suite a ((a, oe) :: pn)) (b₀ :: suite) (ts a cls d)) (r : HdsMix X hds l) :
      HdsMix X (.ExceptHandler (some (.Name x np)) none (b₀ :: suite) pos' :: hds) ((c, none, ts) :: l)
  | named {x n : Str} {i : Nat} {c : Value} {ts : Addr → Value → Option Addr → TS} {b₀ : Stmt} {suite : List Stmt} {np pos' : Pos} {hds : List ExceptHandler} {l : List (Value × Option Nat × (Addr → Value → Option Addr → TS))} (hN : X.N.Nodup) (hi : X.N[i]? = some n) (hln : X.env.kindOf n = some .local) (hc : Names X x c)
      (hsu : ∀ (a : Addr) (oe : Obj) (cls : Value) (d : Option Addr) (pn : List (Addr × Obj)), Zc cls d oe → (∃ vs, oe.data = .fields vs) → PSs (X.suite a ((a, oe) :: pn)) (b₀ :: suite) (ts a cls d)) (r : HdsMix X hds l) :
      HdsMix X (.ExceptHandler (some (.Name x np)) (some n) (b₀ :: suite) pos' :: hds) ((c, some i, ts) :: l)
section
variable {X : Cx} {body : List Stmt} {h₀ : ExceptHandler} {hds : List ExceptHandler} {l : List (Value × Option Nat × (Addr → Value → Option Addr → TS))} {pos : Pos} {tb : WX → TS} {Wout : WX}
theorem ps_try_mix (hs : X.stack = X.env :: X.outer) (hf : X.env.frame = some X.env.locals) (tk : Takes X Wout)
    (hb : ∀ (W : WX) (pn : List (Addr × Obj)) (xe : Value → Shared → Prop), Takes (X.tr pn xe) W → PassesOwn (model X.prog X.w) X.A X.env xe → PSs (X.tr pn xe) body (tb W))
    (hh : HdsMix X (h₀ :: hds) l) : PS X (.Try body (h₀ :: hds) [] [] pos) (tTryMix X.K tb Wout l) := by
  refine ⟨fun pins s σ H D I h => ?_⟩
  have ok := I.ok
  have hfr : X.A.frames = some (X.env :: X.outer) := by rw [ok.frames, hs]
  refine wpAny_Try_except ?_
  refine wpAny_mono ((hb (wMix X.K Wout D l) (X.pn ++ pins) (fun e s₁ => wpAny (model X.prog X.w) X.A (noteFrame e X.env) (fun _ s₂ => wpAny (model X.prog X.w) X.A (setFlight e none) (fun _ s₃ =>
    wpAny (model X.prog X.w) X.A (handleBy e X.env (h₀ :: hds)) (SP X pins D) X.xe s₃) X.xe s₂) X.xe s₁) (fun u s' xx => ?_) PassesOwn.looking).run [] s σ H D (I.toTry _) h) (fun f s1 hsp => ?_) (fun e s1 he => he)
  · obtain ⟨a, B, sI, pins', σ', H', cls, d, rfl, J', nb, up, sky, na, os, ag, w⟩ := xx
    have J : Inv X pins σ' H' sI := J'.ofTry ok
    have sky' : Sky B (X.env :: X.outer) a (Zc cls d) X.env.locals s'.heap := by rw [← hs]; exact sky
    show wpAny (model X.prog X.w) X.A (noteFrame (.ref a) X.env) _ _ _
    refine Sky.land Zc.steady hfr hf sky' fun h3 fl3 up3 => ?_
    have J3 : Inv X pins σ' H' { s' with heap := h3 } := J.landed nb fl3.1 (up.trans up3) os ag
    obtain ⟨oe3, vs3, he3, hz3, hd3⟩ := fl3.there
    have notFr : ∀ {h : Heap} {o : Obj} {vs : Array Value}, h.FunFrames B (X.env :: X.outer) → h.get? a = some o → o.data = .fields vs → a ∉ frs (X.env :: X.outer) := fun {h o vs} ff e dd hm => by
      obtain ⟨_, o', e', hnf⟩ := ff.mem hm
      rw [e] at e'; cases e'
      exact hnf _ dd
    have nfr := notFr fl3.2.2.1 he3 hd3
    have nL : a ≠ X.env.locals := fun z => nfr (List.mem_filterMap.mpr ⟨X.env, List.mem_cons_self, by rw [hf, z]⟩)
    have nF : a ∉ X.fs := fun hm => by
      obtain ⟨e, he, q⟩ := List.mem_filterMap.mp hm
      exact nfr (List.mem_filterMap.mpr ⟨e, List.mem_cons_of_mem _ he, q⟩)
    have S3 := J3.suite he3 hd3 na nL nF
    have go : ∀ {hds' : List ExceptHandler} {l' : List (Value × Option Nat × (Addr → Value → Option Addr → TS))}, HdsMix X hds' l' → wMix X.K Wout D l' cls d σ' H' →
        wpAny (model X.prog X.w) X.A (handleBy (.ref a) X.env hds') (SP X pins D) X.xe { s' with heap := h3 } := by
      intro hds' l' hk
      induction hk with
      | nil =>
        intro w
        refine wpAny_handleBy_nil ?_
        obtain ⟨k1, k2, k3, oe, vs, T, oT, ts', he, hz, hd, h1, hr⟩ := id fl3
        unfold PySem.passOn
        refine wpAny_bind (wpAny_field he hd h1 ?_)
        rw [if_neg (show ¬ ((Value.ref T == Value.none) = true) from by simp)]
        have fin : wpAny (model X.prog X.w) X.A (setFlight (.ref a) X.env.frame) (fun _ s4 => wpAny (model X.prog X.w) X.A (throw (.ref a) : Sem Flow) (SP X pins D) X.xe s4) X.xe { s' with heap := h3 } := by
          rw [hf]
          refine HandSPX.setFlight_upZ fl3 fun h4 hh4 up4 => wpAny_throw (tk _ _ ?_)
          exact ⟨a, B, sI, pins, σ', H', cls, d, rfl, J, nb, (up.trans up3).trans up4, .inr (.inr (by rw [hs]; exact hh4)), na, os, ag, w⟩
        first
          | exact wpAny_bind (wpAny_pure (wpAny_bind fin))
          | exact wpAny_bind fin
      | @bare x c ts b₀ suite np pos' hds2 l2 hc hsu r ih =>
        intro w
        obtain ⟨b, hb1, hyes, hno⟩ := w
        refine wpAny_handleBy_cons (codeAny_handlers_test ?_) (by intro q; cases q)
        have LT : PySem.W.Looks (model X.prog X.w) h3 (typeOf (.ref a)) cls := fun A Q E s k q => wpAny_typeOf_ref (k _ _ he3) (by rw [hz3.1]; exact q)
        have LM := PySem.W.exm_one (M := model X.prog X.w) (J3.kIn) LT hb1
        have test : ∀ {Q : Value → Shared → Prop} {E : Value → Shared → Prop}, Q c { s' with heap := h3 } → wpAny (model X.prog X.w) (X.A.mark (some (.ref a))) (eval (.Name x np) X.env) Q E { s' with heap := h3 } := fun {Q E} q => by
          obtain ⟨hg, hdbg, hm | ⟨hm, hv, hnn⟩⟩ := hc
          · exact ld_glob (X := X.suite a ((a, oe3) :: (X.pn ++ pins))) S3 hg hm q hdbg
          · exact ld_blt (X := X.suite a ((a, oe3) :: (X.pn ++ pins))) S3 hg hm hv q hnn hdbg
        refine test (LM.here ?_)
        cases b with
        | true =>
          refine codeAny_handlers_suite ?_
          refine HandSPX.lands_againZ fl3 fun h4 fl4 up4 => ?_
          have J4 : Inv X pins σ' H' { s' with heap := h4 } := J.landed nb fl4.1 ((up.trans up3).trans up4) os ag
          obtain ⟨oe4, vs4, he4, hz4, hd4⟩ := fl4.there
          have S4 := J4.suite he4 hd4 na nL nF
          refine wpAny_mono ((hsu a oe4 cls d (X.pn ++ pins) hz4 ⟨_, hd4⟩).run [] _ _ H' _ S4 (hyes rfl a na)) (fun f s6 hsp => ?_) (fun _ _ z => False.elim z)
          cases f with
          | next =>
            obtain ⟨σ6, H6, S6, q6⟩ := hsp
            exact ⟨_, _, S6.unsuite ok, q6⟩
          | brk =>
            obtain ⟨σ6, H6, S6, q6⟩ := hsp
            exact ⟨_, _, S6.unsuite ok, q6⟩
          | cont =>
            obtain ⟨σ6, H6, S6, q6⟩ := hsp
            exact ⟨_, _, S6.unsuite ok, q6⟩
          | ret u =>
            obtain ⟨v6, σ6, H6, S6, r6, q6⟩ := hsp
            exact ⟨_, _, _, S6.unsuite ok, r6, q6⟩
        | false =>
          show wpAny _ X.A (handleBy (.ref a) X.env hds2) _ _ _
          exact ih (hno rfl)
      | @named x n i c ts b₀ suite np pos' hds2 l2 hN hi hln hc hsu r ih =>
        intro w
        obtain ⟨b, hb1, hyes, hno⟩ := w
        have hloc : Loc X.env.scope n := .inl hln
        refine wpAny_handleBy_cons (codeAny_handlers_test ?_) (by intro q; cases q)
        have LT : PySem.W.Looks (model X.prog X.w) h3 (typeOf (.ref a)) cls := fun A Q E s k q => wpAny_typeOf_ref (k _ _ he3) (by rw [hz3.1]; exact q)
        have LM := PySem.W.exm_one (M := model X.prog X.w) (J3.kIn) LT hb1
        have test : ∀ {Q : Value → Shared → Prop} {E : Value → Shared → Prop}, Q c { s' with heap := h3 } → wpAny (model X.prog X.w) (X.A.mark (some (.ref a))) (eval (.Name x np) X.env) Q E { s' with heap := h3 } := fun {Q E} q => by
          obtain ⟨hg, hdbg, hm | ⟨hm, hv, hnn⟩⟩ := hc
          · exact ld_glob (X := X.suite a ((a, oe3) :: (X.pn ++ pins))) S3 hg hm q hdbg
          · exact ld_blt (X := X.suite a ((a, oe3) :: (X.pn ++ pins))) S3 hg hm hv q hnn hdbg
        refine test (LM.here ?_)
        cases b with
        | true =>
          refine codeAny_handlers_suite_as ?_
          refine HandSPX.lands_againZ fl3 fun h4 fl4 up4 => ?_
          have J4 : Inv X pins σ' H' { s' with heap := h4 } := J.landed nb fl4.1 ((up.trans up3).trans up4) os ag
          obtain ⟨oe4, vs4, he4, hz4, hd4⟩ := fl4.there
          have S4 := J4.suite he4 hd4 na nL nF
          refine store_ok (X := X.suite a ((a, oe4) :: (X.pn ++ pins))) (v := .ref a) S4 hN hi hloc rfl (fun s5 S5 => ?_) (.inr hln)
          refine wpAny_mono ((hsu a oe4 cls d (X.pn ++ pins) hz4 ⟨_, hd4⟩).run [] s5 _ H' _ S5 (hyes rfl a na)) (fun f s6 hsp => ?_) (fun _ _ z => False.elim z)
          have end_ : ∀ {σ6 : L2.St} {H6 : Hp} {Q : Shared → Prop}, Inv (X.suite a ((a, oe4) :: (X.pn ++ pins))) [] σ6 H6 s6 → (∀ s7, Inv X pins (σ6.set i none) H6 s7 → Q s7) →
              wpAny (model X.prog X.w) X.A (do bindName X.env n .none; unbindBehindTheSuite X.env n pos') (fun _ s7 => Q s7) X.xe s6 := fun {σ6 H6 Q} S6 hq => gone_ok (S6.unsuite ok) hN hi hln hq
          cases f with
          | next =>
            obtain ⟨σ6, H6, S6, q6⟩ := hsp
            exact end_ S6 fun s7 J7 => ⟨_, _, J7, q6⟩
          | brk =>
            obtain ⟨σ6, H6, S6, q6⟩ := hsp
            exact end_ S6 fun s7 J7 => ⟨_, _, J7, q6⟩
          | cont =>
            obtain ⟨σ6, H6, S6, q6⟩ := hsp
            exact end_ S6 fun s7 J7 => ⟨_, _, J7, q6⟩
          | ret u =>
            obtain ⟨v6, σ6, H6, S6, r6, q6⟩ := hsp
            exact end_ S6 fun s7 J7 => ⟨_, _, _, J7, r6, q6⟩
        | false =>
          show wpAny _ X.A (handleBy (.ref a) X.env hds2) _ _ _
          exact ih (hno rfl)
    exact go hh w
  · cases f with
    | next =>
      obtain ⟨σ', H', J', q⟩ := hsp
      exact wpAny_execs_nil ⟨σ', H', J'.ofTry ok, q⟩
    | brk =>
      obtain ⟨σ', H', J', q⟩ := hsp
      exact ⟨σ', H', J'.ofTry ok, q⟩
    | cont =>
      obtain ⟨σ', H', J', q⟩ := hsp
      exact ⟨σ', H', J'.ofTry ok, q⟩
    | ret u =>
      obtain ⟨v, σ', H', J', r, q⟩ := hsp
      exact ⟨v, σ', H', J'.ofTry ok, r, q⟩
end

theorem l_init1 {K : PySem.W.Frag} {f : Str} {vs : List V} {H : Hp} {Q : VK} {E : XK} (h : sp_init1 K f vs H Q E) : vs.length = 2 := by obtain ⟨_, _, _, rfl, _⟩ := h; rfl
theorem l_init2 {K : PySem.W.Frag} {f g : Str} {vs : List V} {H : Hp} {Q : VK} {E : XK} (h : sp_init2 K f g vs H Q E) : vs.length = 3 := by obtain ⟨_, _, _, _, rfl, _⟩ := h; rfl
/-- the base class of the errors -/
structure EBase (K : PySem.W.Frag) (mg : Str → Option Value) (x : Str) (N : Addr) : Prop where
  g : mg x = some (.ref N)
  s : PySem.W.specialIn K (.ref N) "__getattribute__" = some (some (.builtin "type.__getattribute__"))
  r : PySem.W.readsIn K N (.type "type") = true
  v : PySem.W.findCls K (.ref N) (.type "type") "__init__" = some (.val (.builtin "ValueError.__init__"))
theorem noX {P : Program} {w : World} {H : Hp} {s s' : Shared} {e : Value} (h : L2.CX P w [] H s (fun _ _ _ => False) e s') : False := by
  obtain ⟨_, _, _, _, _, _, _, _, _, _, _, _, z⟩ := h
  exact z.elim
/-- L2.walk_of, where the promise hangs on classes that the facts bring -/
theorem walk_ofE {l : PySem.W.OpenLaw} {n k : Nat} {q : Program} {loose : List Str} {XP : (Str → Option Value) → Heap → Prop} {YP : World → Heap → Prop} {d : DefRec} {K : Params → PySem.W.Frag} {CX : World → CXT} {sp : PySem.W.Frag → Kap → Sp} {x : Str}
    (hn : l.most = some n) (hn2 : n ≤ sizeLine) (hdf : d.params.defaults = []) (hr : Room k callerA)
    (hY : ∀ (w : World) (h : Heap), YP w h → (K w.params).In h)
    (F : ∀ (w : World) (mg : Str → Option Value) (fa : Addr) (h : Heap), (K w.params).In h → h.Ns mainGlobals mg → mg d.name = some (.ref fa) →
      ∃ (κ : Kap) (fd : FuncData), (∀ (s : Shared) (u : Value), BindsTo s fd ⟨[u], []⟩ [(x, u)]) ∧
        ∀ base : Heap, (K w.params).In base → base.Ns mainGlobals mg → FnOk l.prog w (K w.params) mg base (CX w) k fa fd [x] (sp (K w.params) κ))
    (hsp : ∀ (K : PySem.W.Frag) (κ : Kap) (H : Hp) (a : Addr) (ns : List Int), ns.length ≤ n → Only H → SqL K H a (ns.map V.int) → sp K κ [.ref a] H (fun v _ => v = .bl true) fun _ _ _ => False)
    (hCX : ∀ (w : World) (H : Hp) (s : Shared) (e : Value) (s' : Shared), CX w [] H s (fun _ _ _ => False) e s' → False) :
    PySem.W.WalkO q loose XP YP l.row.toRowW d [] (fun f vs => PySem.call f vs) := by
  refine Att.attach_call hn hdf fun w s₀ s₁ mg mb fa o pm cd doc a vs ns G Y ho hd hcd hmg hobj hints hlen hg => ?_
  have KX := hY w _ Y
  obtain ⟨κ, fd, hb, hF⟩ := F w mg fa _ KX G.T.g hmg
  exact law_call KX G.T.g G.T.b G.T.builtins G.T.nolimit hg hobj hints (Nat.le_trans hlen hn2) hr hF hb (fun H hO hS => hsp _ κ H a ns hlen hO hS) fun H e s' => hCX w H s₁ e s'
section
variable {D : Ends} {σ : L2.St} {H : Hp} {Q : VK} {K : PySem.W.Frag}
theorem x_try {tb : WX → TS} {Wout : WX} {l : List (Value × Option Nat × (Addr → Value → Option Addr → TS))} (h : tb (wMix K Wout D l) D σ H) : tTryMix K tb Wout l D σ H := h
theorem w_no {Wout : WX} {c : Value} {o : Option Nat} {ts : Addr → Value → Option Addr → TS} {r : List (Value × Option Nat × (Addr → Value → Option Addr → TS))} {cls : Value} {d : Option Addr} (e : PySem.W.exmOne K cls c = some false) (h : wMix K Wout D r cls d σ H) : wMix K Wout D ((c, o, ts) :: r) cls d σ H := by
  cases o with
  | none => exact ⟨false, e, (fun z => nomatch z), fun _ => h⟩
  | some i => exact ⟨false, e, (fun z => nomatch z), fun _ => h⟩
theorem w_bare {Wout : WX} {c : Value} {ts : Addr → Value → Option Addr → TS} {r : List (Value × Option Nat × (Addr → Value → Option Addr → TS))} {cls : Value} {d : Option Addr} (e : PySem.W.exmOne K cls c = some true) (h : ∀ a, H a = none → ts a cls d D σ H) : wMix K Wout D ((c, none, ts) :: r) cls d σ H :=
  ⟨true, e, (fun _ => h), (fun z => nomatch z)⟩
theorem w_named {Wout : WX} {c : Value} {i : Nat} {ts : Addr → Value → Option Addr → TS} {r : List (Value × Option Nat × (Addr → Value → Option Addr → TS))} {cls : Value} {d : Option Addr} (e : PySem.W.exmOne K cls c = some true)
    (h : ∀ a, H a = none → ts a cls d { nx := fun σ' H' => D.nx (σ'.set i none) H', rt := D.rt, bk := fun σ' H' => D.bk (σ'.set i none) H', ct := fun σ' H' => D.ct (σ'.set i none) H' } (σ.set i (some (.ref a))) H) : wMix K Wout D ((c, some i, ts) :: r) cls d σ H :=
  ⟨true, e, (fun _ => h), (fun z => nomatch z)⟩
theorem x_xf {a : Addr} {C dd : Addr} {fs : List (Str × V)} {f : Str} {v : V} {i : Nat} (hi : σ[i]? = some (some (.ref a))) (hd : H dd = some (.xd fs)) (l : fs.lookup f = some v) (h : Q v H) : tXf a (.ref C) (some dd) C f (tVar i) σ H Q :=
  ⟨.ref a, hi, rfl, rfl, dd, fs, v, rfl, hd, l, h⟩
theorem x_isX {a D' dd : Addr} {fs : List (Str × V)} {c : V} {cv : Value} {b : Bool} (C : ExcC K D') (hd : H dd = some (.xd fs)) (hc : ClsV c cv) (k : PySem.W.kitOne K (.ref D') cv = some b) (h : Q (.bl b) H) : rIsX K a (.ref D') (some dd) [.ref a, c] H Q :=
  ⟨D', c, cv, b, rfl, C, fun d' e => by cases e; exact ⟨fs, hd⟩, rfl, hc, k, h⟩
end
theorem tyX_same {K : PySem.W.Frag} {H H' : Hp} {v : V} {t : Value} (h : TyX K H v t) (s : Same H H') : TyX K H' v t := by
  cases h with
  | base h =>
    refine .base ?_
    cases h with
    | non => exact .non
    | bl x => exact .bl x
    | int x => exact .int x
    | str x => exact .str x
    | flt x => exact .flt x
    | lst e => exact .lst (s _ _ e)
    | frz e => exact .frz (s _ _ e)
    | tup e => exact .tup (s _ _ e)
    | dK e => exact .dK (s _ _ e)
    | dT e => exact .dT (s _ _ e)
    | ins e cl ha hn htk hm => exact .ins (s _ _ e) cl ha hn htk hm
  | byt b => exact .byt b
  | set e => exact .set (s _ _ e)
  | kList e c => exact .kList e c
  | kTuple e c => exact .kTuple e c
  | kDict e c => exact .kDict e c
  | fTuple e => exact .fTuple (s _ _ e)
  | fDict e => exact .fDict (s _ _ e)
theorem nv_kit_own {K : PySem.W.Frag} {D N : Addr} (hd : PySem.W.hasDictIn K N = true) (ht : PySem.W.typeIn K (.ref N) = some (.type "type")) (h : PySem.W.subIn K (.ref D) (.ref N) = some true) : PySem.W.kitOne K (.ref D) (.ref N) = some true := by
  unfold PySem.W.kitOne
  by_cases e : (Value.ref D == Value.ref N) = true
  · rw [if_pos e]
  · rw [if_neg e]
    obtain ⟨cd, hc, _⟩ := PySem.W.any_some hd
    have e2 : ((PySem.W.clsIn K N).isSome && PySem.W.typeIn K (.ref N) == some (.type "type")) = true := by rw [hc, ht] <;> rfl
    show (if ((PySem.W.clsIn K N).isSome && PySem.W.typeIn K (.ref N) == some (.type "type")) = true then PySem.W.subIn K (.ref D) (.ref N) else none) = some true
    rw [if_pos e2]
    exact h
theorem nv_kit_ty {K : PySem.W.Frag} {D : Addr} {T : String} (hm : PySem.W.kitMeta T = true) (h : PySem.W.subIn K (.ref D) (.type T) = some true) : PySem.W.kitOne K (.ref D) (.type T) = some true := by
  unfold PySem.W.kitOne
  rw [if_neg (show ¬ (Value.ref D == Value.type T) = true from Bool.false_ne_true)]
  show (if PySem.W.kitMeta T = true then PySem.W.subIn K (.ref D) (.type T) else none) = some true
  rw [if_pos hm]
  exact h
end Nv

namespace Nv
open PySem PySem.Spec PyProof.Rows L2 TL
/-! ### texts as lists of codes -/
def S (l : List Nat) : Str := ⟨l.toArray⟩
theorem tl_S (l : List Nat) : tl (S l) = l := rfl
theorem S_tl (x : Str) : S (tl x) = x := ext_tl rfl
theorem S_app (a b : List Nat) : S (a ++ b) = S a ++ S b := ext_tl (by rw [tl_append]; rfl)
theorem S_len (l : List Nat) : (S l).length = l.length := by rw [len_tl]; rfl
theorem S_inj {a b : List Nat} (h : S a = S b) : a = b := congrArg tl h
theorem sizeOf_line {n : Nat} (h : n ≤ 16777216) : n ≤ sizeLine := by rw [sizeLine_eq]; exact h
theorem sizeLt_line {n : Nat} (h : n < 16777216) : n < sizeLine := by rw [sizeLine_eq]; exact h
theorem cut_pre (l : List Nat) (n : Nat) : cutS (S l) none (some (n : Int)) = S (l.take n) := by
  refine ext_tl ?_
  show (l.drop 0).take (HT.sIx (S l).length (S l).length (some (n : Int)) - 0) = l.take n
  rw [List.drop_zero, HT.sIx_nat, S_len, Nat.sub_zero]
  by_cases h : n ≤ l.length
  · rw [Nat.min_eq_left h]
  · rw [Nat.min_eq_right (by omega), List.take_of_length_le (Nat.le_refl _), List.take_of_length_le (by omega)]
theorem cut_suf (l : List Nat) (n : Nat) : cutS (S l) (some (n : Int)) none = S (l.drop n) := by
  refine ext_tl ?_
  show (l.drop (HT.sIx (S l).length 0 (some (n : Int)))).take (HT.sIx (S l).length (S l).length none - HT.sIx (S l).length 0 (some (n : Int))) = l.drop n
  rw [HT.sIx_nat, HT.sIx_none, S_len]
  by_cases h : n ≤ l.length
  · rw [Nat.min_eq_left h, List.take_of_length_le (by rw [List.length_drop]; omega)]
  · rw [Nat.min_eq_right (by omega), List.drop_of_length_le (Nat.le_refl _), List.drop_of_length_le (by omega), List.take_nil]
theorem cut_mid (l : List Nat) (a b : Nat) (h : a ≤ b) : cutS (S l) (some (a : Int)) (some (b : Int)) = S ((l.drop a).take (b - a)) := by
  refine ext_tl ?_
  show (l.drop (HT.sIx (S l).length 0 (some (a : Int)))).take (HT.sIx (S l).length (S l).length (some (b : Int)) - HT.sIx (S l).length 0 (some (a : Int))) = (l.drop a).take (b - a)
  rw [HT.sIx_nat, HT.sIx_nat, S_len]
  by_cases ha : a ≤ l.length
  · rw [Nat.min_eq_left ha]
    by_cases hb : b ≤ l.length
    · rw [Nat.min_eq_left hb]
    · rw [Nat.min_eq_right (by omega), List.take_of_length_le (by rw [List.length_drop]; omega), List.take_of_length_le (by rw [List.length_drop]; omega)]
  · rw [Nat.min_eq_right (by omega), Nat.min_eq_right (by omega), List.drop_of_length_le (Nat.le_refl _), List.drop_of_length_le (by omega), List.take_nil, List.take_nil]
/-! ### decimal digits -/
def padL : Nat → Nat → List Nat
  | 0, _ => []
  | k + 1, g => padL k (g / 10) ++ [48 + g % 10]
theorem padL_len : ∀ k g, (padL k g).length = k
  | 0, _ => rfl
  | k + 1, g => by
    show (padL k (g / 10) ++ [48 + g % 10]).length = k + 1
    rw [List.length_append, padL_len k]
    rfl
theorem padL_zero : ∀ k, padL k 0 = List.replicate k 48
  | 0 => rfl
  | k + 1 => by
    show padL k 0 ++ [48] = _
    rw [padL_zero k, List.replicate_succ']
theorem numL_pad {v : Nat} (hv : 0 < v) : ∀ k g, g < 10 ^ k → numL (v * 10 ^ k + g) = numL v ++ padL k g
  | 0, g, h => by
    have e : g = 0 := by simpa using h
    subst e
    show numL (v * 1 + 0) = numL v ++ []
    rw [List.append_nil, Nat.mul_one]
    rfl
  | k + 1, g, h => by
    have h1 : g / 10 < 10 ^ k := by
      rw [Nat.pow_succ] at h
      omega
    have p : 0 < 10 ^ k := Nat.pow_pos (by decide)
    have big : 10 ≤ v * 10 ^ (k + 1) := by
      have q : 1 * 1 ≤ v * 10 ^ k := Nat.mul_le_mul hv p
      rw [Nat.pow_succ, ← Nat.mul_assoc]
      omega
    have e1 : (v * 10 ^ (k + 1) + g) / 10 = v * 10 ^ k + g / 10 := by
      rw [Nat.pow_succ, ← Nat.mul_assoc]
      omega
    have e2 : (v * 10 ^ (k + 1) + g) % 10 = g % 10 := by
      rw [Nat.pow_succ, ← Nat.mul_assoc]
      omega
    rw [numL_step (by omega), e1, e2, numL_pad hv k _ h1, List.append_assoc]
    rfl
theorem pad_num : ∀ k g, g < 10 ^ k → 0 < k → padL k g = List.replicate (k - (numL g).length) 48 ++ numL g
  | 0, g, _, h => absurd h (by decide)
  | k + 1, g, hg, _ => by
    show padL k (g / 10) ++ [48 + g % 10] = _
    by_cases h : g < 10
    · rw [numL_lt h, show g / 10 = 0 by omega, padL_zero, Nat.mod_eq_of_lt h]
      rfl
    · have h1 : g / 10 < 10 ^ k := by
        rw [Nat.pow_succ] at hg
        omega
      have hk : 0 < k := by
        cases k with
        | zero =>
          rw [Nat.pow_zero] at h1
          omega
        | succ k => exact Nat.succ_pos k
      rw [pad_num k _ h1 hk, numL_step (n := g) (by omega), List.length_append, List.append_assoc]
      show List.replicate (k - (numL (g / 10)).length) 48 ++ _ = List.replicate (k + 1 - ((numL (g / 10)).length + 1)) 48 ++ _
      rw [Nat.add_sub_add_right]
theorem zfill_num {k g : Nat} (h : g < 10 ^ k) (hk : 0 < k) : Txt.zfill (Str.ofString (toString ((g : Nat) : Int))) (k : Int) = S (padL k g) := by
  refine ext_tl ?_
  have e : tl (Str.ofString (toString ((g : Nat) : Int))) = numL g := tl_num g
  have el : (Str.ofString (toString ((g : Nat) : Int))).length = (numL g).length := by rw [len_tl, e]
  have p := pad_num k g h hk
  have hl := padL_len k g
  unfold Txt.zfill
  rw [tl_S, el]
  by_cases c : (k : Int) ≤ ((numL g).length : Int)
  · rw [if_pos c, e, p, show k - (numL g).length = 0 by omega]
    rfl
  · rw [if_neg c]
    have hd : ∃ c r, numL g = c :: r ∧ c ≠ 43 ∧ c ≠ 45 := by
      have dg := numL_digits g
      cases q : numL g with
      | nil => exact absurd q (numL_ne g)
      | cons c r =>
        rw [q] at dg
        have := dg.head
        exact ⟨c, r, rfl, by omega, by omega⟩
    obtain ⟨c0, r0, q, n1, n2⟩ := hd
    have z : (Str.ofString (toString ((g : Nat) : Int))).cps[0]? = some c0 := by
      have : (Str.ofString (toString ((g : Nat) : Int))).cps.toList[0]? = some c0 := by
        show (tl _)[0]? = _
        rw [e, q]
        rfl
      simpa using this
    unfold zfilled
    rw [z]
    have fin : tl (Builtin.Str.padded (Str.ofString (toString ((g : Nat) : Int))) ((k : Int).toNat - (numL g).length) 0 48) = padL k g := by
      unfold Builtin.Str.padded
      show (Array.replicate ((k : Int).toNat - (numL g).length) 48 ++ (Str.ofString (toString ((g : Nat) : Int))).cps ++ Array.replicate 0 48).toList = _
      rw [Array.toList_append, Array.toList_append, Array.toList_replicate, Array.toList_replicate]
      show List.replicate ((k : Int).toNat - (numL g).length) 48 ++ tl (Str.ofString (toString ((g : Nat) : Int))) ++ List.replicate 0 48 = _
      rw [e, p, List.replicate_zero, List.append_nil]
      rfl
    split
    · rename_i y; cases y; exact absurd rfl n1
    · rename_i y; cases y; exact absurd rfl n2
    · exact fin
/-- the text of an integer -/
def decS (v : Int) : Str := if v < 0 then S (45 :: numL v.natAbs) else S (numL v.natAbs)
theorem str_num (n : Nat) : Str.ofString (toString ((n : Nat) : Int)) = S (numL n) := ext_tl (tl_num n)
theorem str_nn {v : Int} (h : 0 ≤ v) : Str.ofString (toString v) = S (numL v.natAbs) := by
  obtain ⟨n, rfl⟩ := Int.eq_ofNat_of_zero_le h
  exact str_num n
/-! ### values of digits -/
def vald (l : List Nat) : Nat := NumText.digitsVal l
theorem foldl_val (l : List Nat) : ∀ a : Nat, l.foldl (fun acc c => acc * 10 + (c - 48)) a = a * 10 ^ l.length + l.foldl (fun acc c => acc * 10 + (c - 48)) 0 := by
  induction l with
  | nil => intro a; simp
  | cons c r ih =>
    intro a
    rw [List.foldl_cons, List.foldl_cons, ih (a * 10 + (c - 48)), ih (0 * 10 + (c - 48)), List.length_cons, Nat.pow_succ, Nat.zero_mul, Nat.zero_add, Nat.add_mul, Nat.mul_assoc, Nat.add_assoc]
    congr 1
    rw [Nat.mul_comm 10]
theorem vald_app (a b : List Nat) : vald (a ++ b) = vald a * 10 ^ b.length + vald b := by
  unfold vald NumText.digitsVal
  rw [List.foldl_append, foldl_val]
theorem vald_num (n : Nat) : vald (numL n) = n := numL_val n
theorem int_S {l : List Nat} (h : NumText.AllDigits l) (h1 : l ≠ []) (h2 : l.length ≤ 640) : PySem.intText? (S l) = some ((vald l : Nat) : Int) :=
  intText_digits (x := S l) h h1 (by rw [S_len]; omega)
theorem all_take {l : List Nat} (h : NumText.AllDigits l) (n : Nat) : NumText.AllDigits (l.take n) := fun c hc => h c (List.mem_of_mem_take hc)
theorem all_drop {l : List Nat} (h : NumText.AllDigits l) (n : Nat) : NumText.AllDigits (l.drop n) := fun c hc => h c (List.mem_of_mem_drop hc)
/-! ### where a text of an integer breaks -/
def isDig (c : Nat) : Bool := 48 ≤ c && c ≤ 57
def fbeg (l : List Nat) : Nat := if l.take 1 = [45] then 1 else 0
def fbad (l : List Nat) (i : Nat) : Bool := match l[i]? with
  | none => false
  | some c => !isDig c || (i == fbeg l && c == 48 && fbeg l == 1) || (i == fbeg l + 1 && l[fbeg l]? == some 48)
/-- the index of the first bad place at or behind i, n places being left -/
def fscan (l : List Nat) : Nat → Nat → Option Nat
  | 0, _ => none
  | n + 1, i => if fbad l i = true then some i else fscan l n (i + 1)
def ferr (l : List Nat) : Option Nat := match fscan l (l.length - fbeg l) (fbeg l) with
  | some i => some (i + 1)
  | none => if l.length = fbeg l then some (fbeg l + 1) else none
theorem fscan_none {l : List Nat} : ∀ {n i : Nat}, (∀ j, i ≤ j → j < i + n → fbad l j = false) → fscan l n i = none
  | 0, _, _ => rfl
  | n + 1, i, h => by
    show (if fbad l i = true then some i else fscan l n (i + 1)) = none
    rw [h i (Nat.le_refl _) (by omega), if_neg Bool.false_ne_true]
    exact fscan_none fun j h1 h2 => h j (by omega) (by omega)
theorem fscan_some {l : List Nat} : ∀ {n i j : Nat}, (∀ k, i ≤ k → k < j → fbad l k = false) → fbad l j = true → i ≤ j → j < i + n → fscan l n i = some j
  | 0, i, j, _, _, h1, h2 => by omega
  | n + 1, i, j, h, hb, h1, h2 => by
    show (if fbad l i = true then some i else fscan l n (i + 1)) = some j
    by_cases e : i = j
    · subst e
      rw [if_pos hb]
    · rw [h i (Nat.le_refl _) (by omega), if_neg Bool.false_ne_true]
      exact fscan_some (fun k h3 h4 => h k (by omega) h4) hb (by omega) (by omega)
theorem numL_head {n : Nat} (h : 0 < n) : ∃ c r, numL n = c :: r ∧ c ≠ 48 := by
  induction n using Nat.strongRecOn with
  | _ n ih =>
    by_cases q : n < 10
    · exact ⟨48 + n, [], numL_lt q, by omega⟩
    · obtain ⟨c, r, e, hc⟩ := ih (n / 10) (by omega) (by omega)
      exact ⟨c, r ++ [48 + n % 10], by rw [numL_step (by omega), e]; rfl, hc⟩
theorem isDig_of {c : Nat} (h : 48 ≤ c ∧ c ≤ 57) : isDig c = true := by
  unfold isDig
  rw [decide_eq_true h.1, decide_eq_true h.2]
  rfl
theorem ferr_num (n : Nat) : ferr (numL n) = none := by
  have dg := numL_digits n
  have ne := numL_ne n
  have b0 : fbeg (numL n) = 0 := by
    unfold fbeg
    rw [if_neg]
    intro e
    have : 45 ∈ numL n := List.mem_of_mem_take (by rw [e]; exact List.mem_cons_self)
    have := dg 45 this
    omega
  unfold ferr
  rw [b0]
  have s : fscan (numL n) ((numL n).length - 0) 0 = none := fscan_none fun j _ hj => by
    unfold fbad
    rw [b0]
    have hl : j < (numL n).length := by omega
    rw [List.getElem?_eq_getElem hl]
    show (!isDig (numL n)[j] || (j == 0 && (numL n)[j] == 48 && (0 : Nat) == 1) || (j == 0 + 1 && (numL n)[0]? == some 48)) = false
    rw [isDig_of (dg _ (List.getElem_mem hl))]
    by_cases h0 : n < 10
    · have hl' : (numL n).length = 1 := by rw [numL_lt h0]; rfl
      have : j = 0 := by omega
      subst this
      simp
    · obtain ⟨c, r, e, hc⟩ := numL_head (n := n) (by omega)
      have h2 : ((numL n)[0]? == some 48) = false := by
        rw [e]
        show (some c == some 48) = false
        simpa using hc
      rw [h2, Bool.and_false]
      simp
  rw [s]
  have : ¬ (numL n).length = 0 := fun e => ne (List.length_eq_zero_iff.mp e)
  show (if (numL n).length = 0 then some (0 + 1) else none) = none
  rw [if_neg this]
theorem ferr_neg {n : Nat} (h : 0 < n) : ferr (45 :: numL n) = none := by
  have dg := numL_digits n
  have ne := numL_ne n
  have b0 : fbeg (45 :: numL n) = 1 := rfl
  obtain ⟨c, r, e, hc⟩ := numL_head h
  unfold ferr
  rw [b0]
  have s : fscan (45 :: numL n) ((45 :: numL n).length - 1) 1 = none := fscan_none fun j h1 hj => by
    unfold fbad
    rw [b0]
    obtain ⟨i, rfl⟩ : ∃ i, j = i + 1 := ⟨j - 1, by omega⟩
    have hl : i < (numL n).length := by
      rw [List.length_cons] at hj
      omega
    rw [List.getElem?_cons_succ, List.getElem?_eq_getElem hl]
    show (!isDig (numL n)[i] || (i + 1 == 1 && (numL n)[i] == 48 && (1 : Nat) == 1) || (i + 1 == 1 + 1 && (45 :: numL n)[1]? == some 48)) = false
    rw [isDig_of (dg _ (List.getElem_mem hl))]
    have h2 : ((45 :: numL n)[1]? == some 48) = false := by
      rw [e]
      show (some c == some 48) = false
      simpa using hc
    rw [h2, Bool.and_false]
    by_cases hi : i = 0
    · subst hi
      have h3 : (numL n)[0] = c := by simp [e]
      rw [h3]
      have : (c == 48) = false := by simpa using hc
      rw [this]
      rfl
    · have : (i + 1 == 1) = false := by simpa using hi
      rw [this]
      rfl
  rw [s]
  show (if (45 :: numL n).length = 1 then some (1 + 1) else none) = none
  rw [if_neg]
  rw [List.length_cons]
  intro q
  exact ne (List.length_eq_zero_iff.mp (by omega))
end Nv

namespace Nv
open PySem PySem.Spec PyProof.Rows L2 TL
local macro_rules | `(tactic| walk_at "sx") => `(tactic| repeat (first
  | with_reducible refine x_seq ?_ | with_reducible refine x_asg ?_ | with_reducible refine x_name ?_ | ((with_reducible show tVar _ _ _ _); refine x_var rfl ?_) | with_reducible refine x_c ?_ | with_reducible refine x_op ?_
  | with_reducible refine x_un ?_ | with_reducible refine x_drop ?_ | with_reducible refine x_ret ?_ | with_reducible refine x_retN ?_ | with_reducible refine x_next ?_ | with_reducible refine x_ifS ?_ | with_reducible refine x_if ?_
  | with_reducible refine x_test ?_ | with_reducible refine x_blk ?_ | with_reducible refine x_and ?_ | with_reducible refine x_or ?_ | with_reducible refine x_not ?_ | with_reducible refine x_nil ?_ | with_reducible refine x_cons ?_
  | with_reducible refine x_cb ?_ | with_reducible refine x_call ?_ | with_reducible refine x_lst ?_ | with_reducible refine x_tup ?_ | with_reducible refine x_sub ?_ | with_reducible refine x_bm ?_ | with_reducible refine x_bm0 ?_
  | with_reducible refine x_sl ?_ | with_reducible refine x_noPart ?_ | with_reducible refine x_part ?_ | with_reducible refine x_intk ?_ | with_reducible refine x_tru ?_ | with_reducible refine x_truB ?_ | with_reducible refine x_truN ?_ | with_reducible refine x_truI ?_
  | with_reducible refine x_addI ?_ | with_reducible refine x_subI ?_ | with_reducible refine x_ltI ?_ | with_reducible refine x_leI ?_ | with_reducible refine x_gtI ?_ | with_reducible refine x_geI ?_ | with_reducible refine x_eqI ?_ | with_reducible refine x_neI ?_
  | with_reducible refine x_eqS ?_ | with_reducible refine x_neS ?_ | with_reducible refine x_intI ?_ | with_reducible refine x_abs ?_ | with_reducible refine x_inS ?_ | with_reducible refine x_notInS ?_
  | with_reducible refine x_true ?_ | with_reducible refine x_false ?_ | with_reducible refine x_ntrue ?_ | with_reducible refine x_nfalse ?_
  | with_reducible refine x_mulR (by first | decide | omega) (by first | decide | omega) ?_
  | with_reducible refine x_mulL (by first | decide | omega) (by first | decide | omega) ?_
  | with_reducible refine x_modI (by first | decide | assumption | omega) ?_
  | with_reducible refine x_fdivI (by first | decide | assumption | omega) (by first | decide | assumption | omega) ?_
  | with_reducible refine x_powL (k := 1000000000000000000) (by decide) (by decide) (by decide) (by decide) ?_
  | with_reducible refine x_powL (k := 1000000000) (by decide) (by decide) (by decide) (by decide) ?_
  | with_reducible refine x_for ?_ | with_reducible refine x_rng1 ?_ | with_reducible refine x_rng2 ?_ | with_reducible refine x_rng3 ?_ | with_reducible refine x_iList ?_ | with_reducible refine x_iTup ?_
  | with_reducible refine x_rngk1 (by first | decide | omega) (by first | decide | omega) ?_
  | with_reducible refine x_rngk2 (by first | decide | omega) (by first | decide | omega) (by first | decide | omega) (by first | decide | omega) ?_
  | with_reducible refine x_gcons ?_ | with_reducible refine x_gnil ?_ | with_reducible refine x_revL ?_ | with_reducible refine x_isN ?_ | with_reducible refine x_notN ?_ | with_reducible refine x_unNeg ?_
  | with_reducible refine x_bms tyV_str ?_))
def optV : Option Nat → V
  | none => .non
  | some p => .int (p : Int)
def sp_first_error (K : PySem.W.Frag) (κ : Kap) : Sp := fun vs H Q _ => ∃ l : List Nat, vs = [.str (S l)] ∧ l.length ≤ 16000000 ∧ Q (optV (ferr l)) H
def valI (l : List Nat) : Int := if l.take 1 = [45] then -((vald (l.drop 1) : Nat) : Int) else ((vald l : Nat) : Int)
def sp_read_integer (K : PySem.W.Frag) (κ : Kap) : Sp := fun vs H Q E =>
  (∃ l : List Nat, vs = [.str (S l)] ∧ l.length ≤ 16000000 ∧ (ferr l = none → Q (.int (valI l)) H) ∧ ∀ p : Nat, ferr l = some p → ∀ d, H d = none → E (.ref (κ "InvalidNumber")) (some d) (upd H d (.xd [("position", .int (p : Int))]))) ∨
  (∃ (v : V) (m : String), vs = [v] ∧ TyX K H v (.type m) ∧ kitB m "str" = some false ∧ ∀ d, H d = none → E (.ref (κ "InvalidNumber")) (some d) (upd H d (.xd [("position", .int 0)])))
def sp_write_integer (K : PySem.W.Frag) (κ : Kap) : Sp := fun vs H Q _ => ∃ v : Int, vs = [.int v] ∧ (numL v.natAbs).length ≤ 1000000 ∧ ∀ H', Same H H' → Q (.str (decS v)) H'
/-- write_integer, slots ['value', 'rest', 'parts', 'part', 'text'] -/
def t_write_integer (K : PySem.W.Frag) (κ : Kap) (E : XK) : TS :=
  (tSeq (tAsg (tCB rAbsU (tCons (tVar 0) tNil)) (gName 1))
  (tSeq (tAsg (tLst tNil) (gName 2))
  (tSeq (tWhile (tTest (tOp rGeU (tVar 1) (tC (.int 1000000000000000000)))) (tSeq (tAsg (tCB rDivmodW (tCons (tVar 1) (tCons (tC (.int 1000000000000000000)) tNil))) (gTup K 2 (gCons (gName 1) (gCons (gName 3) gNil))))
  (tDrop (tBM K "list" rAppend (tVar 2) (tCons (tBM K "str" rZfillU (tCB rStrU (tCons (tVar 3) tNil)) (tCons (tC (.int 18)) tNil)) tNil)))))
  (tSeq (tDrop (tBM K "list" rAppend (tVar 2) (tCons (tCB rStrU (tCons (tVar 1) tNil)) tNil)))
  (tSeq (tAsg (tBM K "str" (rJoinU K) (tC (.str "")) (tCons (tRevL K (tVar 2)) tNil)) (gName 4))
  (tRet (tIf (tTest (tOp rLtU (tVar 0) (tC (.int 0)))) (tOp (rAddU K) (tC (.str "-")) (tVar 4)) (tVar 4))))))))
abbrev N_write_integer : List Str := ["value", "rest", "parts", "part", "text"]
/-- first_error, slots ['text', 'begin', 'index'] -/
def t_first_error (K : PySem.W.Frag) (κ : Kap) (E : XK) : TS :=
  (tSeq (tAsg (tIf (tTest (tOp rEq (tSl (rSlU K) (tVar 0) tNoPart (tPart (tC (.int 1)))) (tC (.str "-")))) (tC (.int 1)) (tC (.int 0))) (gName 1))
  (tSeq (tFor (iRng2 (tCons (tVar 1) (tCons (tCB (rLenU K) (tCons (tVar 0) tNil)) tNil))) (gName 2) (tSeq (tIfS (tTest (tOp (rNotInU K) (tOp (rIx K) (tVar 0) (tVar 2)) (tC (.str "0123456789")))) (tRet (tOp (rAddU K) (tVar 2) (tC (.int 1)))) tNext)
  (tSeq (tIfS (tAnd (tTest (tOp rEq (tVar 2) (tVar 1))) (tAnd (tTest (tOp rEq (tOp (rIx K) (tVar 0) (tVar 2)) (tC (.str "0")))) (tTest (tOp rEq (tVar 1) (tC (.int 1)))))) (tRet (tOp (rAddU K) (tVar 2) (tC (.int 1)))) tNext)
  (tIfS (tAnd (tTest (tOp rEq (tVar 2) (tOp (rAddU K) (tVar 1) (tC (.int 1))))) (tTest (tOp rEq (tOp (rIx K) (tVar 0) (tVar 1)) (tC (.str "0"))))) (tRet (tOp (rAddU K) (tVar 2) (tC (.int 1)))) tNext))))
  (tSeq (tIfS (tTest (tOp rEq (tCB (rLenU K) (tCons (tVar 0) tNil)) (tVar 1))) (tRet (tOp (rAddU K) (tVar 1) (tC (.int 1)))) tNext)
  (tRet (tC .non)))))
abbrev N_first_error : List Str := ["text", "begin", "index"]
/-- read_integer, slots ['text', 'position', 'digits', 'head', 'value', 'index'] -/
def t_read_integer (K : PySem.W.Frag) (κ : Kap) (E : XK) : TS :=
  (tSeq (tIfS (tNot (tTruU K (tCB (rIsiU K) (tCons (tVar 0) (tCons (tC (.ty "str")) tNil))))) (tRaise1 (κ "InvalidNumber") "position" (fun cls d _ H => E cls d H) (tCons (tC (.int 0)) tNil)) tNext)
  (tSeq (tAsg (tCallS (sp_first_error K κ) (WE (fun cls d _ H => E cls d H)) (tCons (tVar 0) tNil)) (gName 1))
  (tSeq (tIfS (tTest (tOp rNotN (tVar 1) (tC .non))) (tRaise1 (κ "InvalidNumber") "position" (fun cls d _ H => E cls d H) (tCons (tVar 1) tNil)) tNext)
  (tSeq (tAsg (tIf (tTest (tOp rEq (tOp (rIx K) (tVar 0) (tC (.int 0))) (tC (.str "-")))) (tSl (rSlU K) (tVar 0) (tPart (tC (.int 1))) tNoPart) (tVar 0)) (gName 2))
  (tSeq (tAsg (tOp rModU (tCB (rLenU K) (tCons (tVar 2) tNil)) (tC (.int 18))) (gName 3))
  (tSeq (tAsg (tIf (tTest (tOp rGtU (tVar 3) (tC (.int 0)))) (tCB rIntU (tCons (tSl (rSlU K) (tVar 2) tNoPart (tPart (tVar 3))) tNil)) (tC (.int 0))) (gName 4))
  (tSeq (tFor (iRng3 (tCons (tVar 3) (tCons (tCB (rLenU K) (tCons (tVar 2) tNil)) (tCons (tC (.int 18)) tNil)))) (gName 5) (tAsg (tOp (rAddU K) (tOp rMulU (tVar 4) (tC (.int 1000000000000000000))) (tCB rIntU (tCons (tSl (rSlU K) (tVar 2) (tPart (tVar 5)) (tPart (tOp (rAddU K) (tVar 5) (tC (.int 18))))) tNil))) (gName 4)))
  (tRet (tIf (tTest (tOp rEq (tOp (rIx K) (tVar 0) (tC (.int 0))) (tC (.str "-")))) (tUn (rU fun i => .int (-i)) (tVar 4)) (tVar 4))))))))))
abbrev N_read_integer : List Str := ["text", "position", "digits", "head", "value", "index"]
theorem one_eq (c : Nat) (s : String) (d : Nat) (h : Str.ofString s = ⟨#[d]⟩) : (⟨#[c]⟩ : Str) = Str.ofString s ↔ c = d := by
  rw [h]
  constructor
  · intro e
    have := congrArg Str.cps e
    simpa using this
  · intro e
    rw [e]
theorem take1_eq (l : List Nat) : S (l.take 1) = Str.ofString "-" ↔ l.take 1 = [45] := by
  rw [show Str.ofString "-" = S [45] from rfl]
  exact ⟨S_inj, fun e => by rw [e]⟩
theorem digits_mem (c : Nat) : c ∈ (Str.ofString "0123456789").cps.toList ↔ isDig c = true := by
  rw [show (Str.ofString "0123456789").cps.toList = [48, 49, 50, 51, 52, 53, 54, 55, 56, 57] from rfl]
  unfold isDig
  simp only [List.mem_cons, List.not_mem_nil, or_false, Bool.and_eq_true, decide_eq_true_eq]
  omega
theorem ferr_at {l : List Nat} {k : Nat} (h : ∀ j, fbeg l ≤ j → j < k → fbad l j = false) (hb : fbad l k = true) (h1 : fbeg l ≤ k) (h2 : k < l.length) : ferr l = some (k + 1) := by
  unfold ferr
  rw [fscan_some h hb h1 (by omega)]
theorem ferr_end {l : List Nat} (h : ∀ j, fbeg l ≤ j → j < l.length → fbad l j = false) (hb : fbeg l ≤ l.length) : ferr l = if l.length = fbeg l then some (fbeg l + 1) else none := by
  unfold ferr
  rw [fscan_none fun j h1 h2 => h j h1 (by omega)]
theorem fbeg_le (l : List Nat) : fbeg l ≤ l.length := by
  unfold fbeg
  split
  · rename_i h
    cases l with
    | nil => cases h
    | cons a r => simp
  · omega
theorem fbeg_le1 (l : List Nat) : fbeg l ≤ 1 := by
  unfold fbeg
  split <;> omega
theorem fbad_eq {l : List Nat} {k c : Nat} (h : l[k]? = some c) : fbad l k = (!isDig c || (k == fbeg l && c == 48 && fbeg l == 1) || (k == fbeg l + 1 && l[fbeg l]? == some 48)) := by
  unfold fbad
  rw [h]
theorem r_first_error (K : PySem.W.Frag) (κ : Kap) (vs : List V) (H : Hp) (Q : VK) (E : XK) (h : sp_first_error K κ vs H Q E) :
    t_first_error K κ E { nx := fun _ H' => Q .non H', rt := Q } (start N_first_error vs) H := by
  obtain ⟨l, rfl, hl, q⟩ := h
  show t_first_error K κ E _ [some (.str (S l)), none, none] H
  have sl : (S l).length ≤ sizeLine := sizeOf_line (by rw [S_len]; omega)
  have b1 := fbeg_le1 l
  have b2 := fbeg_le l
  unfold t_first_error
  walk_at "sx"
  refine x_slS sl ?_
  rw [show cutS (S l) none (some 1) = S (l.take 1) from cut_pre l 1]
  walk_at "sx"
  refine x_ifE (v := .int (fbeg l : Nat)) (fun c Q' q' => ?_) (fun c Q' q' => ?_) ?_
  · have : fbeg l = 1 := by unfold fbeg; rw [if_pos ((take1_eq l).mp c)]
    rw [this] at q'
    exact q'
  · have : fbeg l = 0 := by unfold fbeg; rw [if_neg fun e => c ((take1_eq l).mpr e)]
    rw [this] at q'
    exact q'
  walk_at "sx"
  refine x_lenS sl ?_
  rw [S_len]
  walk_at "sx"
  refine for_range (fun i σ' H' => H' = H ∧ (∃ z, σ' = [some (.str (S l)), some (.int (fbeg l : Nat)), z]) ∧ ∀ j, fbeg l ≤ j → j < fbeg l + i → fbad l j = false) ⟨rfl, ⟨none, rfl⟩, fun j h1 h2 => by omega⟩ ?_ ?_
  · rintro i σ' H' hi ⟨rfl, ⟨z, rfl⟩, hp⟩
    obtain ⟨k, hk⟩ : ∃ k, k = fbeg l + i := ⟨_, rfl⟩
    have hkl : k < l.length := by omega
    obtain ⟨c, hc⟩ : ∃ c, l[k]? = some c := ⟨_, List.getElem?_eq_getElem hkl⟩
    have hb := fbad_eq hc
    have hat : atI (S l).cps.toList ((fbeg l : Int) + (i : Int)) = some c := at_g k (by omega) hc
    have done : fbad l k = true → Q (.int ((fbeg l : Int) + (i : Int) + 1)) H' := fun e => by
      have := ferr_at (fun j h1 h2 => hp j h1 (by omega)) e (by omega) hkl
      rw [this] at q
      have e2 : (fbeg l : Int) + (i : Int) + 1 = ((k + 1 : Nat) : Int) := by omega
      rw [e2]
      exact q
    have next : fbad l k = false → ∀ j, fbeg l ≤ j → j < fbeg l + (i + 1) → fbad l j = false := fun e j h1 h2 => by
      by_cases hj : j = k
      · rw [hj]; exact e
      · exact hp j h1 (by omega)
    have at0 : fbeg l < l.length → ∃ c0, l[fbeg l]? = some c0 := fun h => ⟨_, List.getElem?_eq_getElem h⟩
    walk_at "sx"
    refine x_ixS sl hat ?_
    walk_at "sx"
    refine x_decN (fun nd => ?_) (fun yd => ?_)
    · walk_at "sx"
      refine done ?_
      rw [hb, Bool.eq_false_iff.mpr fun z => nd ((digits_mem c).mpr z)]
      rfl
    have hd := (digits_mem c).mp yd
    walk_at "sx"
    refine x_dec (fun e1 => ?_) (fun e1 => ?_)
    · have hkb : k = fbeg l := by omega
      walk_at "sx"
      refine x_ixS sl hat ?_
      walk_at "sx"
      refine x_dec (fun e2 => ?_) (fun e2 => ?_)
      · have hc0 : c = 48 := (one_eq c "0" 48 rfl).mp e2
        walk_at "sx"
        refine x_dec (fun e3 => ?_) (fun e3 => ?_)
        · walk_at "sx"
          refine done ?_
          rw [hb, hkb, hc0, show fbeg l = 1 by omega]
          simp
        · walk_at "sx"
          refine x_decF (by omega) ?_
          walk_at "sx"
          refine ⟨rfl, ⟨_, rfl⟩, next ?_⟩
          rw [hb, hd, hkb, show fbeg l = 0 by omega]
          simp
      · have hc0 : c ≠ 48 := fun z => e2 ((one_eq c "0" 48 rfl).mpr z)
        walk_at "sx"
        refine x_decF (by omega) ?_
        walk_at "sx"
        refine ⟨rfl, ⟨_, rfl⟩, next ?_⟩
        rw [hb, hd, hkb]
        simp [hc0]
    · have hkb : k ≠ fbeg l := by omega
      walk_at "sx"
      refine x_dec (fun e2 => ?_) (fun e2 => ?_)
      · obtain ⟨c0, h0⟩ := at0 (by omega)
        walk_at "sx"
        refine x_ixS sl (at_g (fbeg l) rfl h0) ?_
        walk_at "sx"
        refine x_dec (fun e3 => ?_) (fun e3 => ?_)
        · have hc0 : c0 = 48 := (one_eq c0 "0" 48 rfl).mp e3
          walk_at "sx"
          refine done ?_
          rw [hb, h0, hc0, show k = fbeg l + 1 by omega]
          simp
        · have hc0 : c0 ≠ 48 := fun z => e3 ((one_eq c0 "0" 48 rfl).mpr z)
          walk_at "sx"
          refine ⟨rfl, ⟨_, rfl⟩, next ?_⟩
          rw [hb, hd, h0]
          simp [hc0, hkb]
      · walk_at "sx"
        refine ⟨rfl, ⟨_, rfl⟩, next ?_⟩
        have : k ≠ fbeg l + 1 := by omega
        rw [hb, hd]
        simp [hkb, this]
  · rintro σ' H' ⟨rfl, ⟨z, rfl⟩, hp⟩
    have hf := ferr_end (fun j h1 h2 => hp j h1 (by omega)) b2
    walk_at "sx"
    refine x_lenS sl ?_
    rw [S_len]
    walk_at "sx"
    refine x_dec (fun e => ?_) (fun e => ?_)
    · walk_at "sx"
      rw [hf, if_pos (by omega)] at q
      exact q
    · walk_at "sx"
      rw [hf, if_neg (by omega)] at q
      exact q

/-! ### write_integer -/
theorem cdivp_scale (r : Int) : CDivP r 1000000000000000000 := ⟨by decide, by
  unfold Builtin.divisionGoesByPylong
  show (decide ((if ((1000000000000000000 : Int) == 0) = true then 0 else (1000000000000000000 : Int).natAbs.log2 / 30 + 1) > 300) && _) = false
  rw [show decide ((if ((1000000000000000000 : Int) == 0) = true then 0 else (1000000000000000000 : Int).natAbs.log2 / 30 + 1) > 300) = false by decide +kernel]
  rfl⟩
theorem log2_small {n : Nat} (h : n < 2 ^ 1919) : n.log2 < 1920 := by
  by_cases z : n = 0
  · rw [z]; decide
  · exact Nat.lt_of_lt_of_le ((Nat.log2_lt z).mpr h) (by decide)
theorem joinL_nil : ∀ ls : List (List Nat), joinL [] ls = ls.flatten
  | [] => rfl
  | [p] => by show p = p ++ []; rw [List.append_nil]
  | p :: q :: r => by
    show p ++ ([] ++ joinL [] (q :: r)) = p ++ (q :: r).flatten
    rw [List.nil_append, joinL_nil (q :: r)]
theorem join_empty (ls : List (List Nat)) : Txt.join (Str.ofString "") (ls.map S) = S ls.flatten := by
  refine ext_tl ?_
  rw [join_eq, tl_join, show tl (Str.ofString "") = [] from rfl, joinL_nil, List.map_map]
  show (ls.map (fun l => l)).flatten = _
  rw [List.map_id']
  rfl
theorem lens_S (ls : List (List Nat)) : ((ls.map S).map (·.length)).sum = ls.flatten.length := by
  induction ls with
  | nil => rfl
  | cons a r ih =>
    rw [List.map_cons, List.map_cons, List.sum_cons, ih, List.flatten_cons, List.length_append, S_len]
theorem r_write_integer (K : PySem.W.Frag) (κ : Kap) (vs : List V) (H : Hp) (Q : VK) (E : XK) (h : sp_write_integer K κ vs H Q E) :
    t_write_integer K κ E { nx := fun _ H' => Q .non H', rt := Q } (start N_write_integer vs) H := by
  obtain ⟨v, rfl, hl, q⟩ := h
  show t_write_integer K κ E _ [some (.int v), none, none, none, none] H
  have ea : (if v < 0 then -v else v) = ((v.natAbs : Nat) : Int) := by split <;> omega
  unfold t_write_integer
  walk_at "sx"
  rw [ea]
  refine ⟨Nat.zero_le _, fun p hp => ?_⟩
  walk_at "sx"
  refine x_while (fun m σ' H' => ∃ (r : Nat) (ps : List (List Nat)) (z3 : Option V), m = r ∧ σ' = [some (.int v), some (.int r), some (.ref p), z3, none] ∧ Same H H' ∧
    H' p = some (.lst (ps.map fun l => V.str (S l))) ∧ numL v.natAbs = numL r ++ ps.reverse.flatten ∧ (numL r).length + 18 * ps.length = (numL v.natAbs).length)
    ⟨v.natAbs, v.natAbs, [], none, rfl, rfl, same_new hp, upd_same, by simp, by simp⟩ ?_
  rintro m σ' H' ⟨r, ps, z3, rfl, rfl, sm, hP, hn, hs⟩
  walk_at "sx"
  refine x_dec (fun c => ?_) (fun c => ?_)
  · refine x_turn ?_
    walk_at "sx"
    refine x_divmod (cdivp_scale _) fun p2 hp2 => ?_
    refine x_gtup (SqT.of upd_same) rfl ?_
    walk_at "sx"
    have hP2 := upd_new (o := .tup [.int ((m : Int) / 1000000000000000000), .int ((m : Int) % 1000000000000000000)]) hP hp2
    refine x_bms (tyV_lst hP2) ?_
    walk_at "sx"
    have e2 : (m : Int) % 1000000000000000000 = ((m % 10 ^ 18 : Nat) : Int) := by omega
    have e1 : (m : Int) / 1000000000000000000 = ((m / 10 ^ 18 : Nat) : Int) := by omega
    have lt : m % 10 ^ 18 < 10 ^ 18 := Nat.mod_lt _ (by decide)
    rw [e1, e2] at hP2 ⊢
    refine x_strI (log2_small (Nat.lt_trans (by show ((m % 10 ^ 18 : Nat) : Int).natAbs < 10 ^ 18; exact lt) (by decide +kernel))) ?_
    walk_at "sx"
    refine x_zfill rfl ?_
    rw [show Txt.zfill (Str.ofString (toString ((m % 10 ^ 18 : Nat) : Int))) 18 = S (padL 18 (m % 10 ^ 18)) from zfill_num (k := 18) lt (by decide)]
    walk_at "sx"
    have hd : m = m / 10 ^ 18 * 10 ^ 18 + m % 10 ^ 18 := by omega
    have hnum : numL m = numL (m / 10 ^ 18) ++ padL 18 (m % 10 ^ 18) := by
      have := numL_pad (v := m / 10 ^ 18) (by omega) 18 (m % 10 ^ 18) lt
      rw [← hd] at this
      exact this
    refine x_append hP2 (sizeLt_line (by rw [List.length_map]; omega)) ?_
    refine ⟨m / 10 ^ 18, by omega, m / 10 ^ 18, ps ++ [padL 18 (m % 10 ^ 18)], _, rfl, rfl, ?_, ?_, ?_, ?_⟩
    · exact same_mut (Same.trans sm (same_new hp2)) hp
    · rw [upd_same, List.map_append]
      rfl
    · rw [hn, hnum, List.reverse_append, List.append_assoc]
      rfl
    · rw [← hs, hnum, List.length_append, List.length_append, padL_len]
      show _ + 18 * (ps.length + 1) = _
      omega
  · walk_at "sx"
    refine x_bms (tyV_lst hP) ?_
    walk_at "sx"
    refine x_strI (log2_small (Nat.lt_trans (by show ((m : Nat) : Int).natAbs < 10 ^ 18; omega) (by decide +kernel))) ?_
    walk_at "sx"
    rw [str_num]
    refine x_append hP (sizeLt_line (by rw [List.length_map]; omega)) ?_
    walk_at "sx"
    refine x_revLk (SqL.of upd_same) fun q2 hq2 => ?_
    walk_at "sx"
    have el : ((ps.map fun l => V.str (S l)) ++ [V.str (S (numL m))]).reverse = ((numL m :: ps.reverse).map S).map V.str := by
      rw [List.reverse_append, ← List.map_reverse, List.map_cons, List.map_cons, List.map_map]
      rfl
    have ef : (numL m :: ps.reverse).flatten = numL v.natAbs := by rw [hn]; rfl
    refine x_join (ys := (numL m :: ps.reverse).map S) (by rw [el]; exact SqL.of upd_same) ?_ ?_
    · rw [lens_S, ef, show (Str.ofString "").length = 0 from rfl, Nat.mul_zero]
      omega
    rw [join_empty, ef]
    walk_at "sx"
    have fin : Same H (upd (upd H' p (.lst ((ps.map fun l => V.str (S l)) ++ [V.str (S (numL m))]))) q2 (.lst ((ps.map fun l => V.str (S l)) ++ [V.str (S (numL m))]).reverse)) :=
      Same.trans (same_mut sm hp) (same_new hq2)
    have q' := q _ fin
    refine x_dec (fun c2 => ?_) (fun c2 => ?_)
    · walk_at "sx"
      refine x_addS (sizeOf_line ?_) ?_
      · rw [S_len, show (Str.ofString "-").length = 1 from rfl]
        omega
      · rw [show Str.ofString "-" ++ S (numL v.natAbs) = S (45 :: numL v.natAbs) from (S_app [45] _).symm]
        unfold decS at q'
        rw [if_pos c2] at q'
        exact q'
    · walk_at "sx"
      unfold decS at q'
      rw [if_neg c2] at q'
      exact q'

/-! ### read_integer -/
theorem ferr_shape {l : List Nat} (h : ferr l = none) : ∃ ds : List Nat, NumText.AllDigits ds ∧ ds ≠ [] ∧ ((fbeg l = 1 ∧ l = 45 :: ds) ∨ (fbeg l = 0 ∧ l.take 1 ≠ [45] ∧ l = ds)) := by
  have hb := fbeg_le l
  have all : ∀ j, fbeg l ≤ j → j < l.length → fbad l j = false := fun j h1 h2 => by
    cases e : fbad l j with
    | false => rfl
    | true =>
      exfalso
      unfold ferr at h
      have key : ∀ n i, i ≤ j → j < i + n → fscan l n i ≠ none := by
        intro n
        induction n with
        | zero => intro i a b; omega
        | succ n ih =>
          intro i a b
          show (if fbad l i = true then some i else fscan l n (i + 1)) ≠ none
          by_cases c : fbad l i = true
          · rw [if_pos c]; exact fun z => nomatch z
          · rw [if_neg c]
            have : i ≠ j := fun z => c (z ▸ e)
            exact ih (i + 1) (by omega) (by omega)
      cases q : fscan l (l.length - fbeg l) (fbeg l) with
      | none => exact key _ _ h1 (by omega) q
      | some i => rw [q] at h; cases h
  have he := ferr_end all hb
  rw [h] at he
  have hlen : l.length ≠ fbeg l := fun z => by rw [if_pos z] at he; cases he
  have dig : ∀ j c, fbeg l ≤ j → l[j]? = some c → isDig c = true := fun j c h1 hc => by
    have := all j h1 (List.getElem?_eq_some_iff.mp hc).1
    rw [fbad_eq hc] at this
    cases e : isDig c with
    | true => rfl
    | false => rw [e] at this; simp at this
  have dd : ∀ c, isDig c = true → 48 ≤ c ∧ c ≤ 57 := fun c e => by
    unfold isDig at e
    simpa using e
  by_cases t : l.take 1 = [45]
  · have b1 : fbeg l = 1 := by unfold fbeg; rw [if_pos t]
    cases l with
    | nil => cases t
    | cons a r =>
      have : a = 45 := by simpa using t
      subst this
      refine ⟨r, fun c hc => ?_, fun z => hlen (by rw [b1, z]; rfl), .inl ⟨b1, rfl⟩⟩
      obtain ⟨j, hj, e⟩ := List.getElem_of_mem hc
      exact dd c (dig (j + 1) c (by omega) (by rw [List.getElem?_cons_succ, ← e]; exact List.getElem?_eq_getElem hj))
  · have b0 : fbeg l = 0 := by unfold fbeg; rw [if_neg t]
    refine ⟨l, fun c hc => ?_, fun z => hlen (by rw [b0, z]; rfl), .inr ⟨b0, t, rfl⟩⟩
    obtain ⟨j, hj, e⟩ := List.getElem_of_mem hc
    exact dd c (dig j c (by omega) (by rw [← e]; exact List.getElem?_eq_getElem hj))
theorem read_digits {K : PySem.W.Frag} {E : XK} {ds : List Nat} {l : List Nat} {H : Hp} {D : Ends} {rest : TS} {z1 : Option V} (hd : NumText.AllDigits ds) (hn : ds ≠ []) (hl : ds.length ≤ 16000000)
    (hq : ∀ z5, rest D [some (.str (S l)), z1, some (.str (S ds)), some (.int ((ds.length : Int) % 18)), some (.int ((vald ds : Nat) : Int)), z5] H) :
    tSeq (tAsg (tOp rModU (tCB (rLenU K) (tCons (tVar 2) tNil)) (tC (.int 18))) (gName 3))
  (tSeq (tAsg (tIf (tTest (tOp rGtU (tVar 3) (tC (.int 0)))) (tCB rIntU (tCons (tSl (rSlU K) (tVar 2) tNoPart (tPart (tVar 3))) tNil)) (tC (.int 0))) (gName 4))
  (tSeq (tFor (iRng3 (tCons (tVar 3) (tCons (tCB (rLenU K) (tCons (tVar 2) tNil)) (tCons (tC (.int 18)) tNil)))) (gName 5) (tAsg (tOp (rAddU K) (tOp rMulU (tVar 4) (tC (.int 1000000000000000000))) (tCB rIntU (tCons (tSl (rSlU K) (tVar 2) (tPart (tVar 5)) (tPart (tOp (rAddU K) (tVar 5) (tC (.int 18))))) tNil))) (gName 4))) rest)) D [some (.str (S l)), z1, some (.str (S ds)), none, none, none] H := by
  have sl : (S ds).length ≤ sizeLine := sizeOf_line (by rw [S_len]; omega)
  obtain ⟨hh, ehh⟩ : ∃ hh, hh = ds.length % 18 := ⟨_, rfl⟩
  have ei : (ds.length : Int) % 18 = (hh : Int) := by omega
  rw [ei] at hq
  walk_at "sx"
  refine x_lenS sl ?_
  rw [S_len]
  walk_at "sx"
  rw [ei]
  refine x_ifE (v := .int ((vald (ds.take hh) : Nat) : Int)) (fun c Q' q' => ?_) (fun c Q' q' => ?_) ?_
  · walk_at "sx"
    refine x_slS sl ?_
    rw [cut_pre]
    walk_at "sx"
    have hlen : (ds.take hh).length = hh := by rw [List.length_take]; omega
    refine x_intS (int_S (all_take hd hh) (fun z => ?_) (by omega)) (by rw [S_len]; omega) q'
    rw [z] at hlen
    have : hh = 0 := hlen.symm
    omega
  · have : hh = 0 := by omega
    rw [this] at q'
    exact q'
  walk_at "sx"
  refine x_lenS sl ?_
  rw [S_len]
  walk_at "sx"
  refine ⟨_, _, _, _, rfl, RgC.by18 (by omega) (by omega) (by omega) (by omega), ?_⟩
  have en : (((ds.length : Int) - (hh : Int)) / 18).toNat = ds.length / 18 := by omega
  refine for_rangeC (fun i σ' H' => H' = H ∧ ∃ z5, σ' = [some (.str (S l)), z1, some (.str (S ds)), some (.int (hh : Int)), some (.int ((vald (ds.take (hh + 18 * i)) : Nat) : Int)), z5]) ⟨rfl, none, rfl⟩ ?_ ?_
  · rintro i σ' H' hi ⟨rfl, z5, rfl⟩
    walk_at "sx"
    refine x_slS sl ?_
    rw [show (hh : Int) + (i : Int) * 18 = ((hh + 18 * i : Nat) : Int) by omega, show ((hh + 18 * i : Nat) : Int) + 18 = ((hh + 18 * i + 18 : Nat) : Int) by omega, cut_mid _ _ _ (by omega), show hh + 18 * i + 18 - (hh + 18 * i) = 18 by omega]
    walk_at "sx"
    have hlen : ((ds.drop (hh + 18 * i)).take 18).length = 18 := by rw [List.length_take, List.length_drop]; omega
    refine x_intS (int_S (all_take (all_drop hd _) 18) (fun z => ?_) (by omega)) (by rw [S_len]; omega) ?_
    · rw [z] at hlen
      exact absurd hlen (by decide)
    walk_at "sx"
    refine ⟨rfl, some (V.int ((hh + 18 * i : Nat) : Int)), ?_⟩
    have e : ds.take (hh + 18 * (i + 1)) = ds.take (hh + 18 * i) ++ (ds.drop (hh + 18 * i)).take 18 := by
      rw [show hh + 18 * (i + 1) = hh + 18 * i + 18 by omega, List.take_add]
    rw [e, vald_app, hlen]
    show [_, _, _, _, some (V.int (((vald (ds.take (hh + 18 * i)) : Nat) : Int) * 1000000000000000000 + ((vald ((ds.drop (hh + 18 * i)).take 18) : Nat) : Int))), _] = _
    rw [show (((vald (ds.take (hh + 18 * i)) * 10 ^ 18 + vald ((ds.drop (hh + 18 * i)).take 18) : Nat)) : Int) = ((vald (ds.take (hh + 18 * i)) : Nat) : Int) * 1000000000000000000 + ((vald ((ds.drop (hh + 18 * i)).take 18) : Nat) : Int) by omega]
  · rintro σ' H' ⟨rfl, z5, rfl⟩
    have := hq z5
    rw [en, show hh + 18 * (ds.length / 18) = ds.length by omega, List.take_length]
    exact this
theorem r_read_integer (K : PySem.W.Frag) (κ : Kap) (vs : List V) (H : Hp) (Q : VK) (E : XK) (h : sp_read_integer K κ vs H Q E) :
    t_read_integer K κ E { nx := fun _ H' => Q .non H', rt := Q } (start N_read_integer vs) H := by
  rcases h with ⟨l, rfl, hl, q, qe⟩ | ⟨v, m, rfl, ty, kb, qe⟩
  · show t_read_integer K κ E _ [some (.str (S l)), none, none, none, none, none] H
    have sl : (S l).length ≤ sizeLine := sizeOf_line (by rw [S_len]; omega)
    unfold t_read_integer
    walk_at "sx"
    refine x_isi (m := "str") (b := true) (.base (.str _)) (by decide +kernel) ?_
    walk_at "sx"
    refine ⟨l, rfl, hl, ?_⟩
    cases hf : ferr l with
    | some p =>
      walk_at "sx"
      refine x_decNT (fun z => nomatch z) ?_
      exact ⟨_, rfl, _, rfl, qe p hf⟩
    | none =>
      obtain ⟨ds, hd, hn, hc⟩ := ferr_shape hf
      replace q := q hf
      walk_at "sx"
      refine x_decNF rfl ?_
      walk_at "sx"
      rcases hc with ⟨b, rfl⟩ | ⟨b, t, rfl⟩
      · have ix : atI (S (45 :: ds)).cps.toList 0 = some 45 := at_g 0 rfl rfl
        refine x_ixS sl ix ?_
        walk_at "sx"
        refine x_decT rfl ?_
        walk_at "sx"
        refine x_slS sl ?_
        rw [show cutS (S (45 :: ds)) (some 1) none = S ds from cut_suf (45 :: ds) 1]
        refine x_name ?_
        refine read_digits (K := K) (E := E) hd hn (by rw [List.length_cons] at hl; omega) fun z5 => ?_
        walk_at "sx"
        refine x_ixS sl ix ?_
        walk_at "sx"
        refine x_decT rfl ?_
        walk_at "sx"
        exact q
      · obtain ⟨c, r, rfl⟩ : ∃ c r, l = c :: r := by
          cases l with
          | nil => exact absurd rfl hn
          | cons c r => exact ⟨c, r, rfl⟩
        have hc := hd.head
        have ix : atI (S (c :: r)).cps.toList 0 = some c := at_g 0 rfl rfl
        have ne : ¬ (⟨#[c]⟩ : Str) = Str.ofString "-" := fun z => by
          have := (one_eq c "-" 45 rfl).mp z
          omega
        refine x_ixS sl ix ?_
        walk_at "sx"
        refine x_decF ne ?_
        refine x_var rfl ?_
        refine x_name ?_
        refine read_digits (K := K) (E := E) hd hn hl fun z5 => ?_
        walk_at "sx"
        refine x_ixS sl ix ?_
        walk_at "sx"
        refine x_decF ne ?_
        walk_at "sx"
        unfold valI at q
        rw [if_neg t] at q
        exact q
  · show t_read_integer K κ E _ [some v, none, none, none, none, none] H
    unfold t_read_integer
    walk_at "sx"
    refine x_isi ty kb ?_
    walk_at "sx"
    exact ⟨_, rfl, qe⟩
theorem l_first_error {K : PySem.W.Frag} {κ : Kap} {vs : List V} {H : Hp} {Q : VK} {E : XK} (h : sp_first_error K κ vs H Q E) : vs.length = 1 := by obtain ⟨_, rfl, _⟩ := h; rfl
theorem l_read_integer {K : PySem.W.Frag} {κ : Kap} {vs : List V} {H : Hp} {Q : VK} {E : XK} (h : sp_read_integer K κ vs H Q E) : vs.length = 1 := by
  rcases h with ⟨_, rfl, _⟩ | ⟨_, _, rfl, _⟩ <;> rfl
theorem l_write_integer {K : PySem.W.Frag} {κ : Kap} {vs : List V} {H : Hp} {Q : VK} {E : XK} (h : sp_write_integer K κ vs H Q E) : vs.length = 1 := by obtain ⟨_, rfl, _⟩ := h; rfl
end Nv

namespace Nv
open PySem PySem.Spec PyProof.Rows L2 TL
local macro_rules | `(tactic| walk_at "sx") => `(tactic| repeat (first
  | with_reducible refine x_seq ?_ | with_reducible refine x_asg ?_ | with_reducible refine x_name ?_ | ((with_reducible show tVar _ _ _ _); refine x_var rfl ?_) | with_reducible refine x_c ?_ | with_reducible refine x_op ?_
  | with_reducible refine x_un ?_ | with_reducible refine x_drop ?_ | with_reducible refine x_ret ?_ | with_reducible refine x_retN ?_ | with_reducible refine x_next ?_ | with_reducible refine x_ifS ?_ | with_reducible refine x_if ?_
  | with_reducible refine x_test ?_ | with_reducible refine x_blk ?_ | with_reducible refine x_and ?_ | with_reducible refine x_or ?_ | with_reducible refine x_not ?_ | with_reducible refine x_nil ?_ | with_reducible refine x_cons ?_
  | with_reducible refine x_cb ?_ | with_reducible refine x_call ?_ | with_reducible refine x_lst ?_ | with_reducible refine x_tup ?_ | with_reducible refine x_sub ?_ | with_reducible refine x_bm ?_ | with_reducible refine x_bm0 ?_
  | with_reducible refine x_sl ?_ | with_reducible refine x_noPart ?_ | with_reducible refine x_part ?_ | with_reducible refine x_intk ?_ | with_reducible refine x_tru ?_ | with_reducible refine x_truB ?_ | with_reducible refine x_truN ?_ | with_reducible refine x_truI ?_
  | with_reducible refine x_addI ?_ | with_reducible refine x_subI ?_ | with_reducible refine x_ltI ?_ | with_reducible refine x_leI ?_ | with_reducible refine x_gtI ?_ | with_reducible refine x_geI ?_ | with_reducible refine x_eqI ?_ | with_reducible refine x_neI ?_
  | with_reducible refine x_eqS ?_ | with_reducible refine x_neS ?_ | with_reducible refine x_intI ?_ | with_reducible refine x_abs ?_ | with_reducible refine x_inS ?_ | with_reducible refine x_notInS ?_
  | with_reducible refine x_true ?_ | with_reducible refine x_false ?_ | with_reducible refine x_ntrue ?_ | with_reducible refine x_nfalse ?_
  | with_reducible refine x_mulR (by first | decide | omega) (by first | decide | omega) ?_
  | with_reducible refine x_mulL (by first | decide | omega) (by first | decide | omega) ?_
  | with_reducible refine x_modI (by first | decide | assumption | omega) ?_
  | with_reducible refine x_fdivI (by first | decide | assumption | omega) (by first | decide | assumption | omega) ?_
  | with_reducible refine x_powL (k := 1000000000000000000) (by decide) (by decide) (by decide) (by decide) ?_
  | with_reducible refine x_powL (k := 1000000000) (by decide) (by decide) (by decide) (by decide) ?_
  | with_reducible refine x_for ?_ | with_reducible refine x_rng1 ?_ | with_reducible refine x_rng2 ?_ | with_reducible refine x_rng3 ?_ | with_reducible refine x_iList ?_ | with_reducible refine x_iTup ?_
  | with_reducible refine x_rngk1 (by first | decide | omega) (by first | decide | omega) ?_
  | with_reducible refine x_rngk2 (by first | decide | omega) (by first | decide | omega) (by first | decide | omega) (by first | decide | omega) ?_
  | with_reducible refine x_gcons ?_ | with_reducible refine x_gnil ?_ | with_reducible refine x_revL ?_ | with_reducible refine x_isN ?_ | with_reducible refine x_notN ?_ | with_reducible refine x_unNeg ?_
  | with_reducible refine x_bms tyV_str ?_))
/-- _law_taken, slots ['_law_row', '_law_many', '_law_found', '_law_cell'] -/
def t__law_taken (K : PySem.W.Frag) (κ : Kap) (E : XK) : TS :=
  (tSeq (tIfS (tTest (tOp rGtU (tOp (rIx K) (tVar 0) (tC (.int 3))) (tC (.int 0)))) (tSeq (tAsg (tOp rModU (tCB rIntU (tCons (tOp (rIx K) (tVar 0) (tC (.int 3))) tNil)) (tVar 1)) (gName 2))
  (tSeq (tAsg (tOp rFdivU (tOp (rIx K) (tVar 0) (tC (.int 3))) (tVar 1)) (gSub (tVar 0) (tC (.int 3)) rSetL))
  (tRet (tVar 2)))) tNext)
  (tSeq (tAsg (tOp (rAddU K) (tOp (rIx K) (tVar 0) (tC (.int 1))) (tC (.int 1))) (gSub (tVar 0) (tC (.int 1)) rSetL))
  (tSeq (tIfS (tTest (tOp rGtU (tOp (rIx K) (tVar 0) (tC (.int 1))) (tCB (rLenU K) (tCons (tOp (rIx K) (tVar 0) (tC (.int 0))) tNil)))) (tSeq (tAsg (tOp rModU (tCB rIntU (tCons (tOp (rAddU K) (tOp rMulU (tOp (rIx K) (tVar 0) (tC (.int 2))) (tC (.int 48271))) (tC (.int 11))) tNil)) (tC (.int 2147483647))) (gSub (tVar 0) (tC (.int 2)) rSetL))
  (tRet (tOp rModU (tCB rIntU (tCons (tOp rFdivU (tOp (rIx K) (tVar 0) (tC (.int 2))) (tC (.int 7))) tNil)) (tVar 1)))) tNext)
  (tSeq (tAsg (tOp (rIx K) (tOp (rIx K) (tVar 0) (tC (.int 0))) (tOp rSubU (tOp (rIx K) (tVar 0) (tC (.int 1))) (tC (.int 1)))) (gName 3))
  (tSeq (tAsg (tOp rModU (tCB rIntU (tCons (tOp (rAddU K) (tOp (rAddU K) (tOp rMulU (tOp (rIx K) (tVar 0) (tC (.int 2))) (tC (.int 48271))) (tVar 3)) (tC (.int 11))) tNil)) (tC (.int 2147483647))) (gSub (tVar 0) (tC (.int 2)) rSetL))
  (tSeq (tIfS (tTest (tOp rGeU (tVar 3) (tOp rPowU (tC (.int 10)) (tC (.int 18))))) (tAsg (tOp rFdivU (tVar 3) (tVar 1)) (gSub (tVar 0) (tC (.int 3)) rSetL)) tNext)
  (tRet (tOp rModU (tCB rIntU (tCons (tVar 3) tNil)) (tVar 1)))))))))
abbrev N__law_taken : List Str := ["_law_row", "_law_many", "_law_found", "_law_cell"]
/-- the law's row of draws -/
def RowOk (K : PySem.W.Frag) (H : Hp) (r : Addr) : Prop := ∃ (a : Addr) (ns : List Int) (i x d : Int), H r = some (.lst [.ref a, .int i, .int x, .int d]) ∧ SqL K H a (ns.map V.int) ∧ 0 ≤ i ∧ 0 ≤ d
theorem row_seq {K : PySem.W.Frag} {H : Hp} {r a b : Addr} {ns : List Int} {vs : List V} {o : HO} (h : H r = some (.lst (.ref b :: vs))) (l : SqL K H a (ns.map V.int)) : SqL K (upd H r o) a (ns.map V.int) := by
  rcases l with (l | ⟨u, l⟩) | l
  · have ne : a ≠ r := fun e => by
      rw [e, h] at l
      cases ns with
      | nil => cases l
      | cons n ns => cases l
    exact .inl (.inl (by rw [upd_ne ne]; exact l))
  · have ne : a ≠ r := fun e => by
      rw [e, h] at l
      cases l
    exact .inl (.inr ⟨u, by rw [upd_ne ne]; exact l⟩)
  · exact .inr l
def sp__law_taken (K : PySem.W.Frag) (κ : Kap) : Sp := fun vs H Q _ => ∃ (r : Addr) (m : Int), vs = [.ref r, .int m] ∧ RowOk K H r ∧ 0 < m ∧ m < 1073741824 ∧
  ∀ (v : Int) (o : HO), 0 ≤ v → v < m → RowOk K (upd H r o) r → Q (.int v) (upd H r o)
theorem r__law_taken (K : PySem.W.Frag) (κ : Kap) (vs : List V) (H : Hp) (Q : VK) (E : XK) (h : sp__law_taken K κ vs H Q E) :
    t__law_taken K κ E { nx := fun _ H' => Q .non H', rt := Q } (start N__law_taken vs) H := by
  obtain ⟨r, m, rfl, ⟨a, ns, i, x, d, hr, hs, hi, hd⟩, hm, hm2, q⟩ := h
  have ix0 : ∀ {i x d : Int}, atI [V.ref a, .int i, .int x, .int d] 0 = some (.ref a) := fun {_ _ _} => rfl
  have ix1 : ∀ {i x d : Int}, atI [V.ref a, .int i, .int x, .int d] 1 = some (.int i) := fun {_ _ _} => rfl
  have ix2 : ∀ {i x d : Int}, atI [V.ref a, .int i, .int x, .int d] 2 = some (.int x) := fun {_ _ _} => rfl
  have ix3 : ∀ {i x d : Int}, atI [V.ref a, .int i, .int x, .int d] 3 = some (.int d) := fun {_ _ _} => rfl
  show t__law_taken K κ E _ [some (.ref r), some (.int m), none, none] H
  unfold t__law_taken
  walk_at "sx"
  refine x_ixL (SqL.of hr) ix3 ?_
  walk_at "sx"
  refine x_dec (fun c => ?_) (fun c => ?_)
  · walk_at "sx"
    refine x_ixL (SqL.of hr) ix3 ?_
    walk_at "sx"
    refine x_ixL (SqL.of hr) ix3 ?_
    walk_at "sx"
    refine x_set4_3 hr ?_
    walk_at "sx"
    exact q _ _ (Int.emod_nonneg _ (by omega)) (Int.emod_lt_of_pos _ hm) ⟨a, ns, i, x, d / m, upd_same, row_seq hr hs, hi, Int.ediv_nonneg hd (by omega)⟩
  · walk_at "sx"
    refine x_ixL (SqL.of hr) ix1 ?_
    walk_at "sx"
    refine x_set4_1 hr ?_
    walk_at "sx"
    have h1 : (upd H r (.lst [.ref a, .int (i + 1), .int x, .int d])) r = some (.lst [.ref a, .int (i + 1), .int x, .int d]) := upd_same
    have s1 := row_seq (o := .lst [.ref a, .int (i + 1), .int x, .int d]) hr hs
    generalize hH : upd H r (.lst [.ref a, .int (i + 1), .int x, .int d]) = H1 at h1 s1 ⊢
    refine x_ixL (SqL.of h1) ix1 ?_
    walk_at "sx"
    refine x_ixL (SqL.of h1) ix0 ?_
    walk_at "sx"
    refine x_lenL s1 ?_
    walk_at "sx"
    refine x_dec (fun c2 => ?_) (fun c2 => ?_)
    · walk_at "sx"
      refine x_ixL (SqL.of h1) ix2 ?_
      walk_at "sx"
      refine x_set4_2 h1 ?_
      walk_at "sx"
      refine x_ixL (SqL.of upd_same) ix2 ?_
      walk_at "sx"
      rw [← hH, upd_upd]
      exact q _ _ (Int.emod_nonneg _ (by omega)) (Int.emod_lt_of_pos _ hm) ⟨a, ns, _, _, d, upd_same, row_seq hr hs, by omega, hd⟩
    · walk_at "sx"
      refine x_ixL (SqL.of h1) ix0 ?_
      walk_at "sx"
      refine x_ixL (SqL.of h1) ix1 ?_
      walk_at "sx"
      have hl : (i + 1 - 1).toNat < ns.length := by
        rw [List.length_map] at c2
        omega
      refine x_ixL s1 (at_of (j := (i + 1 - 1).toNat) (by omega) (by rw [List.getElem?_map, List.getElem?_eq_getElem hl]; rfl)) ?_
      walk_at "sx"
      refine x_ixL (SqL.of h1) ix2 ?_
      walk_at "sx"
      refine x_set4_2 h1 ?_
      walk_at "sx"
      refine x_dec (fun c3 => ?_) (fun c3 => ?_)
      · walk_at "sx"
        refine x_set4_3 upd_same ?_
        walk_at "sx"
        rw [← hH, upd_upd, upd_upd]
        exact q _ _ (Int.emod_nonneg _ (by omega)) (Int.emod_lt_of_pos _ hm) ⟨a, ns, _, _, _, upd_same, row_seq hr hs, by omega, Int.ediv_nonneg (by omega) (by omega)⟩
      · walk_at "sx"
        rw [← hH, upd_upd]
        exact q _ _ (Int.emod_nonneg _ (by omega)) (Int.emod_lt_of_pos _ hm) ⟨a, ns, _, _, d, upd_same, row_seq hr hs, by omega, hd⟩

theorem use_taken {K : PySem.W.Frag} {κ : Kap} {H : Hp} {r : Addr} {m : Int} {Q : VK} {E : XK} (hr : RowOk K H r) (h1 : 0 < m) (h2 : m < 1073741824)
    (h : ∀ (v : Int) (H' : Hp), 0 ≤ v → v < m → RowOk K H' r → (∀ b, b ≠ r → H' b = H b) → Q (.int v) H') : sp__law_taken K κ [.ref r, .int m] H Q E :=
  ⟨r, m, rfl, hr, h1, h2, fun v o a b c => h v _ a b c fun _ n => upd_ne n⟩
theorem RowOk.same {K : PySem.W.Frag} {H H' : Hp} {r : Addr} (h : RowOk K H r) (s : Same H H') : RowOk K H' r := by
  obtain ⟨a, ns, i, x, d, h1, h2, h3, h4⟩ := h
  exact ⟨a, ns, i, x, d, s _ _ h1, s.seq h2, h3, h4⟩
theorem RowOk.new {K : PySem.W.Frag} {H : Hp} {r p : Addr} {o : HO} (h : RowOk K H r) (n : H p = none) : RowOk K (upd H p o) r := h.same (same_new n)
theorem RowOk.ne {K : PySem.W.Frag} {H : Hp} {r p : Addr} (h : RowOk K H r) (n : H p = none) : p ≠ r := fun e => by
  obtain ⟨a, ns, i, x, d, h1, _⟩ := h
  rw [e, h1] at n
  cases n
theorem at_mem {α : Type} {xs : List α} {v : Int} (h1 : 0 ≤ v) (h2 : v < xs.length) : ∃ x, atI xs v = some x ∧ x ∈ xs := by
  have hl : v.toNat < xs.length := by omega
  exact ⟨xs[v.toNat], at_g v.toNat (by omega) (List.getElem?_eq_getElem hl), List.getElem_mem hl⟩
theorem l__law_taken {K : PySem.W.Frag} {κ : Kap} {vs : List V} {H : Hp} {Q : VK} {E : XK} (h : sp__law_taken K κ vs H Q E) : vs.length = 2 := by obtain ⟨_, _, rfl, _⟩ := h; rfl
end Nv

namespace Nv
open PySem PySem.Spec PyProof.Rows L2 TL
local macro_rules | `(tactic| walk_at "sx") => `(tactic| repeat (first
  | with_reducible refine x_seq ?_ | with_reducible refine x_asg ?_ | with_reducible refine x_name ?_ | ((with_reducible show tVar _ _ _ _); refine x_var rfl ?_) | with_reducible refine x_c ?_ | with_reducible refine x_op ?_
  | with_reducible refine x_un ?_ | with_reducible refine x_drop ?_ | with_reducible refine x_ret ?_ | with_reducible refine x_retN ?_ | with_reducible refine x_next ?_ | with_reducible refine x_ifS ?_ | with_reducible refine x_if ?_
  | with_reducible refine x_test ?_ | with_reducible refine x_blk ?_ | with_reducible refine x_and ?_ | with_reducible refine x_or ?_ | with_reducible refine x_not ?_ | with_reducible refine x_nil ?_ | with_reducible refine x_cons ?_
  | with_reducible refine x_cb ?_ | with_reducible refine x_call ?_ | with_reducible refine x_lst ?_ | with_reducible refine x_tup ?_ | with_reducible refine x_sub ?_ | with_reducible refine x_bm ?_ | with_reducible refine x_bm0 ?_
  | with_reducible refine x_sl ?_ | with_reducible refine x_noPart ?_ | with_reducible refine x_part ?_ | with_reducible refine x_intk ?_ | with_reducible refine x_tru ?_ | with_reducible refine x_truB ?_ | with_reducible refine x_truN ?_ | with_reducible refine x_truI ?_
  | with_reducible refine x_addI ?_ | with_reducible refine x_subI ?_ | with_reducible refine x_ltI ?_ | with_reducible refine x_leI ?_ | with_reducible refine x_gtI ?_ | with_reducible refine x_geI ?_ | with_reducible refine x_eqI ?_ | with_reducible refine x_neI ?_
  | with_reducible refine x_eqS ?_ | with_reducible refine x_neS ?_ | with_reducible refine x_intI ?_ | with_reducible refine x_abs ?_ | with_reducible refine x_inS ?_ | with_reducible refine x_notInS ?_
  | with_reducible refine x_true ?_ | with_reducible refine x_false ?_ | with_reducible refine x_ntrue ?_ | with_reducible refine x_nfalse ?_
  | with_reducible refine x_mulR (by first | decide | omega) (by first | decide | omega) ?_
  | with_reducible refine x_mulL (by first | decide | omega) (by first | decide | omega) ?_
  | with_reducible refine x_modI (by first | decide | assumption | omega) ?_
  | with_reducible refine x_fdivI (by first | decide | assumption | omega) (by first | decide | assumption | omega) ?_
  | with_reducible refine x_powL (k := 1000000000000000000) (by decide) (by decide) (by decide) (by decide) ?_
  | with_reducible refine x_powL (k := 1000000000) (by decide) (by decide) (by decide) (by decide) ?_
  | with_reducible refine x_for ?_ | with_reducible refine x_rng1 ?_ | with_reducible refine x_rng2 ?_ | with_reducible refine x_rng3 ?_ | with_reducible refine x_iList ?_ | with_reducible refine x_iTup ?_
  | with_reducible refine x_rngk1 (by first | decide | omega) (by first | decide | omega) ?_
  | with_reducible refine x_rngk2 (by first | decide | omega) (by first | decide | omega) (by first | decide | omega) (by first | decide | omega) ?_
  | with_reducible refine x_gcons ?_ | with_reducible refine x_gnil ?_ | with_reducible refine x_revL ?_ | with_reducible refine x_isN ?_ | with_reducible refine x_notN ?_ | with_reducible refine x_unNeg ?_
  | with_reducible refine x_bms tyV_str ?_
  | with_reducible refine x_try ?_ | with_reducible refine x_andT ?_ | with_reducible refine x_orT ?_))
/-! ### where changed texts break -/
theorem ferr_first {l : List Nat} {k : Nat} (hk : fbeg l ≤ k) (hd : ∀ j c, fbeg l ≤ j → j < k → l[j]? = some c → isDig c = true) (h0 : fbeg l < k → l[fbeg l]? ≠ some 48) {c : Nat} (hc : l[k]? = some c) (hb : isDig c = false) : ferr l = some (k + 1) := by
  have hl := (List.getElem?_eq_some_iff.mp hc).1
  refine ferr_at (fun j h1 h2 => ?_) ?_ hk hl
  · obtain ⟨x, hx⟩ : ∃ x, l[j]? = some x := ⟨_, List.getElem?_eq_getElem (by omega)⟩
    have d := hd j x h1 h2 hx
    have h48 : (l[fbeg l]? == some 48) = false := beq_eq_false_iff_ne.mpr (h0 (by omega))
    rw [fbad_eq hx, d, h48, Bool.and_false]
    by_cases e : j = fbeg l
    · subst e
      have : x ≠ 48 := fun z => h0 (by omega) (by rw [hx, z])
      simp [this]
    · simp [e]
  · rw [fbad_eq hc, hb]
    rfl
/-- digits without a leading zero, after a sign or none -/
structure Good (l : List Nat) : Prop where
  ex : ∃ c r, NumText.AllDigits (c :: r) ∧ c ≠ 48 ∧ (l = c :: r ∨ l = 45 :: c :: r)
theorem dig_of {l : List Nat} (h : NumText.AllDigits l) {j c : Nat} (e : l[j]? = some c) : isDig c = true := by
  obtain ⟨hj, e⟩ := List.getElem?_eq_some_iff.mp e
  exact isDig_of (h c (by rw [← e]; exact List.getElem_mem hj))
theorem Good.pos {l : List Nat} (g : Good l) : 1 ≤ l.length := by
  obtain ⟨c, r, _, _, rfl | rfl⟩ := g.ex <;> simp
theorem fbeg_cons {a : Nat} {r : List Nat} : fbeg (a :: r) = if a = 45 then 1 else 0 := by
  unfold fbeg
  by_cases h : a = 45
  · subst h; rfl
  · rw [if_neg h, if_neg]
    intro e
    exact h (by simpa using e)
theorem bad_at {l : List Nat} (g : Good l) {k s : Nat} (hk : k ≤ l.length) (h1 : isDig s = false) (h2 : s ≠ 45) : ferr (l.take k ++ s :: l.drop k) = some (k + 1) := by
  obtain ⟨c, r, hd, hc, e⟩ := g.ex
  have c45 : c ≠ 45 := fun z => by have := hd.head; omega
  have at_k : (l.take k ++ s :: l.drop k)[k]? = some s := by
    rw [List.getElem?_append_right (by rw [List.length_take]; omega), List.length_take, Nat.min_eq_left hk, Nat.sub_self]
    rfl
  have at_j : ∀ j, j < k → (l.take k ++ s :: l.drop k)[j]? = l[j]? := fun j hj => by
    rw [List.getElem?_append_left (by rw [List.length_take]; omega), List.getElem?_take_of_lt hj]
  cases k with
  | zero =>
    have b : fbeg (l.take 0 ++ s :: l.drop 0) = 0 := by
      show fbeg (s :: l.drop 0) = 0
      rw [fbeg_cons, if_neg h2]
    exact ferr_first (by rw [b]; exact Nat.le_refl _) (fun j c _ h => by omega) (by rw [b]; intro z; omega) at_k h1
  | succ k =>
    rcases e with rfl | rfl
    · have b : fbeg ((c :: r).take (k + 1) ++ s :: (c :: r).drop (k + 1)) = 0 := by
        show fbeg (c :: (r.take k ++ s :: r.drop k)) = 0
        rw [fbeg_cons, if_neg c45]
      refine ferr_first (by omega) (fun j x _ hj hx => ?_) (fun _ => ?_) at_k h1
      · rw [at_j j hj] at hx
        exact dig_of hd hx
      · rw [b, at_j 0 (by omega)]
        intro z
        exact hc (by simpa using z)
    · have b : fbeg ((45 :: c :: r).take (k + 1) ++ s :: (45 :: c :: r).drop (k + 1)) = 1 := by
        show fbeg (45 :: ((c :: r).take k ++ s :: (c :: r).drop k)) = 1
        rw [fbeg_cons, if_pos rfl]
      refine ferr_first (by omega) (fun j x h0 hj hx => ?_) (fun h => ?_) at_k h1
      · rw [at_j j hj] at hx
        obtain ⟨i, rfl⟩ : ∃ i, j = i + 1 := ⟨j - 1, by omega⟩
        rw [List.getElem?_cons_succ] at hx
        exact dig_of hd hx
      · rw [b, at_j 1 (by omega)]
        intro z
        exact hc (by simpa using z)
theorem bad_end {l : List Nat} (g : Good l) : ferr (l ++ [45]) = some (l.length + 1) := by
  obtain ⟨c, r, hd, hc, e⟩ := g.ex
  have c45 : c ≠ 45 := fun z => by have := hd.head; omega
  have at_k : (l ++ [45])[l.length]? = some 45 := by simp
  have at_j : ∀ j, j < l.length → (l ++ [45])[j]? = l[j]? := fun j hj => List.getElem?_append_left hj
  rcases e with rfl | rfl
  · have b : fbeg ((c :: r) ++ [45]) = 0 := by
      show fbeg (c :: (r ++ [45])) = 0
      rw [fbeg_cons, if_neg c45]
    refine ferr_first (by omega) (fun j x _ hj hx => ?_) (fun _ => ?_) at_k (by decide)
    · rw [at_j j hj] at hx
      exact dig_of hd hx
    · rw [b, at_j 0 (by simp)]
      intro z
      exact hc (by simpa using z)
  · have b : fbeg ((45 :: c :: r) ++ [45]) = 1 := by
      show fbeg (45 :: (c :: r ++ [45])) = 1
      rw [fbeg_cons, if_pos rfl]
    refine ferr_first (by rw [b]; simp) (fun j x h0 hj hx => ?_) (fun h => ?_) at_k (by decide)
    · rw [at_j j hj] at hx
      obtain ⟨i, rfl⟩ : ∃ i, j = i + 1 := ⟨j - 1, by omega⟩
      rw [List.getElem?_cons_succ] at hx
      exact dig_of hd hx
    · rw [b, at_j 1 (by simp)]
      intro z
      exact hc (by simpa using z)
theorem good_none {l : List Nat} (g : Good l) : ferr l = none := by
  obtain ⟨c, r, hd, hc, e⟩ := g.ex
  have c45 : c ≠ 45 := fun z => by have := hd.head; omega
  rcases e with rfl | rfl
  · have b : fbeg (c :: r) = 0 := by rw [fbeg_cons, if_neg c45]
    have := ferr_end (l := c :: r) (fun j h1 h2 => by
      obtain ⟨x, hx⟩ : ∃ x, (c :: r)[j]? = some x := ⟨_, List.getElem?_eq_getElem h2⟩
      rw [fbad_eq hx, dig_of hd hx, b]
      have : ((c :: r)[0]? == some 48) = false := by simpa using hc
      rw [this, Bool.and_false]
      simp) (by rw [b]; simp)
    rw [this, if_neg (by rw [b]; simp)]
  · have b : fbeg (45 :: c :: r) = 1 := by rw [fbeg_cons, if_pos rfl]
    have := ferr_end (l := 45 :: c :: r) (fun j h1 h2 => by
      obtain ⟨x, hx⟩ : ∃ x, (45 :: c :: r)[j]? = some x := ⟨_, List.getElem?_eq_getElem h2⟩
      obtain ⟨i, rfl⟩ : ∃ i, j = i + 1 := ⟨j - 1, by omega⟩
      rw [List.getElem?_cons_succ] at hx
      rw [fbad_eq (l := 45 :: c :: r) (k := i + 1) (by rw [List.getElem?_cons_succ]; exact hx), dig_of hd hx, b]
      have : ((45 :: c :: r)[1]? == some 48) = false := by simpa using hc
      rw [this, Bool.and_false]
      by_cases e : i = 0
      · subst e
        have : x = c := by simpa using hx.symm
        rw [this]
        simp [hc]
      · simp [e]) (by rw [b]; simp)
    rw [this, if_neg (by rw [b]; simp)]
theorem bad_zero {l : List Nat} (g : Good l) : ferr (48 :: l) = some 2 := by
  have b : fbeg (48 :: l) = 0 := by rw [fbeg_cons, if_neg (by decide)]
  obtain ⟨x, hx⟩ : ∃ x, l[0]? = some x := ⟨_, List.getElem?_eq_getElem g.pos⟩
  refine ferr_at (k := 1) (fun j h1 h2 => ?_) ?_ (by omega) (by have := g.pos; simp; omega)
  · have : j = 0 := by omega
    subst this
    rw [fbad_eq (c := 48) rfl, b]
    rfl
  · rw [fbad_eq (c := x) (by rw [List.getElem?_cons_succ]; exact hx), b]
    simp
theorem bad_2 {l : List Nat} {s : Nat} (h : s = 48 ∨ s = 45) : ferr (45 :: s :: l) = some 2 := by
  have b : fbeg (45 :: s :: l) = 1 := by rw [fbeg_cons, if_pos rfl]
  refine ferr_at (k := 1) (fun j h1 h2 => by omega) ?_ (by omega) (by simp)
  rw [fbad_eq (c := s) rfl, b]
  rcases h with rfl | rfl <;> rfl
theorem bad_1 (l : List Nat) : ferr (43 :: l) = some 1 := by
  have b : fbeg (43 :: l) = 0 := by rw [fbeg_cons, if_neg (by decide)]
  refine ferr_at (k := 0) (fun j h1 h2 => by omega) ?_ (by omega) (by simp)
  rw [fbad_eq (c := 43) rfl]
  rfl
def sp__law_position (K : PySem.W.Frag) (κ : Kap) : Sp := fun vs H Q _ =>
  (∃ l : List Nat, vs = [.str (S l)] ∧ l.length ≤ 16000000 ∧ ∀ H', Same H H' → Q (optV (ferr l)) H') ∨
  (∃ (v : V) (m : String), vs = [v] ∧ TyX K H v (.type m) ∧ kitB m "str" = some false ∧ ∀ H', Same H H' → Q (.int 0) H')
def sp__law_digits (K : PySem.W.Frag) (κ : Kap) : Sp := fun vs H Q _ => ∃ r : Addr, vs = [.ref r] ∧ RowOk K H r ∧
  ∀ (H' : Hp) (c : Nat) (l : List Nat), RowOk K H' r → (∀ b, b ≠ r → H' b = H b) → NumText.AllDigits (c :: l) → c ≠ 48 → l.length ≤ 10000 → Q (.str (S (c :: l))) H'
def sp_law (K : PySem.W.Frag) (κ : Kap) : Sp := fun vs H Q _ => ∃ (a : Addr) (ns : List Int), vs = [.ref a] ∧ SqL K H a (ns.map V.int) ∧ ∀ H', Q (.bl true) H'
/-- _law_position, slots ['_law_text', '_law_found', 'e'] -/
def t__law_position (K : PySem.W.Frag) (κ : Kap) (E : XK) : TS :=
  (tSeq (tAsg (tTup (tCons (tC (.str "none")) (tCons (tC .non) (tCons (tC (.bl true)) tNil)))) (gName 1))
  (tSeq (tTryMix K (fun W => (tDrop (tCallS (sp_read_integer K κ) (WE W) (tCons (tVar 0) tNil)))) (fun cls d _ H => E cls d H) [(.ref (κ "InvalidKind"), none, fun a cls d => (tAsg (tTup (tCons (tC (.str "other")) (tCons (tC .non) (tCons (tC (.bl false)) tNil)))) (gName 1))), (.ref (κ "InvalidNumber"), some 2, fun a cls d => (tAsg (tTup (tCons (tC (.str "wrong")) (tCons (tXf a cls d (κ "InvalidNumber") "position" (tVar 2)) (tCons (tAndT K (tCB (rIsX K a cls d) (tCons (tVar 2) (tCons (tC (.ref (κ "NarrowingError"))) tNil))) (tCB (rIsX K a cls d) (tCons (tVar 2) (tCons (tC (.ty "ValueError")) tNil)))) tNil)))) (gName 1)))])
  (tSeq (tIfS (tOr (tNot (tTruU K (tOp (rIx K) (tVar 1) (tC (.int 2))))) (tTruU K (tCB (rIsiU K) (tCons (tOp (rIx K) (tVar 1) (tC (.int 1))) (tCons (tC (.ty "bool")) tNil))))) (tRet (tC (.str "other"))) tNext)
  (tRet (tOp (rIx K) (tVar 1) (tC (.int 1)))))))
abbrev N__law_position : List Str := ["_law_text", "_law_found", "e"]
/-- _law_digits, slots ['_law_row', '_law_text'] -/
def t__law_digits (K : PySem.W.Frag) (κ : Kap) (E : XK) : TS :=
  (tSeq (tAsg (tCB rStrU (tCons (tOp (rAddU K) (tC (.int 1)) (tCallS (sp__law_taken K κ) (WE (fun cls d _ H => E cls d H)) (tCons (tVar 0) (tCons (tOp rPowU (tC (.int 10)) (tC (.int 9))) tNil)))) tNil)) (gName 1))
  (tSeq (tIfS (tTest (tOp rEq (tCallS (sp__law_taken K κ) (WE (fun cls d _ H => E cls d H)) (tCons (tVar 0) (tCons (tC (.int 3)) tNil))) (tC (.int 0)))) (tAsg (tOp (rAddU K) (tVar 1) (tOp rMulU (tBM K "str" rZfillU (tCB rStrU (tCons (tCallS (sp__law_taken K κ) (WE (fun cls d _ H => E cls d H)) (tCons (tVar 0) (tCons (tOp rPowU (tC (.int 10)) (tC (.int 9))) tNil))) tNil)) (tCons (tC (.int 9)) tNil)) (tOp (rAddU K) (tC (.int 480)) (tCallS (sp__law_taken K κ) (WE (fun cls d _ H => E cls d H)) (tCons (tVar 0) (tCons (tC (.int 40)) tNil)))))) (gName 1)) tNext)
  (tRet (tVar 1))))
abbrev N__law_digits : List Str := ["_law_row", "_law_text"]
/-- law, slots ['_law_script', '_law_row', '_law_turn', '_law_text', '_law_at', '_law_sign', '_law_thing'] -/
def t_law (K : PySem.W.Frag) (κ : Kap) (E : XK) : TS :=
  (tSeq (tAsg (tLst (tCons (tVar 0) (tCons (tC (.int 0)) (tCons (tC (.int 0)) (tCons (tC (.int 0)) tNil))))) (gName 1))
  (tSeq (tFor (iRng1 (tCons (tC (.int 4)) tNil)) (gName 2) (tSeq (tAsg (tOp (rAddU K) (tOp (rIx K) (tLst (tCons (tC (.str "")) (tCons (tC (.str "-")) tNil))) (tCallS (sp__law_taken K κ) (WE (fun cls d _ H => E cls d H)) (tCons (tVar 1) (tCons (tC (.int 2)) tNil)))) (tCallS (sp__law_digits K κ) (WE (fun cls d _ H => E cls d H)) (tCons (tVar 1) tNil))) (gName 3))
  (tSeq (tAsg (tOp (rIx K) (tLst (tCons (tC (.int 0)) (tCons (tC (.int 1)) (tCons (tOp rSubU (tCB (rLenU K) (tCons (tVar 3) tNil)) (tC (.int 1))) (tCons (tCB (rLenU K) (tCons (tVar 3) tNil)) (tCons (tCallS (sp__law_taken K κ) (WE (fun cls d _ H => E cls d H)) (tCons (tVar 1) (tCons (tOp (rAddU K) (tCB (rLenU K) (tCons (tVar 3) tNil)) (tC (.int 1))) tNil))) tNil)))))) (tCallS (sp__law_taken K κ) (WE (fun cls d _ H => E cls d H)) (tCons (tVar 1) (tCons (tC (.int 5)) tNil)))) (gName 4))
  (tSeq (tAsg (tOp (rIx K) (tC (.str " x+.,A_")) (tCallS (sp__law_taken K κ) (WE (fun cls d _ H => E cls d H)) (tCons (tVar 1) (tCons (tC (.int 7)) tNil)))) (gName 5))
  (tSeq (tIfS (tTest (tOp rNe (tCallS (sp__law_position K κ) (WE (fun cls d _ H => E cls d H)) (tCons (tOp (rAddU K) (tOp (rAddU K) (tSl (rSlU K) (tVar 3) tNoPart (tPart (tVar 4))) (tVar 5)) (tSl (rSlU K) (tVar 3) (tPart (tVar 4)) tNoPart)) tNil)) (tOp (rAddU K) (tVar 4) (tC (.int 1))))) (tRet (tC (.bl false))) tNext)
  (tSeq (tIfS (tOr (tTest (tOp rNe (tCallS (sp__law_position K κ) (WE (fun cls d _ H => E cls d H)) (tCons (tOp (rAddU K) (tC (.str "0")) (tVar 3)) tNil)) (tC (.int 2)))) (tOr (tTest (tOp rNe (tCallS (sp__law_position K κ) (WE (fun cls d _ H => E cls d H)) (tCons (tOp (rAddU K) (tC (.str "-0")) (tVar 3)) tNil)) (tC (.int 2)))) (tTest (tOp rNe (tCallS (sp__law_position K κ) (WE (fun cls d _ H => E cls d H)) (tCons (tOp (rAddU K) (tC (.str "--")) (tVar 3)) tNil)) (tC (.int 2)))))) (tRet (tC (.bl false))) tNext)
  (tSeq (tIfS (tOr (tTest (tOp rNotN (tCallS (sp__law_position K κ) (WE (fun cls d _ H => E cls d H)) (tCons (tC (.str "0")) tNil)) (tC .non))) (tOr (tTest (tOp rNe (tCallS (sp__law_position K κ) (WE (fun cls d _ H => E cls d H)) (tCons (tC (.str "-0")) tNil)) (tC (.int 2)))) (tTest (tOp rNe (tCallS (sp__law_position K κ) (WE (fun cls d _ H => E cls d H)) (tCons (tC (.str "-")) tNil)) (tC (.int 2)))))) (tRet (tC (.bl false))) tNext)
  (tSeq (tIfS (tOr (tTest (tOp rNe (tCallS (sp__law_position K κ) (WE (fun cls d _ H => E cls d H)) (tCons (tC (.str "")) tNil)) (tC (.int 1)))) (tOr (tTest (tOp rNe (tCallS (sp__law_position K κ) (WE (fun cls d _ H => E cls d H)) (tCons (tOp (rAddU K) (tC (.str "+")) (tVar 3)) tNil)) (tC (.int 1)))) (tTest (tOp rNe (tCallS (sp__law_position K κ) (WE (fun cls d _ H => E cls d H)) (tCons (tOp (rAddU K) (tVar 3) (tC (.str "-"))) tNil)) (tOp (rAddU K) (tCB (rLenU K) (tCons (tVar 3) tNil)) (tC (.int 1))))))) (tRet (tC (.bl false))) tNext)
  (tSeq (tFor (iList K (tLst (tCons (tC .non) (tCons (tC (.int 7)) (tCons (tC (.bl true)) (tCons (tLst (tCons (tC (.str "1")) tNil)) (tCons (tTup (tCons (tC (.str "1")) tNil)) tNil))))))) (gName 6) (tIfS (tTest (tOp rNe (tCallS (sp__law_position K κ) (WE (fun cls d _ H => E cls d H)) (tCons (tVar 6) tNil)) (tC (.int 0)))) (tRet (tC (.bl false))) tNext))
  (tIfS (tTest (tOp rNotN (tCallS (sp__law_position K κ) (WE (fun cls d _ H => E cls d H)) (tCons (tVar 3) tNil)) (tC .non))) (tRet (tC (.bl false))) tNext))))))))))
  (tRet (tC (.bl true)))))
abbrev N_law : List Str := ["_law_script", "_law_row", "_law_turn", "_law_text", "_law_at", "_law_sign", "_law_thing"]
theorem r__law_position (K : PySem.W.Frag) (κ : Kap) (x1 : PySem.W.exmOne K (.ref (κ "InvalidNumber")) (.ref (κ "InvalidKind")) = some false) (x2 : PySem.W.exmOne K (.ref (κ "InvalidNumber")) (.ref (κ "InvalidNumber")) = some true)
    (ic : ExcC K (κ "InvalidNumber")) (k1 : PySem.W.kitOne K (.ref (κ "InvalidNumber")) (.ref (κ "NarrowingError")) = some true) (k2 : PySem.W.kitOne K (.ref (κ "InvalidNumber")) (.type "ValueError") = some true)
    (vs : List V) (H : Hp) (Q : VK) (E : XK) (h : sp__law_position K κ vs H Q E) :
    t__law_position K κ E { nx := fun _ H' => Q .non H', rt := Q } (L2.start N__law_position vs) H := by
  -- behind the try: found = (word, position, True)
  have fin : ∀ (t0 : V) (p : Addr) (H1 : Hp) (w y : V) (z2 : Option V), H1 p = some (.tup [w, y, .bl true]) → (∃ m, TyX K H1 y (.type m) ∧ kitB m "bool" = some false) → Q y H1 →
      (tSeq (tIfS (tOr (tNot (tTruU K (tOp (rIx K) (tVar 1) (tC (.int 2))))) (tTruU K (tCB (rIsiU K) (tCons (tOp (rIx K) (tVar 1) (tC (.int 1))) (tCons (tC (.ty "bool")) tNil))))) (tRet (tC (.str "other"))) tNext)
  (tRet (tOp (rIx K) (tVar 1) (tC (.int 1))))) { nx := fun _ H' => Q .non H', rt := Q } [some t0, some (.ref p), z2] H1 := by
    intro t0 p H1 w y z2 hp ⟨m, ty, kb⟩ q
    walk_at "sx"
    refine x_ixT (SqT.of hp) (v := .bl true) rfl ?_
    walk_at "sx"
    refine x_ixT (SqT.of hp) (v := y) rfl ?_
    walk_at "sx"
    refine x_isi ty kb ?_
    walk_at "sx"
    refine x_ixT (SqT.of hp) (v := y) rfl ?_
    exact q
  have raised : ∀ (v0 : V) (p : Int) (H1 : Hp) (z : Addr) (D : Ends), (∀ (H2 : Hp) (u : Addr), Same H1 H2 → H2 u = some (.tup [.str "wrong", .int p, .bl true]) → D.nx [some v0, some (.ref u), none] H2) → ∀ d, H1 d = none →
      wMix K (fun cls d _ H => E cls d H) D [(.ref (κ "InvalidKind"), none, fun a cls d => (tAsg (tTup (tCons (tC (.str "other")) (tCons (tC .non) (tCons (tC (.bl false)) tNil)))) (gName 1))), (.ref (κ "InvalidNumber"), some 2, fun a cls d => (tAsg (tTup (tCons (tC (.str "wrong")) (tCons (tXf a cls d (κ "InvalidNumber") "position" (tVar 2)) (tCons (tAndT K (tCB (rIsX K a cls d) (tCons (tVar 2) (tCons (tC (.ref (κ "NarrowingError"))) tNil))) (tCB (rIsX K a cls d) (tCons (tVar 2) (tCons (tC (.ty "ValueError")) tNil)))) tNil)))) (gName 1)))]
        (.ref (κ "InvalidNumber")) (some d) [some v0, some (.ref z), none] (upd H1 d (.xd [("position", .int p)])) := by
    intro v0 p H1 z D hD d hd
    refine w_no x1 (w_named x2 fun a ha => ?_)
    walk_at "sx"
    refine x_xf rfl upd_same (v := .int p) (by simp [List.lookup]) ?_
    walk_at "sx"
    refine x_isX ic upd_same (.own _) k1 ?_
    refine x_trvB ?_
    walk_at "sx"
    refine x_isX ic upd_same (.ty _) k2 ?_
    walk_at "sx"
    refine ⟨szL rfl, fun u hu => ?_⟩
    exact hD _ u (Same.trans (same_new hd) (same_new hu)) upd_same
  rcases h with ⟨l, rfl, hl, q⟩ | ⟨v, m, rfl, ty, kb, q⟩
  · show t__law_position K κ E _ [some (.str (S l)), none, none] H
    unfold t__law_position
    walk_at "sx"
    refine ⟨szL rfl, fun z hz => ?_⟩
    walk_at "sx"
    refine .inl ⟨l, rfl, hl, fun hf => ?_, fun p hf d hd => ?_⟩
    · refine fin _ z _ _ .non none upd_same ⟨"NoneType", .base .non, by decide +kernel⟩ ?_
      have := q _ (same_new (o := .tup [.str "none", .non, .bl true]) hz)
      rw [hf] at this
      exact this
    · refine raised _ _ _ _ _ (fun H2 u s2 hu => ?_) d hd
      refine fin _ u _ _ (.int (p : Int)) none hu ⟨"int", .base (.int _), by decide +kernel⟩ ?_
      have := q H2 (Same.trans (same_new hz) s2)
      rw [hf] at this
      exact this
  · show t__law_position K κ E _ [some v, none, none] H
    unfold t__law_position
    walk_at "sx"
    refine ⟨szL rfl, fun z hz => ?_⟩
    walk_at "sx"
    refine .inr ⟨v, m, rfl, tyX_same ty (same_new hz), kb, fun d hd => ?_⟩
    refine raised _ 0 _ _ _ (fun H2 u s2 hu => ?_) d hd
    exact fin _ u _ _ (.int 0) none hu ⟨"int", .base (.int _), by decide +kernel⟩ (q H2 (Same.trans (same_new hz) s2))
theorem padL_digits : ∀ k g, NumText.AllDigits (padL k g)
  | 0, _ => fun c hc => nomatch hc
  | k + 1, g => fun c hc => by
    rcases List.mem_append.mp hc with h | h
    · exact padL_digits k _ c h
    · have : c = 48 + g % 10 := by simpa using h
      omega
theorem repS_S (l : List Nat) (n : Nat) : repS (S l) n = S (List.replicate n l).flatten := rfl
theorem rep_digits {l : List Nat} (h : NumText.AllDigits l) : ∀ n, NumText.AllDigits (List.replicate n l).flatten := fun n c hc => by
  obtain ⟨x, hx, hc⟩ := List.mem_flatten.mp hc
  rw [List.eq_of_mem_replicate hx] at hc
  exact h c hc
theorem rep_len (l : List Nat) (n : Nat) : (List.replicate n l).flatten.length = n * l.length := by
  rw [List.length_flatten, List.map_replicate, List.sum_replicate_nat]
theorem r__law_digits (K : PySem.W.Frag) (κ : Kap) (vs : List V) (H : Hp) (Q : VK) (E : XK) (h : sp__law_digits K κ vs H Q E) :
    t__law_digits K κ E { nx := fun _ H' => Q .non H', rt := Q } (L2.start N__law_digits vs) H := by
  obtain ⟨r, rfl, hr, q⟩ := h
  show t__law_digits K κ E _ [some (.ref r), none] H
  unfold t__law_digits
  walk_at "sx"
  refine use_taken hr (by decide) (by decide) fun v H1 h0 h1 hr1 f1 => ?_
  walk_at "sx"
  obtain ⟨n, rfl⟩ := Int.eq_ofNat_of_zero_le h0
  rw [show (1 : Int) + (n : Int) = ((1 + n : Nat) : Int) by omega]
  refine x_strI (log2_small (Nat.lt_of_le_of_lt (by show ((1 + n : Nat) : Int).natAbs ≤ 10 ^ 18; omega) (by decide +kernel))) ?_
  rw [str_num]
  have hlen : (numL (1 + n)).length ≤ 10 := numL_len (by decide) (by omega)
  obtain ⟨c, l, e, hc⟩ := numL_head (n := 1 + n) (by omega)
  have hd := numL_digits (1 + n)
  rw [e] at hlen hd ⊢
  rw [List.length_cons] at hlen
  walk_at "sx"
  refine use_taken hr1 (by decide) (by decide) fun v2 H2 h2 h3 hr2 f2 => ?_
  walk_at "sx"
  refine x_dec (fun c2 => ?_) (fun c2 => ?_)
  · walk_at "sx"
    refine use_taken hr2 (by decide) (by decide) fun v3 H3 h4 h5 hr3 f3 => ?_
    walk_at "sx"
    obtain ⟨g, rfl⟩ := Int.eq_ofNat_of_zero_le h4
    refine x_strI (log2_small (Nat.lt_of_le_of_lt (by show ((g : Nat) : Int).natAbs ≤ 10 ^ 18; omega) (by decide +kernel))) ?_
    walk_at "sx"
    refine x_zfill rfl ?_
    rw [show Txt.zfill (Str.ofString (toString ((g : Nat) : Int))) 9 = S (padL 9 g) from zfill_num (k := 9) (by omega) (by decide)]
    walk_at "sx"
    refine use_taken hr3 (by decide) (by decide) fun v4 H4 h6 h7 hr4 f4 => ?_
    walk_at "sx"
    obtain ⟨m, rfl⟩ := Int.eq_ofNat_of_zero_le h6
    refine x_mulS (by omega) (by omega) (by rw [S_len, padL_len]; omega) ?_
    rw [repS_S, show ((480 : Int) + (m : Int)).toNat = 480 + m by omega]
    refine x_addS (sizeOf_line (by rw [S_len, S_len, rep_len, padL_len, List.length_cons]; omega)) ?_
    rw [← S_app]
    walk_at "sx"
    refine q H4 c (l ++ (List.replicate (480 + m) (padL 9 g)).flatten) hr4 (fun b hb => by rw [f4 b hb, f3 b hb, f2 b hb, f1 b hb]) (fun x hx => ?_) hc (by rw [List.length_append, rep_len, padL_len]; omega)
    rcases List.mem_cons.mp hx with rfl | hx
    · exact hd.head
    · rcases List.mem_append.mp hx with hx | hx
      · exact hd.tail x hx
      · exact rep_digits (padL_digits 9 g) _ x hx
  · walk_at "sx"
    exact q H2 c l hr2 (fun b hb => by rw [f2 b hb, f1 b hb]) hd hc (by omega)
theorem use_pos {K : PySem.W.Frag} {κ : Kap} {H : Hp} {z : Str} {l : List Nat} {o : Option Nat} {Q : VK} {E : XK} (e : z = S l) (hl : l.length ≤ 16000000) (hf : ferr l = o) (h : ∀ H', Same H H' → Q (optV o) H') : sp__law_position K κ [.str z] H Q E :=
  .inl ⟨l, by rw [e], hl, fun H' s => by rw [hf]; exact h H' s⟩
theorem use_pos0 {K : PySem.W.Frag} {κ : Kap} {H : Hp} {v : V} {m : String} {Q : VK} {E : XK} (ty : TyX K H v (.type m)) (kb : kitB m "str" = some false) (h : ∀ H', Same H H' → Q (.int 0) H') : sp__law_position K κ [v] H Q E :=
  .inr ⟨v, m, rfl, ty, kb, h⟩
theorem x_posNe {p : Nat} {H : Hp} {z : Int} {Q : VK} (e : z = (p : Int)) (h : Q (.bl false) H) : rNe (optV (some p)) (.int z) H Q := by
  show rNe (.int (p : Int)) (.int z) H _
  refine x_neI ?_
  rw [decide_eq_true e.symm]
  exact h
theorem signs_bad {c : Nat} (h : c ∈ (Str.ofString " x+.,A_").cps.toList) : isDig c = false ∧ c ≠ 45 := by
  rw [show (Str.ofString " x+.,A_").cps.toList = [32, 120, 43, 46, 44, 65, 95] from rfl] at h
  simp only [List.mem_cons, List.not_mem_nil, or_false] at h
  rcases h with rfl | rfl | rfl | rfl | rfl | rfl | rfl <;> exact ⟨rfl, by decide⟩
theorem r_law (K : PySem.W.Frag) (κ : Kap) (vs : List V) (H : Hp) (Q : VK) (E : XK) (h : sp_law K κ vs H Q E) :
    t_law K κ E { nx := fun _ H' => Q .non H', rt := Q } (L2.start N_law vs) H := by
  obtain ⟨a, ns, rfl, hs, q⟩ := h
  show t_law K κ E _ [some (.ref a), none, none, none, none, none, none] H
  unfold t_law
  walk_at "sx"
  refine ⟨szL rfl, fun r hp => ?_⟩
  walk_at "sx"
  have hr0 : RowOk K (upd H r (.lst [.ref a, .int 0, .int 0, .int 0])) r := ⟨a, ns, 0, 0, 0, upd_same, (same_new hp).seq hs, by decide, by decide⟩
  refine for_range (fun i σ' H' => RowOk K H' r ∧ ∃ z2 z3 z4 z5 z6 : Option V, σ' = [some (.ref a), some (.ref r), z2, z3, z4, z5, z6]) ⟨hr0, _, _, _, _, _, rfl⟩ ?_ ?_
  · rintro i σ' H' hi ⟨hr1, z2, z3, z4, z5, z6, rfl⟩
    -- the text
    walk_at "sx"
    refine ⟨szL rfl, fun p hp => ?_⟩
    walk_at "sx"
    refine use_taken (hr1.new hp) (by decide) (by decide) fun v H2 h0 h1 hr2 f2 => ?_
    have hp2 : H2 p = some (.lst [.str "", .str "-"]) := by rw [f2 p (hr1.ne hp), upd_same]
    obtain ⟨x, hx, hm⟩ := at_mem (xs := [V.str "", .str "-"]) h0 h1
    obtain ⟨s0, rfl, hs0⟩ : ∃ s0 : List Nat, x = .str (S s0) ∧ (s0 = [] ∨ s0 = [45]) := by
      simp only [List.mem_cons, List.not_mem_nil, or_false] at hm
      rcases hm with rfl | rfl
      · exact ⟨[], rfl, .inl rfl⟩
      · exact ⟨[45], rfl, .inr rfl⟩
    refine x_ixL (SqL.of hp2) hx ?_
    walk_at "sx"
    refine ⟨r, rfl, hr2, fun H3 c l hr3 f3 hd hc hl => ?_⟩
    have s0l : s0.length ≤ 1 := by rcases hs0 with rfl | rfl <;> simp
    refine x_addS (sizeOf_line (by rw [S_len, S_len, List.length_cons]; omega)) ?_
    rw [← S_app]
    obtain ⟨T, hT⟩ : ∃ T, T = s0 ++ c :: l := ⟨_, rfl⟩
    have g : Good T := ⟨c, l, hd, hc, by rw [hT]; rcases hs0 with rfl | rfl; exact .inl rfl; exact .inr rfl⟩
    have hTl : T.length ≤ 10002 := by rw [hT, List.length_append, List.length_cons]; omega
    have hT1 := g.pos
    rw [← hT]
    have sT : (S T).length ≤ sizeLine := sizeOf_line (by rw [S_len]; omega)
    walk_at "sx"
    -- the place
    refine x_lenS sT ?_
    walk_at "sx"
    refine x_lenS sT ?_
    walk_at "sx"
    refine x_lenS sT ?_
    rw [S_len]
    walk_at "sx"
    refine use_taken hr3 (by omega) (by omega) fun v4 H4 h2 h3 hr4 f4 => ?_
    walk_at "sx"
    refine ⟨szL rfl, fun p4 hp4 => ?_⟩
    walk_at "sx"
    refine use_taken (hr4.new hp4) (by decide) (by decide) fun v5 H5 h5 h6 hr5 f5 => ?_
    have hp5 : H5 p4 = some (.lst [.int 0, .int 1, .int ((T.length : Int) - 1), .int (T.length : Int), .int v4]) := by rw [f5 p4 (hr4.ne hp4), upd_same]
    obtain ⟨x, hx, hm⟩ := at_mem (xs := [V.int 0, .int 1, .int ((T.length : Int) - 1), .int (T.length : Int), .int v4]) h5 h6
    obtain ⟨k, rfl, hk⟩ : ∃ k : Nat, x = .int (k : Int) ∧ k ≤ T.length := by
      simp only [List.mem_cons, List.not_mem_nil, or_false] at hm
      rcases hm with rfl | rfl | rfl | rfl | rfl
      · exact ⟨0, rfl, by omega⟩
      · exact ⟨1, rfl, by omega⟩
      · exact ⟨T.length - 1, by congr 1; omega, by omega⟩
      · exact ⟨T.length, rfl, by omega⟩
      · exact ⟨v4.toNat, by congr 1; omega, by omega⟩
    refine x_ixL (SqL.of hp5) hx ?_
    walk_at "sx"
    -- the sign
    walk_at "sx"
    refine use_taken hr5 (by decide) (by decide) fun v6 H6 h7 h8 hr6 f6 => ?_
    obtain ⟨sg, hsg, hms⟩ := at_mem (xs := (Str.ofString " x+.,A_").cps.toList) h7 h8
    obtain ⟨b1, b2⟩ := signs_bad hms
    refine x_ixS (sizeOf_line (by decide)) hsg ?_
    walk_at "sx"
    -- the wrong sign at the place
    refine x_slS sT ?_
    rw [cut_pre]
    refine x_var rfl (x_addS (sizeOf_line (by rw [S_len]; show (T.take k).length + 1 ≤ _; rw [List.length_take]; omega)) ?_)
    walk_at "sx"
    refine x_slS sT ?_
    rw [cut_suf, show S (T.take k) ++ (⟨#[sg]⟩ : Str) = S (T.take k ++ [sg]) from (S_app _ [sg]).symm]
    refine x_addS (sizeOf_line (by rw [S_len, S_len, List.length_append, List.length_take, List.length_drop, List.length_cons, List.length_nil]; omega)) ?_
    walk_at "sx"
    refine use_pos (l := T.take k ++ sg :: T.drop k) (by rw [← S_app, List.append_assoc]; rfl) (by rw [List.length_append, List.length_cons, List.length_take, List.length_drop]; omega) (bad_at g hk b1 b2) fun H7 s7 => ?_
    have hr7 := hr6.same s7
    walk_at "sx"
    refine x_posNe (by omega) ?_
    walk_at "sx"
    have add1 : ∀ (w : String) (m : Nat), (Str.ofString w).length = m → m ≤ 10 → (Str.ofString w).length + (S T).length ≤ sizeLine := fun w m e1 e2 => sizeOf_line (by rw [e1, S_len]; omega)
    -- "0" + text
    refine x_addS (add1 "0" 1 rfl (by decide)) ?_
    walk_at "sx"
    refine use_pos (l := 48 :: T) (S_app [48] T).symm (by rw [List.length_cons]; omega) (bad_zero g) fun H8 s8 => ?_
    have hr8 := hr7.same s8
    walk_at "sx"
    refine x_posNe rfl ?_
    walk_at "sx"
    refine x_addS (add1 "-0" 2 rfl (by decide)) ?_
    walk_at "sx"
    refine use_pos (l := 45 :: 48 :: T) (S_app [45, 48] T).symm (by rw [List.length_cons, List.length_cons]; omega) (bad_2 (.inl rfl)) fun H9 s9 => ?_
    have hr9 := hr8.same s9
    walk_at "sx"
    refine x_posNe rfl ?_
    walk_at "sx"
    refine x_addS (add1 "--" 2 rfl (by decide)) ?_
    walk_at "sx"
    refine use_pos (l := 45 :: 45 :: T) (S_app [45, 45] T).symm (by rw [List.length_cons, List.length_cons]; omega) (bad_2 (.inr rfl)) fun H10 s10 => ?_
    have hr10 := hr9.same s10
    walk_at "sx"
    refine x_posNe rfl ?_
    walk_at "sx"
    -- "0", "-0", "-"
    refine use_pos (l := [48]) (o := none) rfl (by decide) rfl fun H11 s11 => ?_
    have hr11 := hr10.same s11
    walk_at "sx"
    refine x_decNF rfl ?_
    walk_at "sx"
    refine use_pos (l := [45, 48]) (o := some 2) rfl (by decide) (bad_2 (.inl rfl)) fun H12 s12 => ?_
    have hr12 := hr11.same s12
    walk_at "sx"
    refine x_posNe rfl ?_
    walk_at "sx"
    refine use_pos (l := [45]) (o := some 2) rfl (by decide) rfl fun H13 s13 => ?_
    have hr13 := hr12.same s13
    walk_at "sx"
    refine x_posNe rfl ?_
    walk_at "sx"
    -- "", "+" + text, text + "-"
    refine use_pos (l := []) (o := some 1) rfl (by decide) rfl fun H14 s14 => ?_
    have hr14 := hr13.same s14
    walk_at "sx"
    refine x_posNe rfl ?_
    walk_at "sx"
    refine x_addS (add1 "+" 1 rfl (by decide)) ?_
    walk_at "sx"
    refine use_pos (l := 43 :: T) (S_app [43] T).symm (by rw [List.length_cons]; omega) (bad_1 T) fun H15 s15 => ?_
    have hr15 := hr14.same s15
    walk_at "sx"
    refine x_posNe rfl ?_
    walk_at "sx"
    refine x_addS (sizeOf_line (by rw [S_len, show (Str.ofString "-").length = 1 from rfl]; omega)) ?_
    walk_at "sx"
    refine use_pos (l := T ++ [45]) (S_app T [45]).symm (by rw [List.length_append, List.length_cons, List.length_nil]; omega) (bad_end g) fun H16 s16 => ?_
    have hr16 := hr15.same s16
    walk_at "sx"
    refine x_lenS sT ?_
    rw [S_len]
    walk_at "sx"
    refine x_posNe (by omega) ?_
    walk_at "sx"
    -- things that are no strings
    refine ⟨szL rfl, fun p1 n1 => ?_⟩
    walk_at "sx"
    refine ⟨szL rfl, fun p2 n2 => ?_⟩
    walk_at "sx"
    refine ⟨szL rfl, fun p3 n3 => ?_⟩
    refine x_iListk (SqL.of upd_same) ?_
    refine for_list (xs := [.non, .int 7, .bl true, .ref p1, .ref p2]) (fun j σ' H' => RowOk K H' r ∧ H' p3 = some (.lst [.non, .int 7, .bl true, .ref p1, .ref p2]) ∧ H' p1 = some (.lst [.str "1"]) ∧ H' p2 = some (.tup [.str "1"]) ∧
      ∃ z2 z5 z6 : Option V, σ' = [some (.ref a), some (.ref r), z2, some (.str (S T)), some (.int (k : Int)), z5, z6])
      ⟨((hr16.new n1).new n2).new n3, upd_same, upd_new (upd_new upd_same n2) n3, upd_new upd_same n3, _, _, _, rfl⟩ (fun j σ' H' _ ⟨_, e, _⟩ => SqL.of e) ?_ ?_
    · rintro j x σ' H' hj ⟨hr17, e3, e1, e2, y2, y5, y6, rfl⟩
      have ty : ∃ m, TyX K H' x (.type m) ∧ kitB m "str" = some false := by
        have hm := List.mem_of_getElem? hj
        simp only [List.mem_cons, List.not_mem_nil, or_false] at hm
        rcases hm with rfl | rfl | rfl | rfl | rfl
        · exact ⟨_, .base .non, by decide +kernel⟩
        · exact ⟨_, .base (.int _), by decide +kernel⟩
        · exact ⟨_, .base (.bl _), by decide +kernel⟩
        · exact ⟨_, .base (.lst e1), by decide +kernel⟩
        · exact ⟨_, .base (.tup e2), by decide +kernel⟩
      obtain ⟨m, ty, kb⟩ := ty
      walk_at "sx"
      refine use_pos0 ty kb fun H18 s18 => ?_
      walk_at "sx"
      refine x_decNF rfl ?_
      walk_at "sx"
      exact ⟨hr17.same s18, s18 _ _ e3, s18 _ _ e1, s18 _ _ e2, _, _, _, rfl⟩
    · rintro σ' H' ⟨hr17, e3, e1, e2, y2, y5, y6, rfl⟩
      walk_at "sx"
      refine use_pos (l := T) (o := none) rfl (by omega) (good_none g) fun H18 s18 => ?_
      walk_at "sx"
      refine x_decNF rfl ?_
      walk_at "sx"
      exact ⟨hr17.same s18, _, _, _, _, _, rfl⟩
  · rintro σ' H' ⟨hr1, z2, z3, z4, z5, z6, rfl⟩
    walk_at "sx"
    exact q _
theorem l__law_position {K : PySem.W.Frag} {κ : Kap} {vs : List V} {H : Hp} {Q : VK} {E : XK} (h : sp__law_position K κ vs H Q E) : vs.length = 1 := by
  rcases h with ⟨_, rfl, _⟩ | ⟨_, _, rfl, _⟩ <;> rfl
theorem l__law_digits {K : PySem.W.Frag} {κ : Kap} {vs : List V} {H : Hp} {Q : VK} {E : XK} (h : sp__law_digits K κ vs H Q E) : vs.length = 1 := by obtain ⟨_, rfl, _⟩ := h; rfl
theorem l_law {K : PySem.W.Frag} {κ : Kap} {vs : List V} {H : Hp} {Q : VK} {E : XK} (h : sp_law K κ vs H Q E) : vs.length = 1 := by obtain ⟨_, _, rfl, _⟩ := h; rfl
theorem law_pre {K : PySem.W.Frag} {κ : Kap} {H : Hp} {a : Addr} {ns : List Int} (hS : SqL K H a (ns.map V.int)) (hl : ns.length ≤ 63) : sp_law K κ [.ref a] H (fun v _ => v = .bl true) fun _ _ _ => False := ⟨a, ns, rfl, hS, fun _ => rfl⟩
end Nv

namespace NvK02
open PySem PySem.Spec PyProof.Rows L2 Nv
def topS (i : Nat) : Stmt := PySem.Challenge.pw_narrowing_k02_integers_rejected.main.body.getD i (.Pass ⟨0, 0, 0, 0⟩)
structure Txt (K : PySem.W.Frag) (mg : Str → Option Value) (κ : Kap) : Prop where
  n_ValueError : mg "ValueError" = none
  n_bool : mg "bool" = none
  n_int : mg "int" = none
  n_isinstance : mg "isinstance" = none
  n_len : mg "len" = none
  n_range : mg "range" = none
  n_str : mg "str" = none
  g_CHUNK : ∃ u, mg "CHUNK" = some u ∧ RelV (.int 18) u
  g_DIGITS : ∃ u, mg "DIGITS" = some u ∧ RelV (.str "0123456789") u
  g_SCALE : ∃ u, mg "SCALE" = some u ∧ RelV (.int 1000000000000000000) u
  e_NarrowingError : ECls K mg "NarrowingError" (κ "NarrowingError")
  e_InvalidNumber : ECls K mg "InvalidNumber" (κ "InvalidNumber")
  e_InvalidKind : ECls K mg "InvalidKind" (κ "InvalidKind")
  b_NarrowingError : EBase K mg "NarrowingError" (κ "NarrowingError")
  no_InvalidNumber_position : PySem.W.findIn K (.ref (κ "InvalidNumber")) "position" = some none
  x_InvalidNumber_InvalidKind : PySem.W.exmOne K (.ref (κ "InvalidNumber")) (.ref (κ "InvalidKind")) = some false
  x_InvalidNumber_InvalidNumber : PySem.W.exmOne K (.ref (κ "InvalidNumber")) (.ref (κ "InvalidNumber")) = some true
  k_InvalidNumber_NarrowingError : PySem.W.kitOne K (.ref (κ "InvalidNumber")) (.ref (κ "NarrowingError")) = some true
  k_InvalidNumber_ValueError : PySem.W.kitOne K (.ref (κ "InvalidNumber")) (.type "ValueError") = some true
section
variable {P : Program} {w : World} {K : PySem.W.Frag} {mg : Str → Option Value} {κ : Kap} {base : Heap}
abbrev s__law_taken : Stmt := topS 11
theorem sc__law_taken : FnScope N__law_taken ["_law_row", "_law_many"] (defScope s__law_taken) := ⟨rfl, rfl, rfl, by decide +kernel, rfl, by decide +kernel, by decide +kernel⟩
theorem ok__law_taken {f : Addr} {fd : FuncData} (F : Fun K "_law_taken" "_law_taken" s__law_taken f fd) (T : Txt K mg κ)  : FnOk P w K mg base (L2.CX P w) 1 f fd ["_law_row", "_law_many"] (sp__law_taken K κ) := by
  have sc := sc__law_taken
  refine F.okX sc (fun vs H Q E h => l__law_taken h) (fun cdv A outer s H vs Q E hr h => ⟨t__law_taken K κ E, ?_, r__law_taken K κ  vs H Q E h⟩)
  have tk : Takes (cxOf (L2.CX P w) P w K mg base N__law_taken "_law_taken" (defScope s__law_taken) f cdv A outer s H E) (fun cls d _ H => E cls d H) := takes_of rfl rfl rfl rfl
  exact (pss_cons (ps_if (pt_cmpR op_gtU (pe_ix ix_seq (pv 0) pe_int (fun _ _ => rfl)) pe_int (nomark _)) (pss_cons (ps_asg (pe_op op_modU (pe_callTy call_intU (by rfl) T.n_int (by decide +kernel) (pa_cons (pe_ix ix_seq (pv 0) pe_int (fun _ _ => rfl)) pa_nil)) (pv 1)) (pg_name (i := 2) sc.nd rfl (.inl rfl)))
  (pss_cons (ps_asg (pe_op op_fdivU (pe_ix ix_seq (pv 0) pe_int (fun _ _ => rfl)) (pv 1)) (pg_sub (pv 0) pe_int set_list))
  (pss_one (ps_ret (pv 2))))) pss_nil)
  (pss_cons (ps_asg (pe_op op_addU (pe_ix ix_seq (pv 0) pe_int (fun _ _ => rfl)) pe_int) (pg_sub (pv 0) pe_int set_list))
  (pss_cons (ps_if (pt_cmpR op_gtU (pe_ix ix_seq (pv 0) pe_int (fun _ _ => rfl)) (pe_callB call_lenU (by rfl) T.n_len (by decide +kernel) (pa_cons (pe_ix ix_seq (pv 0) pe_int (fun _ _ => rfl)) pa_nil)) (nomark _)) (pss_cons (ps_asg (pe_op op_modU (pe_callTy call_intU (by rfl) T.n_int (by decide +kernel) (pa_cons (pe_op op_addU (pe_op op_mulU (pe_ix ix_seq (pv 0) pe_int (fun _ _ => rfl)) pe_int) pe_int) pa_nil)) pe_int) (pg_sub (pv 0) pe_int set_list))
  (pss_one (ps_ret (pe_op op_modU (pe_callTy call_intU (by rfl) T.n_int (by decide +kernel) (pa_cons (pe_op op_fdivU (pe_ix ix_seq (pv 0) pe_int (fun _ _ => rfl)) pe_int) pa_nil)) (pv 1))))) pss_nil)
  (pss_cons (ps_asg (pe_ix ix_seq (pe_ix ix_seq (pv 0) pe_int (fun _ _ => rfl)) (pe_op op_subU (pe_ix ix_seq (pv 0) pe_int (fun _ _ => rfl)) pe_int) (fun _ _ => rfl)) (pg_name (i := 3) sc.nd rfl (.inl rfl)))
  (pss_cons (ps_asg (pe_op op_modU (pe_callTy call_intU (by rfl) T.n_int (by decide +kernel) (pa_cons (pe_op op_addU (pe_op op_addU (pe_op op_mulU (pe_ix ix_seq (pv 0) pe_int (fun _ _ => rfl)) pe_int) (pv 3)) pe_int) pa_nil)) pe_int) (pg_sub (pv 0) pe_int set_list))
  (pss_cons (ps_if (pt_cmpR op_geU (pv 3) (pe_op op_powU pe_int pe_int) (nomark _)) (pss_one (ps_asg (pe_op op_fdivU (pv 3) (pv 1)) (pg_sub (pv 0) pe_int set_list))) pss_nil)
  (pss_one (ps_ret (pe_op op_modU (pe_callTy call_intU (by rfl) T.n_int (by decide +kernel) (pa_cons (pv 3) pa_nil)) (pv 1))))))))))
abbrev s__law_digits : Stmt := topS 13
theorem sc__law_digits : FnScope N__law_digits ["_law_row"] (defScope s__law_digits) := ⟨rfl, rfl, rfl, by decide +kernel, rfl, by decide +kernel, by decide +kernel⟩
theorem ok__law_digits {f : Addr} {fd : FuncData} (F : Fun K "_law_digits" "_law_digits" s__law_digits f fd) (T : Txt K mg κ) (C__law_taken : Cal P w K mg base 1 "_law_taken" ["_law_row", "_law_many"] (sp__law_taken K κ)) : FnOk P w K mg base (L2.CX P w) 2 f fd ["_law_row"] (sp__law_digits K κ) := by
  have sc := sc__law_digits
  refine F.okX sc (fun vs H Q E h => l__law_digits h) (fun cdv A outer s H vs Q E hr h => ⟨t__law_digits K κ E, ?_, r__law_digits K κ  vs H Q E h⟩)
  have tk : Takes (cxOf (L2.CX P w) P w K mg base N__law_digits "_law_digits" (defScope s__law_digits) f cdv A outer s H E) (fun cls d _ H => E cls d H) := takes_of rfl rfl rfl rfl
  exact (pss_cons (ps_asg (pe_callTy call_strU (by rfl) T.n_str (by decide +kernel) (pa_cons (pe_op op_addU pe_int (pe_cal C__law_taken (hr.mono (by decide)) tk (by rfl) (pa_cons (pv 0) (pa_cons (pe_op op_powU pe_int pe_int) pa_nil)))) pa_nil)) (pg_name (i := 1) sc.nd rfl (.inl rfl)))
  (pss_cons (ps_if (pt_cmpR op_eq (pe_cal C__law_taken (hr.mono (by decide)) tk (by rfl) (pa_cons (pv 0) (pa_cons pe_int pa_nil))) pe_int (nomark _)) (pss_one (ps_asg (pe_op op_addU (pv 1) (pe_op op_mulU (pe_bm PySem.F.plainAttrs_str PySem.F.slot_str_zfill PySem.F.type_str_zfill mt_zfillU (pe_callTy call_strU (by rfl) T.n_str (by decide +kernel) (pa_cons (pe_cal C__law_taken (hr.mono (by decide)) tk (by rfl) (pa_cons (pv 0) (pa_cons (pe_op op_powU pe_int pe_int) pa_nil))) pa_nil)) (pa_cons pe_int pa_nil)) (pe_op op_addU pe_int (pe_cal C__law_taken (hr.mono (by decide)) tk (by rfl) (pa_cons (pv 0) (pa_cons pe_int pa_nil)))))) (pg_name (i := 1) sc.nd rfl (.inl rfl)))) pss_nil)
  (pss_one (ps_ret (pv 1)))))
abbrev s_InvalidNumber___init__ : Stmt := inClass (topS 2) 0
theorem sc_InvalidNumber___init__ : FnScope ["self", "position"] ["self", "position"] (defScope s_InvalidNumber___init__) := ⟨rfl, rfl, rfl, by decide +kernel, rfl, by decide +kernel, by decide +kernel⟩
theorem ok_InvalidNumber___init__ {f : Addr} {fd : FuncData} (F : Fun K "__init__" "InvalidNumber.__init__" s_InvalidNumber___init__ f fd) (T : Txt K mg κ) : FnOk P w K mg base (L2.CX P w) 1 f fd ["self", "position"] (sp_init1 K "position") := by
  have sc := sc_InvalidNumber___init__
  refine F.okX sc (fun vs H Q E h => l_init1 h) (fun cdv A outer s H vs Q E hr h => ⟨t_init1 K "the text is not an integer" "position", ?_, r_init1 K "the text is not an integer" "position" ["self", "position"] rfl vs H Q E h⟩)
  exact pss_cons (ps_expr (pe_binit (by rfl) T.b_NarrowingError.g T.b_NarrowingError.s T.b_NarrowingError.r T.b_NarrowingError.v (pa_cons (pv 0) (pa_cons pe_str pa_nil)))) (pss_one (ps_ost (pv 0) (pv 1)))
abbrev s_first_error : Stmt := topS 8
theorem sc_first_error : FnScope N_first_error ["text"] (defScope s_first_error) := ⟨rfl, rfl, rfl, by decide +kernel, rfl, by decide +kernel, by decide +kernel⟩
theorem ok_first_error {f : Addr} {fd : FuncData} (F : Fun K "first_error" "first_error" s_first_error f fd) (T : Txt K mg κ)  : FnOk P w K mg base (L2.CX P w) 1 f fd ["text"] (sp_first_error K κ) := by
  have sc := sc_first_error
  refine F.okX sc (fun vs H Q E h => l_first_error h) (fun cdv A outer s H vs Q E hr h => ⟨t_first_error K κ E, ?_, r_first_error K κ  vs H Q E h⟩)
  have tk : Takes (cxOf (L2.CX P w) P w K mg base N_first_error "first_error" (defScope s_first_error) f cdv A outer s H E) (fun cls d _ H => E cls d H) := takes_of rfl rfl rfl rfl
  exact (pss_cons (ps_asg (pe_ifExp (pt_cmpR op_eq (pe_slice sl_U (pv 0) po_none (po_some pe_int)) pe_str (nomark _)) pe_int pe_int) (pg_name (i := 1) sc.nd rfl (.inl rfl)))
  (pss_cons (ps_for (passes_of rfl) rfl (pi_range2 (by rfl) T.n_range (pa_cons (pv 1) (pa_cons (pe_callB call_lenU (by rfl) T.n_len (by decide +kernel) (pa_cons (pv 0) pa_nil)) pa_nil))) (pg_name (i := 2) sc.nd rfl (.inl rfl)) (pss_cons (ps_if (pt_cmpR op_notInU (pe_ix ix_seq (pv 0) (pv 2) (fun _ _ => rfl)) (pe_const T.g_DIGITS (by rfl)) (by rfl)) (pss_one (ps_ret (pe_op op_addU (pv 2) pe_int))) pss_nil)
  (pss_cons (ps_if (PW.pt (pw_and (pt_cmpR op_eq (pv 2) (pv 1) (nomark _)) (pw_and (pt_cmpR op_eq (pe_ix ix_seq (pv 0) (pv 2) (fun _ _ => rfl)) pe_str (nomark _)) (pw_and1 (pt_cmpR op_eq (pv 1) pe_int (nomark _)))))) (pss_one (ps_ret (pe_op op_addU (pv 2) pe_int))) pss_nil)
  (pss_one (ps_if (PW.pt (pw_and (pt_cmpR op_eq (pv 2) (pe_op op_addU (pv 1) pe_int) (nomark _)) (pw_and1 (pt_cmpR op_eq (pe_ix ix_seq (pv 0) (pv 1) (fun _ _ => rfl)) pe_str (nomark _))))) (pss_one (ps_ret (pe_op op_addU (pv 2) pe_int))) pss_nil)))))
  (pss_cons (ps_if (pt_cmpR op_eq (pe_callB call_lenU (by rfl) T.n_len (by decide +kernel) (pa_cons (pv 0) pa_nil)) (pv 1) (nomark _)) (pss_one (ps_ret (pe_op op_addU (pv 1) pe_int))) pss_nil)
  (pss_one (ps_ret pe_non)))))
abbrev s_read_integer : Stmt := topS 9
theorem sc_read_integer : FnScope N_read_integer ["text"] (defScope s_read_integer) := ⟨rfl, rfl, rfl, by decide +kernel, rfl, by decide +kernel, by decide +kernel⟩
theorem ok_read_integer {f : Addr} {fd : FuncData} (F : Fun K "read_integer" "read_integer" s_read_integer f fd) (T : Txt K mg κ) (N_InvalidNumber : EIni P w K mg base 1 (κ "InvalidNumber") ["self", "position"] (sp_init1 K "position")) (C_first_error : Cal P w K mg base 1 "first_error" ["text"] (sp_first_error K κ)) : FnOk P w K mg base (L2.CX P w) 3 f fd ["text"] (sp_read_integer K κ) := by
  have sc := sc_read_integer
  refine F.okX sc (fun vs H Q E h => l_read_integer h) (fun cdv A outer s H vs Q E hr h => ⟨t_read_integer K κ E, ?_, r_read_integer K κ  vs H Q E h⟩)
  have tk : Takes (cxOf (L2.CX P w) P w K mg base N_read_integer "read_integer" (defScope s_read_integer) f cdv A outer s H E) (fun cls d _ H => E cls d H) := takes_of rfl rfl rfl rfl
  exact (pss_cons (ps_if (pt_not (pt_truU (pe_callB call_isiU (by rfl) T.n_isinstance (by decide +kernel) (pa_cons (pv 0) (pa_cons (pe_bltn (by rfl) T.n_str (by decide +kernel) rfl) pa_nil))) (by intro _; rfl))) (pss_one (ps_raise1 rfl T.e_InvalidNumber N_InvalidNumber T.no_InvalidNumber_position (hr.mono (by decide)) tk (by rfl) (pa_cons pe_int pa_nil))) pss_nil)
  (pss_cons (ps_asg (pe_cal C_first_error (hr.mono (by decide)) tk (by rfl) (pa_cons (pv 0) pa_nil)) (pg_name (i := 1) sc.nd rfl (.inl rfl)))
  (pss_cons (ps_if (pt_cmpR op_notN1 (pv 1) pe_non (nomark _)) (pss_one (ps_raise1 rfl T.e_InvalidNumber N_InvalidNumber T.no_InvalidNumber_position (hr.mono (by decide)) tk (by rfl) (pa_cons (pv 1) pa_nil))) pss_nil)
  (pss_cons (ps_asg (pe_ifExp (pt_cmpR op_eq (pe_ix ix_seq (pv 0) pe_int (fun _ _ => rfl)) pe_str (nomark _)) (pe_slice sl_U (pv 0) (po_some pe_int) po_none) (pv 0)) (pg_name (i := 2) sc.nd rfl (.inl rfl)))
  (pss_cons (ps_asg (pe_op op_modU (pe_callB call_lenU (by rfl) T.n_len (by decide +kernel) (pa_cons (pv 2) pa_nil)) (pe_const T.g_CHUNK (by rfl))) (pg_name (i := 3) sc.nd rfl (.inl rfl)))
  (pss_cons (ps_asg (pe_ifExp (pt_cmpR op_gtU (pv 3) pe_int (nomark _)) (pe_callTy call_intU (by rfl) T.n_int (by decide +kernel) (pa_cons (pe_slice sl_U (pv 2) po_none (po_some (pv 3))) pa_nil)) pe_int) (pg_name (i := 4) sc.nd rfl (.inl rfl)))
  (pss_cons (ps_for (passes_of rfl) rfl (pi_range3 (by rfl) T.n_range (pa_cons (pv 3) (pa_cons (pe_callB call_lenU (by rfl) T.n_len (by decide +kernel) (pa_cons (pv 2) pa_nil)) (pa_cons (pe_const T.g_CHUNK (by rfl)) pa_nil)))) (pg_name (i := 5) sc.nd rfl (.inl rfl)) (pss_one (ps_asg (pe_op op_addU (pe_op op_mulU (pv 4) (pe_const T.g_SCALE (by rfl))) (pe_callTy call_intU (by rfl) T.n_int (by decide +kernel) (pa_cons (pe_slice sl_U (pv 2) (po_some (pv 5)) (po_some (pe_op op_addU (pv 5) (pe_const T.g_CHUNK (by rfl))))) pa_nil))) (pg_name (i := 4) sc.nd rfl (.inl rfl)))))
  (pss_one (ps_ret (pe_ifExp (pt_cmpR op_eq (pe_ix ix_seq (pv 0) pe_int (fun _ _ => rfl)) pe_str (nomark _)) (pe_un un_neg (pv 4)) (pv 4)))))))))))
abbrev s__law_position : Stmt := topS 12
theorem sc__law_position : FnScope N__law_position ["_law_text"] (defScope s__law_position) := ⟨rfl, rfl, rfl, by decide +kernel, rfl, by decide +kernel, by decide +kernel⟩
theorem ok__law_position {f : Addr} {fd : FuncData} (F : Fun K "_law_position" "_law_position" s__law_position f fd) (T : Txt K mg κ) (C_read_integer : Cal P w K mg base 3 "read_integer" ["text"] (sp_read_integer K κ)) : FnOk P w K mg base (L2.CX P w) 4 f fd ["_law_text"] (sp__law_position K κ) := by
  have sc := sc__law_position
  refine F.okX sc (fun vs H Q E h => l__law_position h) (fun cdv A outer s H vs Q E hr h => ⟨t__law_position K κ E, ?_, r__law_position K κ T.x_InvalidNumber_InvalidKind T.x_InvalidNumber_InvalidNumber T.e_InvalidNumber.ic T.k_InvalidNumber_NarrowingError T.k_InvalidNumber_ValueError vs H Q E h⟩)
  have tk : Takes (cxOf (L2.CX P w) P w K mg base N__law_position "_law_position" (defScope s__law_position) f cdv A outer s H E) (fun cls d _ H => E cls d H) := takes_of rfl rfl rfl rfl
  exact (pss_cons (ps_asg (pe_tup (pa_cons pe_str (pa_cons pe_non (pa_cons pe_bl pa_nil)))) (pg_name (i := 1) sc.nd rfl (.inl rfl)))
  (pss_cons (ps_try_mix rfl rfl tk (fun W pn xe tk own => (pss_one (ps_expr (pe_cal C_read_integer (hr.mono (by decide)) tk (by rfl) (pa_cons (pv 0) pa_nil))))) (HdsMix.bare ⟨rfl, by decide, .inl T.e_InvalidKind.g⟩ (fun a oe cls d pn hz hf => (pss_one (ps_asg (pe_tup (pa_cons pe_str (pa_cons pe_non (pa_cons pe_bl pa_nil)))) (pg_name (i := 1) sc.nd rfl (.inl rfl))))) (HdsMix.named (i := 2) sc.nd rfl rfl ⟨rfl, by decide, .inl T.e_InvalidNumber.g⟩ (fun a oe cls d pn hz hf => (pss_one (ps_asg (pe_tup (pa_cons pe_str (pa_cons (pe_xf T.e_InvalidNumber.xf T.no_InvalidNumber_position hz hf (pv 2)) (pa_cons (pe_andT (pe_callB (call_isX hz hf) (by rfl) T.n_isinstance (by decide +kernel) (pa_cons (pv 2) (pa_cons (pe_glob (by rfl) T.e_NarrowingError.g rfl) pa_nil))) (pe_one (pe_callB (call_isX hz hf) (by rfl) T.n_isinstance (by decide +kernel) (pa_cons (pv 2) (pa_cons (pe_bltn (by rfl) T.n_ValueError (by decide +kernel) rfl) pa_nil))))) pa_nil)))) (pg_name (i := 1) sc.nd rfl (.inl rfl))))) HdsMix.nil)))
  (pss_cons (ps_if (PW.pt (pw_or (pt_not (pt_truU (pe_ix ix_seq (pv 1) pe_int (fun _ _ => rfl)) (by intro _; rfl))) (pw_or1 (pt_truU (pe_callB call_isiU (by rfl) T.n_isinstance (by decide +kernel) (pa_cons (pe_ix ix_seq (pv 1) pe_int (fun _ _ => rfl)) (pa_cons (pe_bltn (by rfl) T.n_bool (by decide +kernel) rfl) pa_nil))) (by intro _; rfl))))) (pss_one (ps_ret pe_str)) pss_nil)
  (pss_one (ps_ret (pe_ix ix_seq (pv 1) pe_int (fun _ _ => rfl)))))))
abbrev s_law : Stmt := topS 14
theorem sc_law : FnScope N_law ["_law_script"] (defScope s_law) := ⟨rfl, rfl, rfl, by decide +kernel, rfl, by decide +kernel, by decide +kernel⟩
theorem ok_law {f : Addr} {fd : FuncData} (F : Fun K "law" "law" s_law f fd) (T : Txt K mg κ) (C__law_digits : Cal P w K mg base 2 "_law_digits" ["_law_row"] (sp__law_digits K κ)) (C__law_position : Cal P w K mg base 4 "_law_position" ["_law_text"] (sp__law_position K κ)) (C__law_taken : Cal P w K mg base 1 "_law_taken" ["_law_row", "_law_many"] (sp__law_taken K κ)) : FnOk P w K mg base (L2.CX P w) 5 f fd ["_law_script"] (sp_law K κ) := by
  have sc := sc_law
  refine F.okX sc (fun vs H Q E h => l_law h) (fun cdv A outer s H vs Q E hr h => ⟨t_law K κ E, ?_, r_law K κ  vs H Q E h⟩)
  have tk : Takes (cxOf (L2.CX P w) P w K mg base N_law "law" (defScope s_law) f cdv A outer s H E) (fun cls d _ H => E cls d H) := takes_of rfl rfl rfl rfl
  exact (pss_cons (ps_asg (pe_lst (pa_cons (pv 0) (pa_cons pe_int (pa_cons pe_int (pa_cons pe_int pa_nil))))) (pg_name (i := 1) sc.nd rfl (.inl rfl)))
  (pss_cons (ps_for (passes_of rfl) rfl (pi_range1 (by rfl) T.n_range (pa_cons pe_int pa_nil)) (pg_name (i := 2) sc.nd rfl (.inl rfl)) (pss_cons (ps_asg (pe_op op_addU (pe_ix ix_seq (pe_lst (pa_cons pe_str (pa_cons pe_str pa_nil))) (pe_cal C__law_taken (hr.mono (by decide)) tk (by rfl) (pa_cons (pv 1) (pa_cons pe_int pa_nil))) (fun _ _ => rfl)) (pe_cal C__law_digits (hr.mono (by decide)) tk (by rfl) (pa_cons (pv 1) pa_nil))) (pg_name (i := 3) sc.nd rfl (.inl rfl)))
  (pss_cons (ps_asg (pe_ix ix_seq (pe_lst (pa_cons pe_int (pa_cons pe_int (pa_cons (pe_op op_subU (pe_callB call_lenU (by rfl) T.n_len (by decide +kernel) (pa_cons (pv 3) pa_nil)) pe_int) (pa_cons (pe_callB call_lenU (by rfl) T.n_len (by decide +kernel) (pa_cons (pv 3) pa_nil)) (pa_cons (pe_cal C__law_taken (hr.mono (by decide)) tk (by rfl) (pa_cons (pv 1) (pa_cons (pe_op op_addU (pe_callB call_lenU (by rfl) T.n_len (by decide +kernel) (pa_cons (pv 3) pa_nil)) pe_int) pa_nil))) pa_nil)))))) (pe_cal C__law_taken (hr.mono (by decide)) tk (by rfl) (pa_cons (pv 1) (pa_cons pe_int pa_nil))) (fun _ _ => rfl)) (pg_name (i := 4) sc.nd rfl (.inl rfl)))
  (pss_cons (ps_asg (pe_ix ix_seq pe_str (pe_cal C__law_taken (hr.mono (by decide)) tk (by rfl) (pa_cons (pv 1) (pa_cons pe_int pa_nil))) (fun _ _ => rfl)) (pg_name (i := 5) sc.nd rfl (.inl rfl)))
  (pss_cons (ps_if (pt_cmpR op_ne (pe_cal C__law_position (hr.mono (by decide)) tk (by rfl) (pa_cons (pe_op op_addU (pe_op op_addU (pe_slice sl_U (pv 3) po_none (po_some (pv 4))) (pv 5)) (pe_slice sl_U (pv 3) (po_some (pv 4)) po_none)) pa_nil)) (pe_op op_addU (pv 4) pe_int) (nomark _)) (pss_one (ps_ret pe_bl)) pss_nil)
  (pss_cons (ps_if (PW.pt (pw_or (pt_cmpR op_ne (pe_cal C__law_position (hr.mono (by decide)) tk (by rfl) (pa_cons (pe_op op_addU pe_str (pv 3)) pa_nil)) pe_int (nomark _)) (pw_or (pt_cmpR op_ne (pe_cal C__law_position (hr.mono (by decide)) tk (by rfl) (pa_cons (pe_op op_addU pe_str (pv 3)) pa_nil)) pe_int (nomark _)) (pw_or1 (pt_cmpR op_ne (pe_cal C__law_position (hr.mono (by decide)) tk (by rfl) (pa_cons (pe_op op_addU pe_str (pv 3)) pa_nil)) pe_int (nomark _)))))) (pss_one (ps_ret pe_bl)) pss_nil)
  (pss_cons (ps_if (PW.pt (pw_or (pt_cmpR op_notN1 (pe_cal C__law_position (hr.mono (by decide)) tk (by rfl) (pa_cons pe_str pa_nil)) pe_non (nomark _)) (pw_or (pt_cmpR op_ne (pe_cal C__law_position (hr.mono (by decide)) tk (by rfl) (pa_cons pe_str pa_nil)) pe_int (nomark _)) (pw_or1 (pt_cmpR op_ne (pe_cal C__law_position (hr.mono (by decide)) tk (by rfl) (pa_cons pe_str pa_nil)) pe_int (nomark _)))))) (pss_one (ps_ret pe_bl)) pss_nil)
  (pss_cons (ps_if (PW.pt (pw_or (pt_cmpR op_ne (pe_cal C__law_position (hr.mono (by decide)) tk (by rfl) (pa_cons pe_str pa_nil)) pe_int (nomark _)) (pw_or (pt_cmpR op_ne (pe_cal C__law_position (hr.mono (by decide)) tk (by rfl) (pa_cons (pe_op op_addU pe_str (pv 3)) pa_nil)) pe_int (nomark _)) (pw_or1 (pt_cmpR op_ne (pe_cal C__law_position (hr.mono (by decide)) tk (by rfl) (pa_cons (pe_op op_addU (pv 3) pe_str) pa_nil)) (pe_op op_addU (pe_callB call_lenU (by rfl) T.n_len (by decide +kernel) (pa_cons (pv 3) pa_nil)) pe_int) (nomark _)))))) (pss_one (ps_ret pe_bl)) pss_nil)
  (pss_cons (ps_for (passes_of rfl) rfl (pi_list (pe_lst (pa_cons pe_non (pa_cons pe_int (pa_cons pe_bl (pa_cons (pe_lst (pa_cons pe_str pa_nil)) (pa_cons (pe_tup (pa_cons pe_str pa_nil)) pa_nil))))))) (pg_name (i := 6) sc.nd rfl (.inl rfl)) (pss_one (ps_if (pt_cmpR op_ne (pe_cal C__law_position (hr.mono (by decide)) tk (by rfl) (pa_cons (pv 6) pa_nil)) pe_int (nomark _)) (pss_one (ps_ret pe_bl)) pss_nil)))
  (pss_one (ps_if (pt_cmpR op_notN1 (pe_cal C__law_position (hr.mono (by decide)) tk (by rfl) (pa_cons (pv 3) pa_nil)) pe_non (nomark _)) (pss_one (ps_ret pe_bl)) pss_nil)))))))))))
  (pss_one (ps_ret pe_bl))))
end
def kap (c_NarrowingError : Addr) (c_InvalidNumber : Addr) (c_InvalidKind : Addr) : Kap := fun s => if s = "NarrowingError" then c_NarrowingError else if s = "InvalidNumber" then c_InvalidNumber else if s = "InvalidKind" then c_InvalidKind else 0
theorem all_mk {P : Program} {w : World} {K : PySem.W.Frag} {h : Heap} {mg : Str → Option Value} {fa : Addr} (X : K.In h) (G : h.Ns mainGlobals mg) (hfa : mg "law" = some (.ref fa))
    {c_NarrowingError N_NarrowingError : Addr} {nm_NarrowingError q_NarrowingError : Str} {bs_NarrowingError sub_NarrowingError : List Value} {sn_NarrowingError : List Str} {ab_NarrowingError : Bool} {col_NarrowingError : Option Bool} {dd_NarrowingError : Option Addr} {m0_NarrowingError m1_NarrowingError m2_NarrowingError m3_NarrowingError m5_NarrowingError : Option Value}
    {c_InvalidNumber N_InvalidNumber : Addr} {nm_InvalidNumber q_InvalidNumber : Str} {bs_InvalidNumber sub_InvalidNumber : List Value} {sn_InvalidNumber : List Str} {ab_InvalidNumber : Bool} {col_InvalidNumber : Option Bool} {dd_InvalidNumber : Option Addr} {m0_InvalidNumber m1_InvalidNumber m2_InvalidNumber m3_InvalidNumber m5_InvalidNumber : Option Value}
    {c_InvalidKind N_InvalidKind : Addr} {nm_InvalidKind q_InvalidKind : Str} {bs_InvalidKind sub_InvalidKind : List Value} {sn_InvalidKind : List Str} {ab_InvalidKind : Bool} {col_InvalidKind : Option Bool} {dd_InvalidKind : Option Addr} {m0_InvalidKind m1_InvalidKind m2_InvalidKind m3_InvalidKind m5_InvalidKind : Option Value}
    (aC_NarrowingError : PySem.W.nsIn K mainGlobals "NarrowingError" = some (some (.ref c_NarrowingError)))
    (xL_NarrowingError : K.lookup c_NarrowingError = some (excClassObj nm_NarrowingError q_NarrowingError c_NarrowingError N_NarrowingError bs_NarrowingError [.type "ValueError", .type "Exception", .type "BaseException", .type "object"] true sn_NarrowingError sub_NarrowingError ab_NarrowingError col_NarrowingError dd_NarrowingError m0_NarrowingError m1_NarrowingError m2_NarrowingError m3_NarrowingError m5_NarrowingError "ValueError.__new__"))
    (sa_NarrowingError : PySem.W.findIn K (.ref c_NarrowingError) "__setattr__" = some (some (.builtin "object.__setattr__")))
    (ga_NarrowingError : PySem.W.findIn K (.ref c_NarrowingError) "__getattribute__" = some (some (.builtin "BaseException.__getattribute__")))
    (gg_NarrowingError : PySem.W.findIn K (.ref c_NarrowingError) "__getattr__" = some none)
    (eC_NarrowingError : PySem.W.subIn K (.ref c_NarrowingError) (.type "BaseException") = some true)
    (tC_NarrowingError : PySem.W.typeIn K (.ref c_NarrowingError) = some (.type "type"))
    (kC_NarrowingError : PySem.W.keepIn K (.ref c_NarrowingError) = true)
    (hC_NarrowingError : PySem.W.hasDictIn K c_NarrowingError = true)
    (ca_NarrowingError : PySem.W.findIn K (.ref c_NarrowingError) "__class__" = some (some (.builtin "object.__class__")))
    (mo_NarrowingError : PySem.W.mroIn K c_NarrowingError (.type "object") = some true)
    (aC_InvalidNumber : PySem.W.nsIn K mainGlobals "InvalidNumber" = some (some (.ref c_InvalidNumber)))
    (xL_InvalidNumber : K.lookup c_InvalidNumber = some (excClassObj nm_InvalidNumber q_InvalidNumber c_InvalidNumber N_InvalidNumber bs_InvalidNumber [.ref c_NarrowingError, .type "ValueError", .type "Exception", .type "BaseException", .type "object"] true sn_InvalidNumber sub_InvalidNumber ab_InvalidNumber col_InvalidNumber dd_InvalidNumber m0_InvalidNumber m1_InvalidNumber m2_InvalidNumber m3_InvalidNumber m5_InvalidNumber "ValueError.__new__"))
    (sa_InvalidNumber : PySem.W.findIn K (.ref c_InvalidNumber) "__setattr__" = some (some (.builtin "object.__setattr__")))
    (ga_InvalidNumber : PySem.W.findIn K (.ref c_InvalidNumber) "__getattribute__" = some (some (.builtin "BaseException.__getattribute__")))
    (gg_InvalidNumber : PySem.W.findIn K (.ref c_InvalidNumber) "__getattr__" = some none)
    (eC_InvalidNumber : PySem.W.subIn K (.ref c_InvalidNumber) (.type "BaseException") = some true)
    (tC_InvalidNumber : PySem.W.typeIn K (.ref c_InvalidNumber) = some (.type "type"))
    (kC_InvalidNumber : PySem.W.keepIn K (.ref c_InvalidNumber) = true)
    (hC_InvalidNumber : PySem.W.hasDictIn K c_InvalidNumber = true)
    (ca_InvalidNumber : PySem.W.findIn K (.ref c_InvalidNumber) "__class__" = some (some (.builtin "object.__class__")))
    (mo_InvalidNumber : PySem.W.mroIn K c_InvalidNumber (.type "object") = some true)
    (aC_InvalidKind : PySem.W.nsIn K mainGlobals "InvalidKind" = some (some (.ref c_InvalidKind)))
    (xL_InvalidKind : K.lookup c_InvalidKind = some (excClassObj nm_InvalidKind q_InvalidKind c_InvalidKind N_InvalidKind bs_InvalidKind [.ref c_NarrowingError, .type "ValueError", .type "Exception", .type "BaseException", .type "object"] true sn_InvalidKind sub_InvalidKind ab_InvalidKind col_InvalidKind dd_InvalidKind m0_InvalidKind m1_InvalidKind m2_InvalidKind m3_InvalidKind m5_InvalidKind "ValueError.__new__"))
    (sa_InvalidKind : PySem.W.findIn K (.ref c_InvalidKind) "__setattr__" = some (some (.builtin "object.__setattr__")))
    (ga_InvalidKind : PySem.W.findIn K (.ref c_InvalidKind) "__getattribute__" = some (some (.builtin "BaseException.__getattribute__")))
    (gg_InvalidKind : PySem.W.findIn K (.ref c_InvalidKind) "__getattr__" = some none)
    (eC_InvalidKind : PySem.W.subIn K (.ref c_InvalidKind) (.type "BaseException") = some true)
    (tC_InvalidKind : PySem.W.typeIn K (.ref c_InvalidKind) = some (.type "type"))
    (kC_InvalidKind : PySem.W.keepIn K (.ref c_InvalidKind) = true)
    (hC_InvalidKind : PySem.W.hasDictIn K c_InvalidKind = true)
    (ca_InvalidKind : PySem.W.findIn K (.ref c_InvalidKind) "__class__" = some (some (.builtin "object.__class__")))
    (mo_InvalidKind : PySem.W.mroIn K c_InvalidKind (.type "object") = some true)
    (cg : PySem.W.specialIn K (.builtin "object.__class__") "__get__" = some (some (.builtin "getset_descriptor.__get__")))
    (ct : PySem.W.takesIn K (.builtin "object.__class__") = some true)
    (bs_NarrowingError_s : PySem.W.specialIn K (.ref c_NarrowingError) "__getattribute__" = some (some (.builtin "type.__getattribute__")))
    (bs_NarrowingError_r : PySem.W.readsIn K c_NarrowingError (.type "type") = true)
    (bs_NarrowingError_v : PySem.W.findCls K (.ref c_NarrowingError) (.type "type") "__init__" = some (.val (.builtin "ValueError.__init__")))
    (no_InvalidNumber_position : PySem.W.findIn K (.ref c_InvalidNumber) "position" = some none)
    (su_InvalidNumber_InvalidKind : PySem.W.subIn K (.ref c_InvalidNumber) (.ref c_InvalidKind) = some false)
    (su_InvalidNumber_InvalidNumber : PySem.W.subIn K (.ref c_InvalidNumber) (.ref c_InvalidNumber) = some true)
    (ki_InvalidNumber_NarrowingError : PySem.W.subIn K (.ref c_InvalidNumber) (.ref c_NarrowingError) = some true)
    (ki_InvalidNumber_ValueError : PySem.W.subIn K (.ref c_InvalidNumber) (.type "ValueError") = some true)
    {f0 : Addr} {od0 an0 : Option Addr} {sl0 : Array (Option Value)} {oc0 kV0 dc0 pm0 cd0 ct0 : Value}
    (a0 : PySem.W.nsIn K mainGlobals "_law_taken" = some (some (.ref f0)))
    (l0 : K.lookup f0 = some ⟨oc0, od0, .func (PySem.W.fnOf "_law_taken" "_law_taken" (defArgs s__law_taken) (defBody s__law_taken) (defScope s__law_taken) .none kV0 dc0 pm0 an0 cd0 ct0), sl0⟩)
    (c0 : PySem.W.codeIn K cd0 "_law_taken" = true)
    (k0 : PySem.W.keepIn K (.ref f0) = true)
    {f1 : Addr} {od1 an1 : Option Addr} {sl1 : Array (Option Value)} {oc1 kV1 dc1 pm1 cd1 ct1 : Value}
    (a1 : PySem.W.nsIn K mainGlobals "_law_digits" = some (some (.ref f1)))
    (l1 : K.lookup f1 = some ⟨oc1, od1, .func (PySem.W.fnOf "_law_digits" "_law_digits" (defArgs s__law_digits) (defBody s__law_digits) (defScope s__law_digits) .none kV1 dc1 pm1 an1 cd1 ct1), sl1⟩)
    (c1 : PySem.W.codeIn K cd1 "_law_digits" = true)
    (k1 : PySem.W.keepIn K (.ref f1) = true)
    {f2 : Addr} {od2 an2 : Option Addr} {sl2 : Array (Option Value)} {oc2 kV2 dc2 pm2 cd2 ct2 : Value}
    (a2 : PySem.W.findIn K (.ref c_InvalidNumber) "__init__" = some (some (.ref f2)))
    (y2 : PySem.W.typeIn K (.ref f2) = some (.type "function"))
    (l2 : K.lookup f2 = some ⟨oc2, od2, .func (PySem.W.fnOf "__init__" "InvalidNumber.__init__" (defArgs s_InvalidNumber___init__) (defBody s_InvalidNumber___init__) (defScope s_InvalidNumber___init__) .none kV2 dc2 pm2 an2 cd2 ct2), sl2⟩)
    (c2 : PySem.W.codeIn K cd2 "InvalidNumber.__init__" = true)
    (k2 : PySem.W.keepIn K (.ref f2) = true)
    {f3 : Addr} {od3 an3 : Option Addr} {sl3 : Array (Option Value)} {oc3 kV3 dc3 pm3 cd3 ct3 : Value}
    (a3 : PySem.W.nsIn K mainGlobals "first_error" = some (some (.ref f3)))
    (l3 : K.lookup f3 = some ⟨oc3, od3, .func (PySem.W.fnOf "first_error" "first_error" (defArgs s_first_error) (defBody s_first_error) (defScope s_first_error) .none kV3 dc3 pm3 an3 cd3 ct3), sl3⟩)
    (c3 : PySem.W.codeIn K cd3 "first_error" = true)
    (k3 : PySem.W.keepIn K (.ref f3) = true)
    {f4 : Addr} {od4 an4 : Option Addr} {sl4 : Array (Option Value)} {oc4 kV4 dc4 pm4 cd4 ct4 : Value}
    (a4 : PySem.W.nsIn K mainGlobals "read_integer" = some (some (.ref f4)))
    (l4 : K.lookup f4 = some ⟨oc4, od4, .func (PySem.W.fnOf "read_integer" "read_integer" (defArgs s_read_integer) (defBody s_read_integer) (defScope s_read_integer) .none kV4 dc4 pm4 an4 cd4 ct4), sl4⟩)
    (c4 : PySem.W.codeIn K cd4 "read_integer" = true)
    (k4 : PySem.W.keepIn K (.ref f4) = true)
    {f5 : Addr} {od5 an5 : Option Addr} {sl5 : Array (Option Value)} {oc5 kV5 dc5 pm5 cd5 ct5 : Value}
    (a5 : PySem.W.nsIn K mainGlobals "_law_position" = some (some (.ref f5)))
    (l5 : K.lookup f5 = some ⟨oc5, od5, .func (PySem.W.fnOf "_law_position" "_law_position" (defArgs s__law_position) (defBody s__law_position) (defScope s__law_position) .none kV5 dc5 pm5 an5 cd5 ct5), sl5⟩)
    (c5 : PySem.W.codeIn K cd5 "_law_position" = true)
    (k5 : PySem.W.keepIn K (.ref f5) = true)
    {f6 : Addr} {od6 an6 : Option Addr} {sl6 : Array (Option Value)} {oc6 kV6 dc6 pm6 cd6 ct6 : Value}
    (a6 : PySem.W.nsIn K mainGlobals "law" = some (some (.ref f6)))
    (l6 : K.lookup f6 = some ⟨oc6, od6, .func (PySem.W.fnOf "law" "law" (defArgs s_law) (defBody s_law) (defScope s_law) .none kV6 dc6 pm6 an6 cd6 ct6), sl6⟩)
    (c6 : PySem.W.codeIn K cd6 "law" = true)
    (k6 : PySem.W.keepIn K (.ref f6) = true)
    (z_ValueError : PySem.W.nsIn K mainGlobals "ValueError" = some none)
    (z_bool : PySem.W.nsIn K mainGlobals "bool" = some none)
    (z_int : PySem.W.nsIn K mainGlobals "int" = some none)
    (z_isinstance : PySem.W.nsIn K mainGlobals "isinstance" = some none)
    (z_len : PySem.W.nsIn K mainGlobals "len" = some none)
    (z_range : PySem.W.nsIn K mainGlobals "range" = some none)
    (z_str : PySem.W.nsIn K mainGlobals "str" = some none)
    {t_CHUNK : Tok}
    (v_CHUNK : PySem.W.nsIn K mainGlobals "CHUNK" = some (some (.int 18 t_CHUNK)))
    {t_DIGITS : Tok}
    (v_DIGITS : PySem.W.nsIn K mainGlobals "DIGITS" = some (some (.str "0123456789" t_DIGITS)))
    {t_SCALE : Tok}
    (v_SCALE : PySem.W.nsIn K mainGlobals "SCALE" = some (some (.int 1000000000000000000 t_SCALE)))
    : ∃ (κ : Kap) (fd : FuncData), (∀ (s : Shared) (v : Value), BindsTo s fd ⟨[v], []⟩ [("_law_script", v)]) ∧ ∀ base : Heap, K.In base → base.Ns mainGlobals mg → FnOk P w K mg base (L2.CX P w) 5 fa fd ["_law_script"] (sp_law K κ) := by
  have e := hfa.symm.trans (PySem.W.mg_of X G a6)
  cases e
  have hk : ∃ κ : Kap, κ "NarrowingError" = c_NarrowingError ∧ κ "InvalidNumber" = c_InvalidNumber ∧ κ "InvalidKind" = c_InvalidKind ∧ True := ⟨kap c_NarrowingError c_InvalidNumber c_InvalidKind, by unfold kap; rw [if_pos rfl], by unfold kap; rw [if_neg (by decide)]; rw [if_pos rfl], by unfold kap; rw [if_neg (by decide)]; rw [if_neg (by decide)]; rw [if_pos rfl], trivial⟩
  obtain ⟨κ, rfl, rfl, rfl, _⟩ := hk
  have T : Txt K mg κ := { n_ValueError := PySem.W.mg_none_of X G z_ValueError, n_bool := PySem.W.mg_none_of X G z_bool, n_int := PySem.W.mg_none_of X G z_int, n_isinstance := PySem.W.mg_none_of X G z_isinstance, n_len := PySem.W.mg_none_of X G z_len, n_range := PySem.W.mg_none_of X G z_range, n_str := PySem.W.mg_none_of X G z_str, g_CHUNK := ⟨_, PySem.W.mg_of X G v_CHUNK, ⟨_, rfl⟩⟩, g_DIGITS := ⟨_, PySem.W.mg_of X G v_DIGITS, ⟨_, rfl⟩⟩, g_SCALE := ⟨_, PySem.W.mg_of X G v_SCALE, ⟨_, rfl⟩⟩, e_NarrowingError := { g := PySem.W.mg_of X G aC_NarrowingError, o := { cls := ⟨nm_NarrowingError, q_NarrowingError, N_NarrowingError, bs_NarrowingError, _, sn_NarrowingError, sub_NarrowingError, ab_NarrowingError, col_NarrowingError, dd_NarrowingError, m0_NarrowingError, m1_NarrowingError, m2_NarrowingError, m3_NarrowingError, m5_NarrowingError, xL_NarrowingError, rfl⟩, sa := sa_NarrowingError, exC := eC_NarrowingError, tyC := tC_NarrowingError, kC := kC_NarrowingError }, xf := { ga := ga_NarrowingError, gg := gg_NarrowingError, exC := eC_NarrowingError, hdC := hC_NarrowingError }, ic := { hg := ga_NarrowingError, hk := gg_NarrowingError, hs := eC_NarrowingError, hd := hC_NarrowingError, ha := ca_NarrowingError, hn := cg, ht := ct, hm := mo_NarrowingError } }, e_InvalidNumber := { g := PySem.W.mg_of X G aC_InvalidNumber, o := { cls := ⟨nm_InvalidNumber, q_InvalidNumber, N_InvalidNumber, bs_InvalidNumber, _, sn_InvalidNumber, sub_InvalidNumber, ab_InvalidNumber, col_InvalidNumber, dd_InvalidNumber, m0_InvalidNumber, m1_InvalidNumber, m2_InvalidNumber, m3_InvalidNumber, m5_InvalidNumber, xL_InvalidNumber, rfl⟩, sa := sa_InvalidNumber, exC := eC_InvalidNumber, tyC := tC_InvalidNumber, kC := kC_InvalidNumber }, xf := { ga := ga_InvalidNumber, gg := gg_InvalidNumber, exC := eC_InvalidNumber, hdC := hC_InvalidNumber }, ic := { hg := ga_InvalidNumber, hk := gg_InvalidNumber, hs := eC_InvalidNumber, hd := hC_InvalidNumber, ha := ca_InvalidNumber, hn := cg, ht := ct, hm := mo_InvalidNumber } }, e_InvalidKind := { g := PySem.W.mg_of X G aC_InvalidKind, o := { cls := ⟨nm_InvalidKind, q_InvalidKind, N_InvalidKind, bs_InvalidKind, _, sn_InvalidKind, sub_InvalidKind, ab_InvalidKind, col_InvalidKind, dd_InvalidKind, m0_InvalidKind, m1_InvalidKind, m2_InvalidKind, m3_InvalidKind, m5_InvalidKind, xL_InvalidKind, rfl⟩, sa := sa_InvalidKind, exC := eC_InvalidKind, tyC := tC_InvalidKind, kC := kC_InvalidKind }, xf := { ga := ga_InvalidKind, gg := gg_InvalidKind, exC := eC_InvalidKind, hdC := hC_InvalidKind }, ic := { hg := ga_InvalidKind, hk := gg_InvalidKind, hs := eC_InvalidKind, hd := hC_InvalidKind, ha := ca_InvalidKind, hn := cg, ht := ct, hm := mo_InvalidKind } }, b_NarrowingError := { g := PySem.W.mg_of X G aC_NarrowingError, s := bs_NarrowingError_s, r := bs_NarrowingError_r, v := bs_NarrowingError_v }, no_InvalidNumber_position := no_InvalidNumber_position, x_InvalidNumber_InvalidKind := PySem.W.exm_ref eC_InvalidKind hC_InvalidKind tC_InvalidKind su_InvalidNumber_InvalidKind, x_InvalidNumber_InvalidNumber := PySem.W.exm_ref eC_InvalidNumber hC_InvalidNumber tC_InvalidNumber su_InvalidNumber_InvalidNumber, k_InvalidNumber_NarrowingError := nv_kit_own hC_NarrowingError tC_NarrowingError ki_InvalidNumber_NarrowingError, k_InvalidNumber_ValueError := nv_kit_ty (by decide +kernel) ki_InvalidNumber_ValueError }
  have F0 := fun_mk (st := s__law_taken) l0 c0 k0
  have b0 := F0.binds (ps := ["_law_row", "_law_many"]) fun _ _ _ _ _ _ us hl => match us, hl with | [_, _], _ => rfl
  have F1 := fun_mk (st := s__law_digits) l1 c1 k1
  have b1 := F1.binds (ps := ["_law_row"]) fun _ _ _ _ _ _ us hl => match us, hl with | [_], _ => rfl
  have F2 := fun_mk (st := s_InvalidNumber___init__) l2 c2 k2
  have b2 := F2.binds (ps := ["self", "position"]) fun _ _ _ _ _ _ us hl => match us, hl with | [_, _], _ => rfl
  have F3 := fun_mk (st := s_first_error) l3 c3 k3
  have b3 := F3.binds (ps := ["text"]) fun _ _ _ _ _ _ us hl => match us, hl with | [_], _ => rfl
  have F4 := fun_mk (st := s_read_integer) l4 c4 k4
  have b4 := F4.binds (ps := ["text"]) fun _ _ _ _ _ _ us hl => match us, hl with | [_], _ => rfl
  have F5 := fun_mk (st := s__law_position) l5 c5 k5
  have b5 := F5.binds (ps := ["_law_text"]) fun _ _ _ _ _ _ us hl => match us, hl with | [_], _ => rfl
  have F6 := fun_mk (st := s_law) l6 c6 k6
  refine ⟨κ, PySem.W.fnOf "law" "law" (defArgs s_law) (defBody s_law) (defScope s_law) .none kV6 dc6 pm6 an6 cd6 ct6, fun s v => .of_eq rfl, fun base _ _ => ?_⟩
  have C0 : Cal P w K mg base 1 "_law_taken" ["_law_row", "_law_many"] (sp__law_taken K κ) := ⟨_, _, ok__law_taken F0 T , PySem.W.mg_of X G a0, k0, b0⟩
  have C1 : Cal P w K mg base 2 "_law_digits" ["_law_row"] (sp__law_digits K κ) := ⟨_, _, ok__law_digits F1 T C0, PySem.W.mg_of X G a1, k1, b1⟩
  have C2 : EIni P w K mg base 1 (κ "InvalidNumber") ["self", "position"] (sp_init1 K "position") := ⟨_, _, ok_InvalidNumber___init__ F2 T , a2, y2, b2⟩
  have C3 : Cal P w K mg base 1 "first_error" ["text"] (sp_first_error K κ) := ⟨_, _, ok_first_error F3 T , PySem.W.mg_of X G a3, k3, b3⟩
  have C4 : Cal P w K mg base 3 "read_integer" ["text"] (sp_read_integer K κ) := ⟨_, _, ok_read_integer F4 T C2 C3, PySem.W.mg_of X G a4, k4, b4⟩
  have C5 : Cal P w K mg base 4 "_law_position" ["_law_text"] (sp__law_position K κ) := ⟨_, _, ok__law_position F5 T C4, PySem.W.mg_of X G a5, k5, b5⟩
  exact ok_law F6 T C1 C5 C0
end NvK02
open PySem PySem.W PyProof.Rows
set_option maxHeartbeats 0 in
theorem PySem.Challenge.cw_narrowing_k02_integers_rejected_holds : PySem.Challenge.rw_narrowing_k02_integers_rejected.Holds := by
  w_on; o_law; k_head; (case hw => w_witness2)
  k_fill
  refine Nv.walk_ofE (l := PySem.Challenge.rw_narrowing_k02_integers_rejected) (n := 63) (k := 5) (x := "_law_script") (CX := fun w => L2.CX PySem.Challenge.rw_narrowing_k02_integers_rejected.prog w) (sp := Nv.sp_law) rfl (by decide) rfl ⟨rfl, by decide, by decide⟩ (fun w h Y => PySem.W.kIn_of Y) ?F (fun _ _ _ a ns hl _ hS => Nv.law_pre hS hl) (fun _ _ _ _ _ h => Nv.noX h)
  case F =>
    intro w mg fa h KX G hmg
    refine' NvK02.all_mk KX G hmg ?aC_NarrowingError ?xL_NarrowingError ?sa_NarrowingError ?ga_NarrowingError ?gg_NarrowingError ?eC_NarrowingError ?tC_NarrowingError ?kC_NarrowingError ?hC_NarrowingError ?ca_NarrowingError ?mo_NarrowingError ?aC_InvalidNumber ?xL_InvalidNumber ?sa_InvalidNumber ?ga_InvalidNumber ?gg_InvalidNumber ?eC_InvalidNumber ?tC_InvalidNumber ?kC_InvalidNumber ?hC_InvalidNumber ?ca_InvalidNumber ?mo_InvalidNumber ?aC_InvalidKind ?xL_InvalidKind ?sa_InvalidKind ?ga_InvalidKind ?gg_InvalidKind ?eC_InvalidKind ?tC_InvalidKind ?kC_InvalidKind ?hC_InvalidKind ?ca_InvalidKind ?mo_InvalidKind ?cg ?ct ?bs_NarrowingError_s ?bs_NarrowingError_r ?bs_NarrowingError_v ?no_InvalidNumber_position ?su_InvalidNumber_InvalidKind ?su_InvalidNumber_InvalidNumber ?ki_InvalidNumber_NarrowingError ?ki_InvalidNumber_ValueError ?a0 ?l0 ?c0 ?k0 ?a1 ?l1 ?c1 ?k1 ?a2 ?y2 ?l2 ?c2 ?k2 ?a3 ?l3 ?c3 ?k3 ?a4 ?l4 ?c4 ?k4 ?a5 ?l5 ?c5 ?k5 ?a6 ?l6 ?c6 ?k6 ?z_ValueError ?z_bool ?z_int ?z_isinstance ?z_len ?z_range ?z_str ?v_CHUNK ?v_DIGITS ?v_SCALE
    (case aC_NarrowingError => k_is); (case xL_NarrowingError => k_is); (case sa_NarrowingError => k_is); (case ga_NarrowingError => k_is); (case gg_NarrowingError => k_is); (case eC_NarrowingError => k_is); (case tC_NarrowingError => k_is); (case kC_NarrowingError => k_is)
    (case hC_NarrowingError => k_is); (case ca_NarrowingError => k_is); (case mo_NarrowingError => k_is); (case aC_InvalidNumber => k_is); (case xL_InvalidNumber => k_is); (case sa_InvalidNumber => k_is); (case ga_InvalidNumber => k_is); (case gg_InvalidNumber => k_is)
    (case eC_InvalidNumber => k_is); (case tC_InvalidNumber => k_is); (case kC_InvalidNumber => k_is); (case hC_InvalidNumber => k_is); (case ca_InvalidNumber => k_is); (case mo_InvalidNumber => k_is); (case aC_InvalidKind => k_is); (case xL_InvalidKind => k_is)
    (case sa_InvalidKind => k_is); (case ga_InvalidKind => k_is); (case gg_InvalidKind => k_is); (case eC_InvalidKind => k_is); (case tC_InvalidKind => k_is); (case kC_InvalidKind => k_is); (case hC_InvalidKind => k_is); (case ca_InvalidKind => k_is)
    (case mo_InvalidKind => k_is); (case cg => k_is); (case ct => k_is); (case bs_NarrowingError_s => k_is); (case bs_NarrowingError_r => k_is); (case bs_NarrowingError_v => k_is); (case no_InvalidNumber_position => k_is); (case su_InvalidNumber_InvalidKind => first | rfl | k_is)
    (case su_InvalidNumber_InvalidNumber => first | rfl | k_is); (case ki_InvalidNumber_NarrowingError => first | rfl | k_is); (case ki_InvalidNumber_ValueError => first | rfl | k_is); (case a0 => k_is); (case l0 => k_is); (case c0 => k_is); (case k0 => k_is); (case a1 => k_is)
    (case l1 => k_is); (case c1 => k_is); (case k1 => k_is); (case a2 => k_is); (case y2 => k_is); (case l2 => k_is); (case c2 => k_is); (case k2 => k_is)
    (case a3 => k_is); (case l3 => k_is); (case c3 => k_is); (case k3 => k_is); (case a4 => k_is); (case l4 => k_is); (case c4 => k_is); (case k4 => k_is)
    (case a5 => k_is); (case l5 => k_is); (case c5 => k_is); (case k5 => k_is); (case a6 => k_is); (case l6 => k_is); (case c6 => k_is); (case k6 => k_is)
    (case z_ValueError => k_is); (case z_bool => k_is); (case z_int => k_is); (case z_isinstance => k_is); (case z_len => k_is); (case z_range => k_is); (case z_str => k_is); (case v_CHUNK => k_is)
    (case v_DIGITS => k_is); (case v_SCALE => k_is)

