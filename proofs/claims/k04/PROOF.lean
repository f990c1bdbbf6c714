import PyProof.Rows.All
import Wide.All
import OpenK.AllK
import Wide.FinOn
import HandS.ForMost
import HandS.ForExc
import HandS.IsInst
import HandS.Style
import HandS.StrMore
import HandS.WideBits
import HandS.Flow
import HandS.Steps
import HandS.ExcInit
import HandS.ExcField
import HandS.ExcIs
import HandS.TryMany
import HandS.OwnEq
import HandS.ClsMeth
import HandS.Property
import HandS.Defaults
import HandS.Conv
import HandS.Comp
import HandS.Dict
import HandS.Walk
import HandS.CallSlots
import HandS.SlotsOwn
import KE.GoesEnum
import KE.GoesMore
import HandS.TupAny
import HandS.Small
import HandS.StrSplit
import HandS.More
import HandS.Text
import HandS.CallLocal
import PySem.Challenge.RW_narrowing_k04_kind_texts
set_option Elab.async false
set_option linter.all false
set_option maxRecDepth 100000
set_option maxHeartbeats 4000000
namespace Nv
open PySem PySem.Spec PyProof.Rows L2
/-- where the classes stand, by their names -/
abbrev Kap := String → Addr
/-! ### stepping lemmas over the readings -/
section
variable {D : Ends} {σ : L2.St} {H : Hp} {Q : VK} {K : PySem.W.Frag}
theorem x_seq {t1 t2 : TS} (h : t1 { D with nx := t2 D } σ H) : tSeq t1 t2 D σ H := h
theorem x_asg {te : TE} {g : TG} (h : te σ H fun x H1 => g x σ H1 D.nx) : tAsg te g D σ H := h
theorem x_name {i : Nat} {v : V} {Q : L2.St → Hp → Prop} (h : Q (σ.set i (some v)) H) : gName i v σ H Q := h
theorem x_var {i : Nat} {v : V} (e : σ[i]? = some (some v)) (h : Q v H) : tVar i σ H Q := ⟨v, e, h⟩
theorem x_c {v : V} (h : Q v H) : tC v σ H Q := h
theorem x_op {r : R2} {ta tb : TE} (h : ta σ H fun x H1 => tb σ H1 fun y H2 => r x y H2 Q) : tOp r ta tb σ H Q := h
theorem x_un {r : V → Hp → VK → Prop} {ta : TE} (h : ta σ H fun x H1 => r x H1 Q) : tUn r ta σ H Q := h
theorem x_drop {te : TE} (h : te σ H fun _ H1 => D.nx σ H1) : tDrop te D σ H := h
theorem x_ret {te : TE} (h : te σ H D.rt) : tRet te D σ H := h
theorem x_retN (h : D.rt .non H) : tRetN D σ H := h
theorem x_next (h : D.nx σ H) : tNext D σ H := h
theorem x_ifS {c : TT} {t u : TS} (h : c σ H fun b H1 => if b = true then t D σ H1 else u D σ H1) : tIfS c t u D σ H := h
theorem x_if {c : TT} {ta tb : TE} (h : c σ H fun b H1 => if b = true then ta σ H1 Q else tb σ H1 Q) : tIf c ta tb σ H Q := h
theorem x_test {t : TE} {R : Bool → Hp → Prop} (h : t σ H fun x H' => ∃ k, x = .bl k ∧ R k H') : tTest t σ H R := h
theorem x_blk {k : Bool} {R : Bool → Prop} (h : R k) : ∃ k', V.bl k = .bl k' ∧ R k' := ⟨k, rfl, h⟩
theorem x_and {t u : TT} {R : Bool → Hp → Prop} (h : t σ H fun c H1 => if c = true then u σ H1 R else R false H1) : tAnd t u σ H R := h
theorem x_or {t u : TT} {R : Bool → Hp → Prop} (h : t σ H fun c H1 => if c = true then R true H1 else u σ H1 R) : tOr t u σ H R := h
theorem x_not {t : TT} {R : Bool → Hp → Prop} (h : t σ H fun c H1 => R (!c) H1) : tNot t σ H R := h
theorem x_nil {R : List V → Hp → Prop} (h : R [] H) : tNil σ H R := h
theorem x_cons {ta : TE} {tr : TA} {R : List V → Hp → Prop} (h : ta σ H fun x H1 => tr σ H1 fun xs H2 => R (x :: xs) H2) : tCons ta tr σ H R := h
theorem x_cb {r : List V → Hp → VK → Prop} {t : TA} (h : t σ H fun vs H1 => r vs H1 Q) : tCB r t σ H Q := h
theorem x_call {sp : Sp} {E : L2.St → XK} {t : TA} (h : t σ H fun vs H1 => sp vs H1 Q (E σ)) : tCallS sp E t σ H Q := h
theorem x_lst {t : TA} (h : t σ H fun xs H1 => xs.length ≤ sizeLine ∧ ∀ p, H1 p = none → Q (.ref p) (upd H1 p (.lst xs))) : tLst t σ H Q := h
theorem x_tup {t : TA} (h : t σ H fun xs H1 => xs.length ≤ sizeLine ∧ ∀ p, H1 p = none → Q (.ref p) (upd H1 p (.tup xs))) : tTup t σ H Q := h
theorem x_sub {to ti : TE} {t : TSet} {v : V} {R : L2.St → Hp → Prop} (h : to σ H fun o H1 => ti σ H1 fun i H2 => t o i v H2 fun H3 => R σ H3) : gSub to ti t v σ H R := h
theorem x_bm {T : String} {r : V → List V → Hp → VK → Prop} {to : TE} {t : TA} (h : to σ H fun x H1 => tyV K T x H1 ∧ t σ H1 fun xs H2 => r x xs H2 Q) : tBM K T r to t σ H Q := h
theorem x_bm0 {T : String} {r : V → List V → Hp → VK → Prop} {to : TE} (h : to σ H fun x H1 => tyV K T x H1 ∧ r x [] H1 Q) : tBM0 K T r to σ H Q := h
theorem x_sl {r : V → Option Int → Option Int → Hp → VK → Prop} {te : TE} {tl th : TO} (h : te σ H fun x H1 => tl σ H1 fun l H2 => th σ H2 fun u H3 => r x l u H3 Q) : tSl r te tl th σ H Q := h
theorem x_noPart {R : Option Int → Hp → Prop} (h : R none H) : tNoPart σ H R := h
theorem x_part {t : TE} {R : Option Int → Hp → Prop} (h : t σ H fun x H1 => ∃ i, x = .int i ∧ R (some i) H1) : tPart t σ H R := h
theorem x_intk {k : Int} {R : Int → Prop} (h : R k) : ∃ k', V.int k = .int k' ∧ R k' := ⟨k, rfl, h⟩
end
/-! ### operators by values -/
section
variable {X : Cx} {K : PySem.W.Frag} {H : Hp} {Q : VK}
def rAddU (K : PySem.W.Frag) : R2 := fun x y H Q => match x, y with
  | .int i, .int j => Q (.int (i + j)) H
  | .str a, .str b => a.length + b.length ≤ sizeLine ∧ Q (.str (a ++ b)) H
  | .ref l, .ref b => rCat (.ref l) (.ref b) H Q
  | _, _ => False
theorem op_addU : OpR X (binaryOp .Add) (rAddU X.K) := by
  intro pins s σ H x y v u Q I rx ry h
  cases x <;> cases y <;> first | exact h.elim | exact op_add pins s σ H _ _ v u Q I rx ry ⟨_, _, rfl, rfl, h⟩ | exact op_add_str pins s σ H _ _ v u Q I rx ry ⟨_, _, rfl, rfl, h⟩ | exact op_cat pins s σ H _ _ v u Q I rx ry h
def rSubU : R2 := fun x y H Q => match x, y with
  | .int i, .int j => Q (.int (i - j)) H
  | _, _ => False
theorem op_subU : OpR X (binaryOp .Sub) rSubU := by
  intro pins s σ H x y v u Q I rx ry h
  cases x <;> cases y <;> first | exact h.elim | exact op_sub pins s σ H _ _ v u Q I rx ry ⟨_, _, rfl, rfl, h⟩
/-- a text, n times -/
def repS (a : Str) (n : Nat) : Str := ⟨(List.replicate n a.cps.toList).flatten.toArray⟩
theorem fold_rep (l : List (Array Nat)) : ∀ acc : Array Nat, l.foldl (· ++ ·) acc = acc ++ (l.map Array.toList).flatten.toArray := by
  induction l with
  | nil => intro acc; simp
  | cons a r ih =>
    intro acc
    rw [List.foldl_cons, ih, List.map_cons, List.flatten_cons]
    apply Array.toList_inj.mp
    simp
theorem rep_fold (a : Str) (n : Nat) : (⟨(List.replicate n a.cps).foldl (· ++ ·) #[]⟩ : Str) = repS a n := by
  unfold repS
  rw [fold_rep, List.map_replicate]
  simp
theorem op_mulS : OpR X (binaryOp .Mult) (fun x y H Q => ∃ (a : Str) (n : Int), x = .str a ∧ y = .int n ∧ 0 ≤ n ∧ n ≤ 16777216 ∧ a.length * n.toNat ≤ 16777216 ∧ Q (.str (repS a n.toNat)) H) := by
  intro pins s σ H x y v u Q I rx ry h
  obtain ⟨a, n, rfl, rfl, h0, h1, h2, q⟩ := h
  obtain ⟨t, rfl⟩ := rx
  obtain ⟨t', rfl⟩ := ry
  refine PySem.P.mul_str ?_ (fun c1 c2 => ?_) (fun c1 c2 => ?_) ?_
  · rw [decide_eq_false (by omega), decide_eq_false (by omega)]; rfl
  · have hn : 1 ≤ n := by omega
    have : (a.length : Int) ≤ (a.length : Int) * n := by
      have := Int.mul_le_mul_of_nonneg_left hn (Int.natCast_nonneg a.length)
      omega
    have e2 : ((a.length * n.toNat : Nat) : Int) = (a.length : Int) * n := by
      rw [Int.natCast_mul, Int.toNat_of_nonneg h0]
    have up : (a.length : Int) ≤ 16777216 := by omega
    have lo : (16777216 : Int) ≤ (2 ^ 63 - 1) / n := by
      refine (Int.le_ediv_iff_mul_le (by omega)).mpr ?_
      omega
    omega
  · unfold Builtin.Str.tooLong
    rw [sizeLine_eq]
    exact decide_eq_false (by omega)
  · by_cases c1 : n < 1
    · rw [if_pos c1]
      have e0 : n.toNat = 0 := by omega
      rw [e0] at q
      exact ⟨by decide, ⟨.str _, H, I.tok _, ⟨_, rfl⟩, q⟩⟩
    · rw [if_neg c1]
      by_cases c2 : (n == 1 || a.length == 0) = true
      · rw [if_pos c2]
        have e : repS a n.toNat = a := by
          unfold repS
          rcases Bool.or_eq_true_iff.mp c2 with z | z
          · have : n = 1 := by simpa using z
            subst this
            simp
          · have : a.length = 0 := by simpa using z
            have e0 : a.cps.toList = [] := List.length_eq_zero_iff.mp (by rw [Array.length_toList]; exact this)
            rw [e0]
            have e1 : (List.replicate n.toNat ([] : List Nat)).flatten = [] := by
              induction n.toNat with
              | zero => rfl
              | succ k ih => rw [List.replicate_succ, List.flatten_cons, ih]; rfl
            rw [e1]
            obtain ⟨⟨l⟩⟩ := a
            have : l = [] := e0
            rw [this]
        rw [e] at q
        exact ⟨.str a, H, I, ⟨t, rfl⟩, q⟩
      · rw [if_neg c2, rep_fold]
        refine ⟨?_, ⟨.str _, H, I.tok _, ⟨_, rfl⟩, q⟩⟩
        show (repS a n.toNat).length ≤ sizeLine
        rw [sizeLine_eq]
        unfold repS Str.length
        have : (List.replicate n.toNat a.cps.toList).flatten.toArray.size = a.length * n.toNat := by
          rw [List.size_toArray, List.length_flatten, List.map_replicate, List.sum_replicate_nat, Array.length_toList]
          show n.toNat * a.cps.size = a.cps.size * n.toNat
          exact Nat.mul_comm _ _
        show (List.replicate n.toNat a.cps.toList).flatten.toArray.size ≤ _
        omega
def rMulU : R2 := fun x y H Q => match x, y with
  | .int i, .int j => CMul i j ∧ Q (.int (i * j)) H
  | .str a, .int n => 0 ≤ n ∧ n ≤ 16777216 ∧ a.length * n.toNat ≤ 16777216 ∧ Q (.str (repS a n.toNat)) H
  | _, _ => False
theorem op_mulU : OpR X (binaryOp .Mult) rMulU := by
  intro pins s σ H x y v u Q I rx ry h
  cases x <;> cases y <;> first | exact h.elim | exact op_mul pins s σ H _ _ v u Q I rx ry ⟨_, _, rfl, rfl, h.1, h.2⟩ | exact op_mulS pins s σ H _ _ v u Q I rx ry ⟨_, _, rfl, rfl, h.1, h.2.1, h.2.2.1, h.2.2.2⟩
theorem x_mulS {a : Str} {n : Int} (h0 : 0 ≤ n) (h1 : n ≤ 16777216) (h2 : a.length * n.toNat ≤ 16777216) (h : Q (.str (repS a n.toNat)) H) : rMulU (.str a) (.int n) H Q := ⟨h0, h1, h2, h⟩
def rModU : R2 := fun x y H Q => match x, y with
  | .int i, .int j => 0 < j ∧ Q (.int (i % j)) H
  | _, _ => False
theorem op_modU : OpR X (binaryOp .Mod) rModU := by
  intro pins s σ H x y v u Q I rx ry h
  cases x <;> cases y <;> first | exact h.elim | exact op_mod pins s σ H _ _ v u Q I rx ry ⟨_, _, rfl, rfl, h.1, h.2⟩
def rFdivU : R2 := fun x y H Q => match x, y with
  | .int i, .int j => CDiv i j ∧ Q (.int (i / j)) H
  | _, _ => False
theorem op_fdivU : OpR X (binaryOp .FloorDiv) rFdivU := by
  intro pins s σ H x y v u Q I rx ry h
  cases x <;> cases y <;> first | exact h.elim | exact op_fdiv pins s σ H _ _ v u Q I rx ry ⟨_, _, rfl, rfl, h.1, h.2⟩
def rPowU : R2 := fun x y H Q => match x, y with
  | .int i, .int j => CPow i j ∧ Q (.int (i ^ j.toNat)) H
  | _, _ => False
theorem op_powU : OpR X (binaryOp .Pow) rPowU := by
  intro pins s σ H x y v u Q I rx ry h
  cases x <;> cases y <;> first | exact h.elim | exact op_pow pins s σ H _ _ v u Q I rx ry ⟨_, _, rfl, rfl, h.1, h.2⟩
def rLtU : R2 := fun x y H Q => match x, y with
  | .int i, .int j => Q (.bl (decide (i < j))) H
  | .str a, .str b => Q (.bl (decide (a.cps.toList < b.cps.toList))) H
  | _, _ => False
theorem op_ltU : OpR X (compareOp .Lt) rLtU := by
  intro pins s σ H x y v u Q I rx ry h
  cases x <;> cases y <;> first | exact h.elim | exact op_lt pins s σ H _ _ v u Q I rx ry ⟨_, _, rfl, rfl, h⟩ | exact op_lt_str pins s σ H _ _ v u Q I rx ry ⟨_, _, rfl, rfl, h⟩
def rLeU : R2 := fun x y H Q => match x, y with
  | .int i, .int j => Q (.bl (decide (i ≤ j))) H
  | .str a, .str b => Q (.bl (!decide (b.cps.toList < a.cps.toList))) H
  | _, _ => False
theorem op_leU : OpR X (compareOp .LtE) rLeU := by
  intro pins s σ H x y v u Q I rx ry h
  cases x <;> cases y <;> first | exact h.elim | exact op_le pins s σ H _ _ v u Q I rx ry ⟨_, _, rfl, rfl, h⟩ | exact op_le_str pins s σ H _ _ v u Q I rx ry ⟨_, _, rfl, rfl, h⟩
def rGtU : R2 := fun x y H Q => match x, y with
  | .int i, .int j => Q (.bl (decide (j < i))) H
  | _, _ => False
theorem op_gtU : OpR X (compareOp .Gt) rGtU := by
  intro pins s σ H x y v u Q I rx ry h
  cases x <;> cases y <;> first | exact h.elim | exact op_gt pins s σ H _ _ v u Q I rx ry ⟨_, _, rfl, rfl, h⟩
def rGeU : R2 := fun x y H Q => match x, y with
  | .int i, .int j => Q (.bl (decide (j ≤ i))) H
  | _, _ => False
theorem op_geU : OpR X (compareOp .GtE) rGeU := by
  intro pins s σ H x y v u Q I rx ry h
  cases x <;> cases y <;> first | exact h.elim | exact op_ge pins s σ H _ _ v u Q I rx ry ⟨_, _, rfl, rfl, h⟩
theorem x_addI {i j : Int} (h : Q (.int (i + j)) H) : rAddU K (.int i) (.int j) H Q := h
theorem x_addS {a b : Str} (l : a.length + b.length ≤ sizeLine) (h : Q (.str (a ++ b)) H) : rAddU K (.str a) (.str b) H Q := ⟨l, h⟩
theorem x_subI {i j : Int} (h : Q (.int (i - j)) H) : rSubU (.int i) (.int j) H Q := h
theorem x_mulI {i j : Int} (l : CMul i j) (h : Q (.int (i * j)) H) : rMulU (.int i) (.int j) H Q := ⟨l, h⟩
theorem x_mulR {i j : Int} (l : -18446744073709551616 < j) (l2 : j < 18446744073709551616) (h : Q (.int (i * j)) H) : rMulU (.int i) (.int j) H Q := ⟨.inr ⟨l, l2⟩, h⟩
theorem x_mulL {i j : Int} (l : -18446744073709551616 < i) (l2 : i < 18446744073709551616) (h : Q (.int (i * j)) H) : rMulU (.int i) (.int j) H Q := ⟨.inl ⟨l, l2⟩, h⟩
theorem x_modI {i j : Int} (l : 0 < j) (h : Q (.int (i % j)) H) : rModU (.int i) (.int j) H Q := ⟨l, h⟩
theorem x_fdivI {i j : Int} (l : 0 < j) (l2 : j < 1073741824) (h : Q (.int (i / j)) H) : rFdivU (.int i) (.int j) H Q := ⟨⟨l, l2⟩, h⟩
theorem x_powI {i j : Int} (l : CPow i j) (h : Q (.int (i ^ j.toNat)) H) : rPowU (.int i) (.int j) H Q := ⟨l, h⟩
theorem x_ltI {i j : Int} (h : Q (.bl (decide (i < j))) H) : rLtU (.int i) (.int j) H Q := h
theorem x_leI {i j : Int} (h : Q (.bl (decide (i ≤ j))) H) : rLeU (.int i) (.int j) H Q := h
theorem x_gtI {i j : Int} (h : Q (.bl (decide (j < i))) H) : rGtU (.int i) (.int j) H Q := h
theorem x_geI {i j : Int} (h : Q (.bl (decide (j ≤ i))) H) : rGeU (.int i) (.int j) H Q := h
theorem x_eq {x y : V} (l : scal x y = true) (h : Q (.bl (decide (x = y))) H) : rEq x y H Q := ⟨l, h⟩
theorem x_ne {x y : V} (l : scal x y = true) (h : Q (.bl (!decide (x = y))) H) : rNe x y H Q := ⟨l, h⟩
theorem x_ixL {p : Addr} {xs : List V} {i : Int} {v : V} (h : SqL K H p xs) (a : atI xs i = some v) (q : Q v H) : rIx K (.ref p) (.int i) H Q := .inl ⟨p, xs, i, v, rfl, rfl, h, a, q⟩
theorem x_ixT {p : Addr} {xs : List V} {i : Int} {v : V} (h : SqT K H p xs) (a : atI xs i = some v) (q : Q v H) : rIx K (.ref p) (.int i) H Q := .inr (.inl ⟨p, xs, i, v, rfl, rfl, h, a, q⟩)
theorem x_ixS {z : Str} {i : Int} {c : Nat} (h : z.length ≤ sizeLine) (a : atI z.cps.toList i = some c) (q : Q (.str ⟨#[c]⟩) H) : rIx K (.str z) (.int i) H Q := .inr (.inr ⟨z, i, c, rfl, rfl, h, a, q⟩)
theorem x_setL {p : Addr} {xs : List V} {i : Int} {j : Nat} {v : V} {Q : Hp → Prop} (h : H p = some (.lst xs)) (a : ixN xs.length i = some j) (q : Q (upd H p (.lst (xs.set j v)))) : rSetL (.ref p) (.int i) v H Q := ⟨p, xs, i, j, rfl, rfl, h, a, q⟩
theorem x_set4_1 {p : Addr} {a b c d v : V} {Q : Hp → Prop} (h : H p = some (.lst [a, b, c, d])) (q : Q (upd H p (.lst [a, v, c, d]))) : rSetL (.ref p) (.int 1) v H Q := ⟨p, _, 1, 1, rfl, rfl, h, rfl, q⟩
theorem x_set4_2 {p : Addr} {a b c d v : V} {Q : Hp → Prop} (h : H p = some (.lst [a, b, c, d])) (q : Q (upd H p (.lst [a, b, v, d]))) : rSetL (.ref p) (.int 2) v H Q := ⟨p, _, 2, 2, rfl, rfl, h, rfl, q⟩
theorem x_set4_3 {p : Addr} {a b c d v : V} {Q : Hp → Prop} (h : H p = some (.lst [a, b, c, d])) (q : Q (upd H p (.lst [a, b, c, v]))) : rSetL (.ref p) (.int 3) v H Q := ⟨p, _, 3, 3, rfl, rfl, h, rfl, q⟩
/-! len, int of an int, by values -/
def rLenU (K : PySem.W.Frag) : List V → Hp → VK → Prop := fun xs H Q => match xs with
  | [.str z] => z.length ≤ sizeLine ∧ Q (.int z.length) H
  | [.ref p] => (∃ ys, (SqL K H p ys ∨ SqT K H p ys) ∧ Q (.int ys.length) H)
  | _ => False
theorem call_lenU : CallR X (.builtin "len") (rLenU X.K) := by
  intro pins s σ H xs us Q I r h
  match xs, h with
  | [.str z], h => exact call_len_str pins s σ H _ us Q I r ⟨z, rfl, h.1, h.2⟩
  | [.ref p], h =>
    obtain ⟨ys, h1, h2⟩ := h
    exact call_len_seq pins s σ H _ us Q I r ⟨p, ys, rfl, h1, h2⟩
def rIntU : List V → Hp → VK → Prop := fun xs H Q => match xs with
  | [.int i] => Q (.int i) H
  | [.bl b] => Q (.int (if b then 1 else 0)) H
  | [.str a] => ∃ n, PySem.intText? a = some n ∧ a.length ≤ 640 ∧ Q (.int n) H
  | _ => False
theorem call_intU : CallR X (.type "int") rIntU := by
  intro pins s σ H xs us Q I r h
  match xs, h with
  | [.int i], h => exact call_int1 pins s σ H _ us Q I r (.inl ⟨i, rfl, h⟩)
  | [.bl b], h => exact call_int1 pins s σ H _ us Q I r (.inr ⟨b, rfl, h⟩)
  | [.str a], h =>
    obtain ⟨n, h1, h2, h3⟩ := h
    exact call_int_str pins s σ H _ us Q I r ⟨a, n, rfl, h1, h2, h3⟩
def rStrU : List V → Hp → VK → Prop := fun xs H Q => match xs with
  | [.int i] => i.natAbs.log2 < 1920 ∧ Q (.str (toString i)) H
  | _ => False
theorem call_strU : CallR X (.type "str") rStrU := by
  intro pins s σ H xs us Q I r h
  match xs, h with
  | [.int i], h => exact call_str_int pins s σ H _ us Q I r ⟨i, rfl, h.1, h.2⟩
theorem x_lenS {z : Str} (l : z.length ≤ sizeLine) (h : Q (.int z.length) H) : rLenU K [.str z] H Q := ⟨l, h⟩
theorem x_lenL {p : Addr} {ys : List V} (l : SqL K H p ys) (h : Q (.int ys.length) H) : rLenU K [.ref p] H Q := ⟨ys, .inl l, h⟩
theorem x_lenT {p : Addr} {ys : List V} (l : SqT K H p ys) (h : Q (.int ys.length) H) : rLenU K [.ref p] H Q := ⟨ys, .inr l, h⟩
theorem x_intI {i : Int} (h : Q (.int i) H) : rIntU [.int i] H Q := h
end

section
variable {X : Cx} {K : PySem.W.Frag} {H : Hp} {Q : VK} {σ : L2.St} {D : Ends}
def rAbsU : List V → Hp → VK → Prop := fun xs H Q => match xs with
  | [.int i] => Q (.int (if i < 0 then -i else i)) H
  | _ => False
theorem call_absU : CallR X (.builtin "abs") rAbsU := by
  intro pins s σ H xs us Q I r h
  match xs, h with
  | [.int i], h => exact call_abs pins s σ H _ us Q I r ⟨i, rfl, h⟩
theorem x_abs {i : Int} (h : Q (.int (if i < 0 then -i else i)) H) : rAbsU [.int i] H Q := h
def rDivmodW : List V → Hp → VK → Prop := fun xs H Q => match xs with
  | [.int i, .int j] => CDivP i j ∧ ∀ p, H p = none → Q (.ref p) (upd H p (.tup [.int (i / j), .int (i % j)]))
  | _ => False
theorem call_divmodU : CallR X (.builtin "divmod") rDivmodW := by
  intro pins s σ H xs us Q I r h
  match xs, h with
  | [.int i, .int j], h => exact call_divmodW pins s σ H _ us Q I r ⟨i, j, rfl, h.1, h.2⟩
/-! truth of a value, as a test -/
def truU (K : PySem.W.Frag) (x : V) (H : Hp) (R : Bool → Hp → Prop) : Prop := match x with
  | .bl b => R b H
  | .non => R false H
  | .int i => R (i != 0) H
  | .str z => z.length ≤ sizeLine ∧ R ((z.length : Int) != 0) H
  | .ref p => ∃ k, TruV K (.ref p) H k ∧ R k H
  | _ => False
def tTruU (K : PySem.W.Frag) (te : TE) : TT := fun σ H R => te σ H fun x H1 => truU K x H1 R
theorem PT.weak {e : Expr} {t t' : TT} (h : PT X e t) (w : ∀ σ H R, t' σ H R → t σ H R) : PT X e t' := ⟨fun pins s σ H R I q => h.run pins s σ H R I (w σ H R q)⟩
theorem PE.weak {e : Expr} {t t' : TE} (h : PE X e t) (w : ∀ σ H R, t' σ H R → t σ H R) : PE X e t' := ⟨fun pins s σ H R I q => h.run pins s σ H R I (w σ H R q)⟩
theorem PE.mono {e : Expr} {t : TE} (h : PE X e t) {t' : TE} (w : ∀ σ H Q, t' σ H Q → t σ H Q) : PE X e t' := PE.weak h w
/-- the value under another wish: pt_truth's reading, by cases -/
theorem pt_truU {a : Expr} {ta : TE} (ha : PE X a ta) (he : ∀ whole, isTrue a X.env whole = (do let v ← whole; standAt a.pos; holding [v] (truthy v))) : PT X a (tTruU X.K ta) := by
  refine ⟨fun pins s σ H R I q => ?_⟩
  refine isTrue_plain (thn (ha.run pins s σ H _ I q) fun v s1 ⟨x, H1, I1, r1, q1⟩ => ?_) (he _)
  have key : ∀ k, TruV X.K x H1 k → R k H1 → wpAny (model X.prog X.w) X.A (truthy v) (TP X pins σ R) X.xe s1 := fun k hk hR => tru_ok pins s1 σ H1 x v R I1 r1 ⟨k, hk, hR⟩
  cases x with
  | non => exact key false rfl q1
  | bl b => exact key b rfl q1
  | int i => exact key _ rfl q1
  | str z => exact key _ ⟨q1.1, rfl⟩ q1.2
  | ref p => obtain ⟨k, h1, h2⟩ := q1; exact key k h1 h2
  | byt _ => exact q1.elim
  | flt _ => exact q1.elim
  | ty _ => exact q1.elim
theorem x_tru {te : TE} {R : Bool → Hp → Prop} (h : te σ H fun x H1 => truU K x H1 R) : tTruU K te σ H R := h
theorem x_truB {b : Bool} {R : Bool → Hp → Prop} (h : R b H) : truU K (.bl b) H R := h
theorem x_truN {R : Bool → Hp → Prop} (h : R false H) : truU K .non H R := h
theorem x_truI {i : Int} {R : Bool → Hp → Prop} (h : R (decide (i ≠ 0)) H) : truU K (.int i) H R := by
  show R (i != 0) H
  have e : (i != 0) = decide (i ≠ 0) := by
    by_cases q : i = 0
    · subst q; rfl
    · rw [decide_eq_true q]; exact bne_iff_ne.mpr q
  rw [e]; exact h
theorem x_truS {z : Str} {R : Bool → Hp → Prop} (l : z.length ≤ sizeLine) (h : R ((z.length : Int) != 0) H) : truU K (.str z) H R := ⟨l, h⟩
/-! tests decided -/
theorem x_dec {c : Prop} [Decidable c] {A B : Prop} (h1 : c → A) (h2 : ¬ c → B) : if decide c = true then A else B := by
  by_cases h : c
  · rw [decide_eq_true h, if_pos rfl]; exact h1 h
  · rw [decide_eq_false h, if_neg Bool.false_ne_true]; exact h2 h
theorem x_decT {c : Prop} [Decidable c] {A B : Prop} (h : c) (h1 : A) : if decide c = true then A else B := by
  rw [decide_eq_true h, if_pos rfl]; exact h1
theorem x_decF {c : Prop} [Decidable c] {A B : Prop} (h : ¬ c) (h1 : B) : if decide c = true then A else B := by
  rw [decide_eq_false h, if_neg Bool.false_ne_true]; exact h1
theorem x_decNT {c : Prop} [Decidable c] {A B : Prop} (h : ¬ c) (h1 : A) : if (!decide c) = true then A else B := by
  rw [decide_eq_false h]; exact h1
theorem x_decNF {c : Prop} [Decidable c] {A B : Prop} (h : c) (h1 : B) : if (!decide c) = true then A else B := by
  rw [decide_eq_true h]; exact h1
theorem x_decN {c : Prop} [Decidable c] {A B : Prop} (h1 : ¬ c → A) (h2 : c → B) : if (!decide c) = true then A else B := by
  by_cases h : c
  · exact x_decNF h (h2 h)
  · exact x_decNT h (h1 h)
theorem x_true {A B : Prop} (h : A) : if true = true then A else B := by rw [if_pos rfl]; exact h
theorem x_false {A B : Prop} (h : B) : if false = true then A else B := by rw [if_neg Bool.false_ne_true]; exact h
theorem x_ntrue {A B : Prop} (h : B) : if (!true) = true then A else B := h
theorem x_nfalse {A B : Prop} (h : A) : if (!false) = true then A else B := h
theorem x_bool {b : Bool} {A B : Prop} (h1 : b = true → A) (h2 : b = false → B) : if b = true then A else B := by
  cases b
  · exact x_false (h2 rfl)
  · exact x_true (h1 rfl)
theorem x_eqI {i j : Int} (h : Q (.bl (decide (i = j))) H) : rEq (.int i) (.int j) H Q := by
  refine ⟨rfl, ?_⟩
  have e : decide (V.int i = V.int j) = decide (i = j) := by
    by_cases q : i = j
    · subst q; rw [decide_eq_true rfl, decide_eq_true rfl]
    · rw [decide_eq_false q, decide_eq_false fun z => q (V.int.inj z)]
  rw [e]; exact h
theorem x_neI {i j : Int} (h : Q (.bl (!decide (i = j))) H) : rNe (.int i) (.int j) H Q := by
  refine ⟨rfl, ?_⟩
  have e : decide (V.int i = V.int j) = decide (i = j) := by
    by_cases q : i = j
    · subst q; rw [decide_eq_true rfl, decide_eq_true rfl]
    · rw [decide_eq_false q, decide_eq_false fun z => q (V.int.inj z)]
  rw [e]; exact h
theorem dec_strP {i j : Str} : decide (V.str i = V.str j) = decide (i = j) := by
  by_cases q : i = j
  · subst q; rw [decide_eq_true rfl, decide_eq_true rfl]
  · rw [decide_eq_false q, decide_eq_false fun z => q (V.str.inj z)]
theorem x_eqS {i j : Str} (h : Q (.bl (decide (i = j))) H) : rEq (.str i) (.str j) H Q := ⟨rfl, by rw [dec_strP]; exact h⟩
theorem x_neS {i j : Str} (h : Q (.bl (!decide (i = j))) H) : rNe (.str i) (.str j) H Q := ⟨rfl, by rw [dec_strP]; exact h⟩
theorem x_powL {i j k : Int} (l0 : 0 ≤ j) (l1 : j ≤ 1000000) (l2 : i.natAbs < 18446744073709551616) (e : i ^ j.toNat = k) (h : Q (.int k) H) : rPowU (.int i) (.int j) H Q := ⟨⟨l0, l1, l2⟩, by rw [e]; exact h⟩
theorem cmul_r {i j : Int} (h : -(2 ^ 64) < j ∧ j < 2 ^ 64) : CMul i j := .inr h
theorem cmul_l {i j : Int} (h : -(2 ^ 64) < i ∧ i < 2 ^ 64) : CMul i j := .inl h
/-! isinstance against a built-in type -/
def rIsiU (K : PySem.W.Frag) : List V → Hp → VK → Prop := rIsi K
theorem call_isiU : CallR X (.builtin "isinstance") (rIsiU X.K) := call_isi
theorem x_isi {x : V} {n m : String} {b : Bool} (t : TyX K H x (.type m)) (k : kitB m n = some b) (h : Q (.bl b) H) : rIsiU K [x, .ty n] H Q := ⟨x, .ty n, .type m, .type n, b, rfl, .ty n, t, kit_ty k, h⟩
/-! slices of texts and lists -/
def rSlU (K : PySem.W.Frag) : V → Option Int → Option Int → Hp → VK → Prop := fun x lo hi H Q => match x with
  | .str z => z.length ≤ sizeLine ∧ Q (.str (cutS z lo hi)) H
  | .ref a => rSlL K (.ref a) lo hi H Q
  | _ => False
theorem SlR.weak {r r' : V → Option Int → Option Int → Hp → VK → Prop} (h : SlR X r) (w : ∀ x lo hi H Q, r' x lo hi H Q → r x lo hi H Q) : SlR X r' := by
  intro pins s σ H x v vl vu lo hi sl Q I rx hs pl pu q
  exact h pins s σ H x v vl vu lo hi sl Q I rx hs pl pu (w _ _ _ _ _ q)
theorem sl_U : SlR X (rSlU X.K) := SlR.weak (SlR.or sl_str sl_list) fun x lo hi H Q h => by
  cases x with
  | str z => exact .inl ⟨z, rfl, h.1, h.2⟩
  | ref a => exact .inr h
  | _ => exact h.elim
theorem x_slS {z : Str} {lo hi : Option Int} (l : z.length ≤ sizeLine) (h : Q (.str (cutS z lo hi)) H) : rSlU K (.str z) lo hi H Q := ⟨l, h⟩
theorem x_slL {a : Addr} {xs : List V} {lo hi : Option Int} (l : SqL K H a xs) (h : ∀ p, H p = none → Q (.ref p) (upd H p (.lst (cutV xs lo hi)))) : rSlU K (.ref a) lo hi H Q := ⟨a, xs, rfl, l, h⟩
/-! in, not in -/
def rInG (K : PySem.W.Frag) (neg : Bool) : R2 := fun x y H Q => match y with
  | .str z => ∃ c, x = .str ⟨#[c]⟩ ∧ Q (.bl (if neg then !decide (c ∈ z.cps.toList) else decide (c ∈ z.cps.toList))) H
  | .ref _ => rIn K neg x y H Q
  | _ => False
def rInU (K : PySem.W.Frag) : R2 := rInG K false
def rNotInU (K : PySem.W.Frag) : R2 := rInG K true
theorem op_inU : OpR X (compareOp .In) (rInU X.K) := by
  intro pins s σ H x y v u Q I rx ry h
  cases y with
  | str z => obtain ⟨c, rfl, h⟩ := h; exact op_in_sign pins s σ H _ _ v u Q I rx ry ⟨c, z, rfl, rfl, h⟩
  | ref a => exact op_in_seq pins s σ H _ _ v u Q I rx ry h
  | _ => exact h.elim
theorem op_notInU : OpR X (compareOp .NotIn) (rNotInU X.K) := by
  intro pins s σ H x y v u Q I rx ry h
  cases y with
  | str z => obtain ⟨c, rfl, h⟩ := h; exact op_notIn_sign pins s σ H _ _ v u Q I rx ry ⟨c, z, rfl, rfl, h⟩
  | ref a => exact op_notIn_seq pins s σ H _ _ v u Q I rx ry h
  | _ => exact h.elim
theorem x_inS {c : Nat} {z : Str} (h : Q (.bl (decide (c ∈ z.cps.toList))) H) : rInU K (.str ⟨#[c]⟩) (.str z) H Q := ⟨c, rfl, h⟩
theorem x_notInS {c : Nat} {z : Str} (h : Q (.bl (!decide (c ∈ z.cps.toList))) H) : rNotInU K (.str ⟨#[c]⟩) (.str z) H Q := ⟨c, rfl, h⟩
theorem x_inL {x : V} {p : Addr} {xs : List V} (l : SqL K H p xs) (fx : flatV x = true) (fs : xs.all flatV = true) (h : Q (.bl (inV x xs)) H) : rInU K x (.ref p) H Q := ⟨p, xs, rfl, .inl l, fx, fs, h⟩
theorem x_inT {x : V} {p : Addr} {xs : List V} (l : SqT K H p xs) (fx : flatV x = true) (fs : xs.all flatV = true) (h : Q (.bl (inV x xs)) H) : rInU K x (.ref p) H Q := ⟨p, xs, rfl, .inr l, fx, fs, h⟩
theorem x_notInL {x : V} {p : Addr} {xs : List V} (l : SqL K H p xs) (fx : flatV x = true) (fs : xs.all flatV = true) (h : Q (.bl (!inV x xs)) H) : rNotInU K x (.ref p) H Q := ⟨p, xs, rfl, .inl l, fx, fs, h⟩
theorem x_notInT {x : V} {p : Addr} {xs : List V} (l : SqT K H p xs) (fx : flatV x = true) (fs : xs.all flatV = true) (h : Q (.bl (!inV x xs)) H) : rNotInU K x (.ref p) H Q := ⟨p, xs, rfl, .inr l, fx, fs, h⟩
/-! methods of texts -/
def rZfillU : V → List V → Hp → VK → Prop := fun x xs H Q => match x, xs with
  | .str a, [.int i] => PadOk i = true ∧ Q (.str (Txt.zfill a i)) H
  | _, _ => False
theorem mt_zfillU : MtR X "str.zfill" rZfillU := by
  intro pins s σ H x xs v us Q I rx rs h
  match x, xs, h with
  | .str a, [.int i], h => exact mt_zfill pins s σ H _ _ v us Q I rx rs ⟨a, i, rfl, rfl, h.1, h.2⟩
def rJoinU (K : PySem.W.Frag) : V → List V → Hp → VK → Prop := fun x xs H Q => match x, xs with
  | .str a, [.ref p] => ∃ ys : List Str, (SqL K H p (ys.map V.str) ∨ SqT K H p (ys.map V.str)) ∧ (ys.map (·.length)).sum + ys.length * a.length ≤ 16777216 ∧ Q (.str (Txt.join a ys)) H
  | _, _ => False
theorem mt_joinU : MtR X "str.join" (rJoinU X.K) := by
  intro pins s σ H x xs v us Q I rx rs h
  match x, xs, h with
  | .str a, [.ref p], h =>
    obtain ⟨ys, h1, h2, h3⟩ := h
    exact mt_join pins s σ H _ _ v us Q I rx rs ⟨a, p, ys, rfl, rfl, h1, h2, h3⟩
theorem x_zfill {a : Str} {i : Int} (l : PadOk i = true) (h : Q (.str (Txt.zfill a i)) H) : rZfillU (.str a) [.int i] H Q := ⟨l, h⟩
theorem x_join {a : Str} {p : Addr} {ys : List Str} (l : SqL K H p (ys.map V.str)) (z : (ys.map (·.length)).sum + ys.length * a.length ≤ 16777216) (h : Q (.str (Txt.join a ys)) H) : rJoinU K (.str a) [.ref p] H Q := ⟨ys, .inl l, z, h⟩
theorem x_append {p : Addr} {xs : List V} {y : V} (l : H p = some (.lst xs)) (z : xs.length < sizeLine) (h : Q .non (upd H p (.lst (xs ++ [y])))) : rAppend (.ref p) [y] H Q := ⟨p, xs, y, rfl, rfl, l, z, h⟩
/-! a def of the text that is called -/
structure Cal (P : Program) (w : World) (K : PySem.W.Frag) (mg : Str → Option Value) (base : Heap) (k : Nat) (x : Str) (ps : List Str) (sp : Sp) : Prop where
  ex : ∃ (f : Addr) (fd : FuncData), FnOk P w K mg base (L2.CX P w) k f fd ps sp ∧ mg x = some (.ref f) ∧ PySem.W.keepIn K (.ref f) = true ∧ Binds K fd ps []
theorem Cal.mono {P : Program} {w : World} {mg : Str → Option Value} {base : Heap} {j k : Nat} {x : Str} {ps : List Str} {sp : Sp} (c : Cal P w K mg base j x ps sp) (h : j ≤ k) : Cal P w K mg base k x ps sp := by
  obtain ⟨f, fd, a, b⟩ := c.ex
  exact ⟨f, fd, a.mono h, b⟩
section
variable {k : Nat} {x : Str} {ps : List Str} {sp : Sp} {W : WX} {p pos : Pos} {e : Expr} {es : List Expr} {t : TA}
theorem pe_cal (C : Cal X.prog X.w X.K X.mg X.base k x ps sp) (hr : Room k X.A) (tk : Takes X W) (hg : Gl X x) (ha : PA X (e :: es) t)
    (hdb : (x == ("__debug__" : Str)) = false := by decide) (he : starEach (e :: es) X.env = (false, eval e X.env) :: starEach es X.env := by rfl) (hpl : (backTo pos (starEach es X.env)).any (·.1) = false := by rfl) :
    PE X (.Call (.Name x p) (e :: es) [] pos) (tCallS sp (WE W) t) := by
  obtain ⟨f, fd, G, hm, hk, hb⟩ := C.ex
  exact pe_callS G hr hg hm hk hb (fun σ => passAt tk σ) ha hdb he hpl
end
end
section
variable {K : PySem.W.Frag} {H : Hp} {Q : VK} {σ : L2.St} {D : Ends}
theorem x_for {wi : TI} {g : TG} {tb : TS} (h : wi σ H fun J H1 => ∃ W : Nat → Nat → L2.St → Hp → Prop, (∃ m, W 0 m σ H1) ∧ ∀ i m σ H, W i m σ H →
  (J.stop i H ∧ D.nx σ H) ∨ (J.go i H ∧ ∃ N : L2.St → Hp → Prop, (∀ σ' H', N σ' H' → ∃ m', m' < m ∧ W (i + 1) m' σ' H') ∧ ∀ x H', J.yld i H x H' → g x σ H' fun σ2 H2 => tb { D with nx := N, ct := N, bk := D.nx } σ2 H2)) : tFor wi g tb D σ H := h
theorem x_rng1 {ta : TA} {R : It → Hp → Prop} (h : ta σ H fun vs H1 => ∃ j : Int, vs = [.int j] ∧ -(2 ^ 62) ≤ j ∧ j < 2 ^ 62 ∧ R (Itr 0 j.toNat) H1) : iRng1 ta σ H R := h
theorem x_rngk1 {j : Int} {R : Int → Prop} (h1 : -4611686018427387904 ≤ j) (h2 : j < 4611686018427387904) (h : R j) : ∃ j' : Int, [V.int j] = [.int j'] ∧ -(2 ^ 62) ≤ j' ∧ j' < 2 ^ 62 ∧ R j' := ⟨j, rfl, h1, h2, h⟩
theorem x_rng2 {ta : TA} {R : It → Hp → Prop} (h : ta σ H fun vs H1 => ∃ i j : Int, vs = [.int i, .int j] ∧ (-(2 ^ 62) ≤ i ∧ i < 2 ^ 62 ∧ -(2 ^ 62) ≤ j ∧ j < 2 ^ 62) ∧ R (Itr i (j - i).toNat) H1) : iRng2 ta σ H R := h
theorem x_rngk2 {i j : Int} {R : Int → Int → Prop} (h1 : -4611686018427387904 ≤ i) (h2 : i < 4611686018427387904) (h3 : -4611686018427387904 ≤ j) (h4 : j < 4611686018427387904) (h : R i j) :
    ∃ i' j' : Int, [V.int i, V.int j] = [.int i', .int j'] ∧ (-(2 ^ 62) ≤ i' ∧ i' < 2 ^ 62 ∧ -(2 ^ 62) ≤ j' ∧ j' < 2 ^ 62) ∧ R i' j' := ⟨i, j, rfl, ⟨h1, h2, h3, h4⟩, h⟩
theorem x_rng3 {ta : TA} {R : It → Hp → Prop} (h : ta σ H fun vs H1 => ∃ (i j c : Int) (n : Nat), vs = [.int i, .int j, .int c] ∧ RgC i j c n ∧ R (Itc i c n) H1) : iRng3 ta σ H R := h
theorem x_iList {tl : TE} {R : It → Hp → Prop} (h : tl σ H fun x H1 => ∃ a, x = .ref a ∧ (∃ xs, SqL K H1 a xs) ∧ R (Itl K a) H1) : iList K tl σ H R := h
theorem x_iListk {a : Addr} {xs : List V} {R : Addr → Prop} (l : SqL K H a xs) (h : R a) : ∃ a', V.ref a = .ref a' ∧ (∃ xs, SqL K H a' xs) ∧ R a' := ⟨a, rfl, ⟨xs, l⟩, h⟩
theorem x_iTup {tl : TE} {R : It → Hp → Prop} (h : tl σ H fun x H1 => ∃ a, x = .ref a ∧ (∃ xs, SqT K H1 a xs) ∧ R (Itt K a) H1) : iTup K tl σ H R := h
theorem x_iTupk {a : Addr} {xs : List V} {R : Addr → Prop} (l : SqT K H a xs) (h : R a) : ∃ a', V.ref a = .ref a' ∧ (∃ xs, SqT K H a' xs) ∧ R a' := ⟨a, rfl, ⟨xs, l⟩, h⟩
theorem x_while {c : TT} {tb : TS} (Pv : Nat → L2.St → Hp → Prop) (h0 : ∃ m, Pv m σ H) (hs : ∀ m σ H, Pv m σ H → c σ H fun b H1 => if b = true then ∃ N : L2.St → Hp → Prop, (∀ σ' H', N σ' H' → ∃ m', m' < m ∧ Pv m' σ' H') ∧ tb { D with nx := N, ct := N, bk := D.nx } σ H1 else D.nx σ H1) : tWhile c tb D σ H := ⟨Pv, h0, hs⟩
theorem x_turn {Pv : Nat → L2.St → Hp → Prop} {m : Nat} {R : (L2.St → Hp → Prop) → Prop} (h : R fun σ' H' => ∃ m', m' < m ∧ Pv m' σ' H') : ∃ N : L2.St → Hp → Prop, (∀ σ' H', N σ' H' → ∃ m', m' < m ∧ Pv m' σ' H') ∧ R N := ⟨_, fun _ _ q => q, h⟩
theorem x_gtup {n : Nat} {t : TGs} {a : Addr} {xs : List V} {R : L2.St → Hp → Prop} (l : SqT K H a xs) (e : xs.length = n) (h : t xs σ H R) : gTup K n t (.ref a) σ H R := ⟨a, xs, rfl, l, e, h⟩
theorem x_gcons {t : TG} {u : TGs} {v : V} {r : List V} {R : L2.St → Hp → Prop} (h : t v σ H fun σ' H' => u r σ' H' R) : gCons t u (v :: r) σ H R := ⟨v, r, rfl, h⟩
theorem x_gnil {R : L2.St → Hp → Prop} (h : R σ H) : gNil [] σ H R := ⟨rfl, h⟩
theorem x_divmod {i j : Int} (l : CDivP i j) (h : ∀ p, H p = none → Q (.ref p) (upd H p (.tup [.int (i / j), .int (i % j)]))) : rDivmodW [.int i, .int j] H Q := ⟨l, h⟩
theorem x_revL {te : TE} (h : te σ H fun x H1 => ∃ a xs, x = .ref a ∧ SqL K H1 a xs ∧ ∀ p, H1 p = none → Q (.ref p) (upd H1 p (.lst xs.reverse))) : tRevL K te σ H Q := h
theorem x_revLk {a : Addr} {xs : List V} {R : Addr → List V → Prop} (l : SqL K H a xs) (h : ∀ p, H p = none → R p xs) : ∃ a' xs, V.ref a = .ref a' ∧ SqL K H a' xs ∧ ∀ p, H p = none → R p xs := ⟨a, xs, rfl, l, h⟩
theorem x_strI {i : Int} (l : i.natAbs.log2 < 1920) (h : Q (.str (toString i)) H) : rStrU [.int i] H Q := ⟨l, h⟩
theorem x_intS {a : Str} {n : Int} (e : PySem.intText? a = some n) (l : a.length ≤ 640) (h : Q (.int n) H) : rIntU [.str a] H Q := ⟨n, e, l, h⟩
theorem x_isN {x : V} (h : Q (.bl (decide (x = .non))) H) : rIsN x .non H Q := ⟨rfl, h⟩
theorem x_notN {x : V} (h : Q (.bl (!decide (x = .non))) H) : rNotN x .non H Q := ⟨rfl, h⟩
theorem x_unNeg {i : Int} (h : Q (.int (-i)) H) : rU (fun i => .int (-i)) (.int i) H Q := ⟨i, rfl, h⟩
theorem tyV_str {z : Str} : tyV K "str" (.str z) H := rfl
theorem tyV_lst {p : Addr} {xs : List V} (h : H p = some (.lst xs)) : tyV K "list" (.ref p) H := .inl ⟨rfl, xs, .inl (.inl h)⟩
theorem x_bms {T : Prop} {R : Prop} (t : T) (h : R) : T ∧ R := ⟨t, h⟩
/-! heaps that grow -/
theorem upd_new {a p : Addr} {o u : HO} (h : H a = some u) (n : H p = none) : upd H p o a = some u := by rw [upd_ne (ne_of_none h n)]; exact h
theorem same_new {p : Addr} {o : HO} (n : H p = none) : Same H (upd H p o) := fun b x e => upd_new e n
theorem same_mut {H0 : Hp} {p : Addr} {o : HO} (s : Same H0 H) (n : H0 p = none) : Same H0 (upd H p o) := fun b x e => by rw [upd_ne (ne_of_none e n)]; exact s b x e
theorem same_none {H0 : Hp} {p : Addr} (s : Same H0 H) (n : H p = none) : H0 p = none := s.free n
theorem Same.seqT {H' : Hp} {a : Addr} {xs : List V} (e : Same H H') (h : SqT K H a xs) : SqT K H' a xs := by
  rcases h with (h | ⟨o, h⟩) | h
  · exact .inl (.inl (e _ _ h))
  · exact .inl (.inr ⟨o, e _ _ h⟩)
  · exact .inr h
/-- a constant of the module -/
theorem pe_const {X : Cx} {x : Str} {v : V} {pos : Pos} (c : ∃ u, X.mg x = some u ∧ RelV v u) (hg : Gl X x) (hd : (x == ("__debug__" : Str)) = false := by decide) : PE X (.Name x pos) (tC v) := by
  obtain ⟨u, h, r⟩ := c
  exact pe_glob hg h r hd
/-! ranges with a step of 18 -/
theorem RgC.by18 {i j : Int} (hi : 0 ≤ i) (hj2 : j < 4611686018427387904) (hij : i ≤ j) (hd : (j - i) % 18 = 0) : RgC i j 18 ((j - i) / 18).toNat := by
  have e : Builtin.Range.rangeSize i j 18 = (j - i) / 18 := by
    unfold Builtin.Range.rangeSize
    rw [if_pos (by decide)]
    split <;> omega
  refine ⟨by decide, by decide, ?_, by rw [e]; omega⟩
  unfold Builtin.Range.small
  rw [e]
  simp only [Builtin.Range.rangeFitsLong, Bool.and_eq_true, Bool.or_eq_true, decide_eq_true_eq, beq_iff_eq, show ((18 : Int) > 0) by decide, if_true]
  omega
/-- both ways of a conditional expression give v -/
theorem x_ifE {c : Prop} [Decidable c] {ta tb : TE} {v : V} (h1 : c → ∀ Q : VK, Q v H → ta σ H Q) (h2 : ¬ c → ∀ Q : VK, Q v H → tb σ H Q) (h : Q v H) : if decide c = true then ta σ H Q else tb σ H Q :=
  x_dec (fun c => h1 c Q h) (fun c => h2 c Q h)
theorem at_g {α : Type} {xs : List α} {z : Int} {v : α} (j : Nat) (e : z = (j : Int)) (h : xs[j]? = some v) : atI xs z = some v := by
  rw [e]
  exact atI_nat h
theorem szL {xs : List V} (h : Nat.ble xs.length 100 = true) : xs.length ≤ sizeLine := Nat.le_trans (Nat.le_of_ble_eq_true h) (by decide)
theorem x_andT {ta tb : TE} (h : ta σ H fun x H1 => ∃ k, TruV K x H1 k ∧ if k = true then tb σ H1 Q else Q x H1) : tAndT K ta tb σ H Q := h
theorem x_orT {ta tb : TE} (h : ta σ H fun x H1 => ∃ k, TruV K x H1 k ∧ if k = true then Q x H1 else tb σ H1 Q) : tOrT K ta tb σ H Q := h
theorem x_trvB {b : Bool} {R : Bool → Prop} (h : R b) : ∃ k, TruV K (.bl b) H k ∧ R k := ⟨b, rfl, h⟩
/-- what try wishes of its body -/
def tTryMixD (K : PySem.W.Frag) (tb : WX → TS) (W : WX) : TS := fun D σ H => tb W D σ H
end
end Nv

/-! ### own errors with an own __init__ over a base class of one's own -/
namespace PySem.W
open PySem PySem.Spec PySem.Calls PyProof.Rows
section
variable {prog : Program} {w : World} {A : Around} {E : Value → Shared → Prop} {s : Shared} {K : Frag} {x D : Addr} {ox : Obj} {od : Option Obj}
theorem nv_find_data {C : Addr} {name : Str} {a g : Value} {od : Option Obj} (hc : (clsIn K C).isSome = true) (ha : findIn K (.ref C) name = some (some a)) (hg : specialIn K a "__get__" = some (some g)) (ht : takesIn K a = some true) : findObj K C od name = some (.bind g a) := by
  obtain ⟨cd, hc⟩ := Option.isSome_iff_exists.mp hc
  unfold findObj
  rw [hc, Option.bind_some, ha, Option.bind_some]
  simp [hg, ht]
theorem nv_class {Q : Option Value → Shared → Prop} (hga : findIn K (.ref D) "__getattribute__" = some (some (.builtin "BaseException.__getattribute__"))) (hgt : findIn K (.ref D) "__getattr__" = some none) (hsub : subIn K (.ref D) (.type "BaseException") = some true)
    (hdct : hasDictIn K D = true) (ha : findIn K (.ref D) "__class__" = some (some (.builtin "object.__class__")))
    (hn : specialIn K (.builtin "object.__class__") "__get__" = some (some (.builtin "getset_descriptor.__get__"))) (htk : takesIn K (.builtin "object.__class__") = some true) (hm : mroIn K D (.type "object") = some true)
    (X : K.In s.heap) (I : InstAt s.heap x ox D od) (h : Q (some (.ref D)) { s with toks := s.toks + 1 }) : wpAny (model prog w) A (getAttr? (.ref x) "__class__") Q E s := by
  have hf : findObj K D od "__class__" = some (.bind (.builtin "getset_descriptor.__get__") (.builtin "object.__class__")) := nv_find_data (by obtain ⟨cd, hc, _⟩ := any_some hdct; rw [hc]; rfl) ha hn htk
  obtain ⟨hp, g, d, t, os⟩ := s
  have L0 := I.type (M := model prog w)
  have L1 := looks_findIn (M := model prog w) X hga
  have L2 := looks_findIn (M := model prog w) X hgt
  have L3 := looks_find (M := model prog w) X I hf
  have sub : Looks (model prog w) hp (isInstance (.ref x) (.type "BaseException")) true := L0.andThen (looks_subIn X hsub)
  have hx0 : (false && onTheHeap (Value.builtin "BaseException.__getattribute__")) = false := rfl
  have hx2 : (Value.builtin "BaseException.__getattribute__" == Value.builtin "object.__getattribute__") = false := by decide +kernel
  have hx1 : (onTheHeap (Value.ref D) && Value.builtin "BaseException.__getattribute__" == Value.builtin "object.__getattribute__") = false := by rw [hx2]; rfl
  unfold getAttr? getAttrBy? getAttrBy
  refine wpAny_bind (wpAny_mkText (wpAny_bind (wpAny_attempt (wpAny_holding (wpAny_bind (L0.at (wpAny_bind (L1.at ?_))))))))
  show wpAny _ _ (if (onTheHeap (Value.ref D) && Value.builtin "BaseException.__getattribute__" == Value.builtin "object.__getattribute__") = true then _ else _) _ _ _
  rw [hx1, if_neg Bool.false_ne_true]
  unfold getAttrByItsOwn hookBefore
  refine wpAny_bind ?_
  rw [if_pos (show onTheHeap (Value.ref D) = true from rfl)]
  refine L2.at ?_
  refine wpAny_bind (wpAny_attempt (wpAny_holding ?_))
  unfold callGetattribute
  rw [hx0, if_neg Bool.false_ne_true]
  unfold boundAndCalled
  rw [PySem.F.excAttr_ValueError.ga.bind (.ref x)]
  refine wpAny_bind (wpAny_pure ?_)
  show wpAny _ _ (call (.builtin "BaseException.__getattribute__") [.ref x, .str "__class__" t]) _ _ _
  refine wpAny_call (codeAny_call_builtin PySem.F.excAttr_ValueError.ga.plain PySem.F.entry_bexc_ga ?_)
  refine @check_slot (model prog w) _ _ ⟨hp, g, d, t + 1, os⟩ "BaseException.__getattribute__" "BaseException" "__getattribute__" (.ref x) [.str "__class__" t] [] _ (by decide +kernel) (by decide +kernel) sub (PySem.F.args_bexc_ga (.ref x) (.str "__class__" t)) ?_
  unfold Builtin.«object.__getattribute__»
  refine wpAny_bind (wpAny_of_eq (a := ((Value.ref x : Value), [Value.str "__class__" t])) (by first | rfl | (simp only [slotArgs]; rfl)) ?_)
  refine wpAny_bind (wpAny_pure (wpAny_bind (L0.at (wpAny_bind (L3.at ?_)))))
  show wpAny _ _ (holding [Value.builtin "object.__class__"] (call (.builtin "getset_descriptor.__get__") [.builtin "object.__class__", .ref x, .ref D]) >>= ret) _ _ _
  refine wpAny_bind (wpAny_holding (wpAny_call (class_get (s := ⟨hp, g, d, t + 1, os⟩) (ox := ox) (od := od) X I hm ?_)))
  refine wpAny_pure ?_
  show wpAny _ _ (handedOut (.ref D)) _ _ _
  rw [handedOut_of (v := .ref D) rfl]
  first
    | exact wpAny_pure (wpAny_pure h)
    | exact wpAny_pure h
    | exact wpAny_pure (wpAny_bind (wpAny_pure (wpAny_pure h)))
theorem nv_kitx_exc (hga : findIn K (.ref D) "__getattribute__" = some (some (.builtin "BaseException.__getattribute__"))) (hgt : findIn K (.ref D) "__getattr__" = some none) (hsub : subIn K (.ref D) (.type "BaseException") = some true) (hdct : hasDictIn K D = true) (ha : findIn K (.ref D) "__class__" = some (some (.builtin "object.__class__")))
    (hn : specialIn K (.builtin "object.__class__") "__get__" = some (some (.builtin "getset_descriptor.__get__"))) (htk : takesIn K (.builtin "object.__class__") = some true) (hm : mroIn K D (.type "object") = some true) :
    KitX K (.ref x) (.ref D) (fun h => ∃ od, InstAt h x ox D od) where
  ty := fun _ _ _ ⟨_, I⟩ => I.type
  it := fun _ _ X _ => by
    obtain ⟨cdD, hcD, _⟩ := any_some hdct
    unfold clsIn at hcD
    split at hcD
    · rename_i c' d' cd' sl' ho
      intro A' Q' E' s' k q
      unfold isType loadHead
      exact wpAny_bind (wpAny_loadPart (k _ _ (X _ _ ho)) (wpAny_pure q))
    · cases hcD
  ne := fun h tp dd its n sl X htp => by
    obtain ⟨cdD, hcD, _⟩ := any_some hdct
    refine Bool.eq_false_iff.mpr fun q => ?_
    have e : D = tp := Value.ref.inj (beq_iff_eq.mp q)
    subst e
    unfold clsIn at hcD
    split at hcD
    · rename_i c' d' cd' sl' ho
      have z := (X _ _ ho).symm.trans htp
      cases z
    · cases hcD
  ca := fun X I k => by
    obtain ⟨od, I⟩ := I
    exact nv_class hga hgt hsub hdct ha hn htk hm X I k
end
end PySem.W
namespace Nv
open PySem PySem.Spec PyProof.Rows L2
/-- what the written part says of an own error class -/
structure ECls (K : PySem.W.Frag) (mg : Str → Option Value) (x : Str) (C : Addr) : Prop where
  g : mg x = some (.ref C)
  o : OexC K C
  xf : XfC K C
  ic : ExcC K C
/-- isinstance(e, c), e the error that the suite holds: its class cls, its own dict d -/
def rIsX (K : PySem.W.Frag) (a : Addr) (cls : Value) (d : Option Addr) : List V → Hp → VK → Prop := fun xs H Q => ∃ (D : Addr) (c : V) (cv : Value) (b : Bool), cls = .ref D ∧ ExcC K D ∧ (∀ dd, d = some dd → ∃ fs, H dd = some (.xd fs)) ∧ xs = [.ref a, c] ∧ ClsV c cv ∧ PySem.W.kitOne K (.ref D) cv = some b ∧ Q (.bl b) H
theorem call_isX {X : Cx} {a : Addr} {cls : Value} {d : Option Addr} {oe : Obj} {pn : List (Addr × Obj)} (hz : Zc cls d oe) (hf : ∃ vs, oe.data = .fields vs) :
    CallR (X.suite a ((a, oe) :: pn)) (.builtin "isinstance") (rIsX X.K a cls d) := by
  intro pins s σ H xs us Q I r h
  obtain ⟨D, c, cv, b, rfl, C, hd, rfl, hcv, e, q⟩ := h
  cases r with
  | cons rx rr =>
    cases rr with
    | cons rt rr =>
      cases rr
      cases rx
      have ec := hcv.eq rt
      subst ec
      obtain ⟨hget, _⟩ := I.pin (a, oe) (List.mem_append.mpr (.inl List.mem_cons_self))
      obtain ⟨vs, hv⟩ := hf
      have J : ∃ od, PySem.W.InstAt s.heap a oe D od := by
        obtain ⟨oc, od, oda, osl⟩ := oe
        obtain ⟨h1, h2⟩ := hz
        dsimp only at h1 h2 hv
        subst h1 h2 hv
        cases hdd : od with
        | none => subst hdd; exact ⟨none, hget, rfl, rfl, trivial⟩
        | some dd =>
          obtain ⟨fs, hfs⟩ := hd dd hdd
          have hx : ObjOk X.prog X.w H s.heap dd (.xd fs) := I.hok dd _ hfs
          obtain ⟨mA, ⟨o, _, _, ho, _⟩, _⟩ := hx
          subst hdd
          exact ⟨some o, hget, rfl, rfl, ho⟩
      exact PySem.W.kia_one (PySem.W.nv_kitx_exc C.hg C.hk C.hs C.hd C.ha C.hn C.ht C.hm) I.kIn J e (fun z => nomatch z) fun tk => ⟨.bl b, H, I.kept (t' := tk) fun _ _ z => z, rfl, q⟩
section
variable {X : Cx} {o e : Expr} {es : List Expr} {to te : TE} {ta : TA} {f : Str} {p p' p1 p2 pos : Pos}
/-- Base.__init__(self, ..), Base an own class whose __init__ is ValueError's -/
theorem pe_binit {pl : Sem Bool} {x : Str} {N : Addr} (hg : Gl X x) (hm : X.mg x = some (.ref N)) (hs : PySem.W.specialIn X.K (.ref N) "__getattribute__" = some (some (.builtin "type.__getattribute__"))) (hr : PySem.W.readsIn X.K N (.type "type") = true)
    (vV : PySem.W.findCls X.K (.ref N) (.type "type") "__init__" = some (.val (.builtin "ValueError.__init__"))) (ha : PA X (e :: es) ta) (hdb : (x == ("__debug__" : Str)) = false := by decide)
    (hc : eval (.Call (.Attribute (.Name x p1) "__init__" p2) (e :: es) [] pos) X.env = (do
      let ov ← eval (.Name x p1) X.env
      standAt p2.atName
      let (f, first) ← holding [ov] (getMethod ov "__init__" pl)
      callWith pos f first (backTo pos (starEach (e :: es) X.env)) (backToKw pos (keywordEach [] X.env))) := by rfl)
    (he : starEach (e :: es) X.env = (false, eval e X.env) :: starEach es X.env := by rfl) (hpl : (backTo pos (starEach es X.env)).any (·.1) = false := by rfl) :
    PE X (.Call (.Attribute (.Name x p1) "__init__" p2) (e :: es) [] pos) (tVeI X.K ta) := by
  refine ⟨fun pins s σ H Q I h => ?_⟩
  refine PySem.W.methodCall_KW (ld_glob I hg hm ?_ hdb) hc
  refine PySem.W.method_cls I.kIn hs (PySem.W.cls_value I.kIn hr vV (by decide +kernel) ?_)
  show wpAny _ _ (callWith pos (Value.builtin "ValueError.__init__") [] (backTo pos (starEach (e :: es) X.env)) []) _ _ _
  refine PyProof.Rows.callWith_method1 (thn (ha.run pos pins _ σ H _ (I.tok _) h) fun us s1 ⟨vs, H1, I1, r1, a, C, ws, ev, hl, T, ea, q⟩ => ?_) he hpl
  subst ev
  cases r1 with
  | @cons _ u0 _ ur ra rw' =>
    obtain rfl : u0 = Value.ref a := ra
    have hlen : ur.length ≤ sizeLine := by
      rw [← Paired.length rw', sizeLine_eq]
      omega
    exact oinit_ok T I1 ea hlen fun s' J => ⟨.non, H1, J, rfl, q⟩
end
/-! the error's __init__: its promise -/
/-- the fields of an error, as its own dict has them behind __init__ (the last one first) -/
def sp_init1 (K : PySem.W.Frag) (f : Str) : Sp := fun vs H Q _ => ∃ (a C : Addr) (y : V), vs = [.ref a, y] ∧ OexC K C ∧ PySem.W.findIn K (.ref C) f = some none ∧ H a = some (exo a C none) ∧
  ∀ dx, H dx = none → dx ≠ a → Q .non (upd (upd H dx (exd dx [(f, y)])) a (exo a C (some dx)))
def t_init1 (K : PySem.W.Frag) (m f : Str) : TS := tSeq (tDrop (tVeI K (tCons (tVar 0) (tCons (tC (.str m)) tNil)))) (tOst K f (tVar 0) (tVar 1))
theorem r_init1 (K : PySem.W.Frag) (m f : Str) (N : List Str) (hN : N.length = 2) (vs : List V) (H : Hp) (Q : VK) (E : XK) (h : sp_init1 K f vs H Q E) : t_init1 K m f { nx := fun _ H' => Q .non H', rt := Q } (L2.start N vs) H := by
  obtain ⟨a, C, y, rfl, T, hno, ha, q⟩ := h
  have e : L2.start N [.ref a, y] = [some (.ref a), some y] := by
    unfold L2.start
    rw [hN]
    rfl
  rw [e]
  exact ⟨_, rfl, a, C, [.str m], rfl, (by decide : 1 ≤ 1000), T, ha, y, rfl, _, rfl, a, C, rfl, T, hno, .inl ⟨ha, q⟩⟩
def sp_init2 (K : PySem.W.Frag) (f g : Str) : Sp := fun vs H Q _ => ∃ (a C : Addr) (y z : V), vs = [.ref a, y, z] ∧ OexC K C ∧ PySem.W.findIn K (.ref C) f = some none ∧ PySem.W.findIn K (.ref C) g = some none ∧ H a = some (exo a C none) ∧
  ∀ dx, H dx = none → dx ≠ a → Q .non (upd (upd (upd H dx (exd dx [(f, y)])) a (exo a C (some dx))) dx (exd dx [(g, z), (f, y)]))
def t_init2 (K : PySem.W.Frag) (m f g : Str) : TS := tSeq (tDrop (tVeI K (tCons (tVar 0) (tCons (tC (.str m)) tNil)))) (tSeq (tOst K f (tVar 0) (tVar 1)) (tOst K g (tVar 0) (tVar 2)))
theorem r_init2 (K : PySem.W.Frag) (m f g : Str) (N : List Str) (hN : N.length = 3) (vs : List V) (H : Hp) (Q : VK) (E : XK) (h : sp_init2 K f g vs H Q E) : t_init2 K m f g { nx := fun _ H' => Q .non H', rt := Q } (L2.start N vs) H := by
  obtain ⟨a, C, y, z, rfl, T, hno, hno2, ha, q⟩ := h
  have e : L2.start N [.ref a, y, z] = [some (.ref a), some y, some z] := by
    unfold L2.start
    rw [hN]
    rfl
  rw [e]
  refine ⟨_, rfl, a, C, [.str m], rfl, (by decide : 1 ≤ 1000), T, ha, y, rfl, _, rfl, a, C, rfl, T, hno, .inl ⟨ha, fun dx hd ne => ?_⟩⟩
  refine ⟨z, rfl, _, rfl, a, C, rfl, T, hno2, .inr ⟨dx, [(f, y)], upd_same, ?_, (by decide : 1 ≤ 900), q dx hd ne⟩⟩
  rw [upd_ne ne, upd_same]
/-- behind the making: the error is let go, its dict stands -/
theorem let_go {H : Hp} {a d : Addr} {o1 o2 u : HO} {fs : List (Str × V)} (ha : H a = none) (hd : H d = none) (ne : d ≠ a) : upd (del (upd (upd (upd H a o1) d o2) a u) a) d (.xd fs) = upd H d (.xd fs) := by
  funext b
  by_cases h1 : b = d
  · rw [h1, upd_same, upd_same]
  · rw [upd_ne h1, upd_ne h1]
    by_cases h2 : b = a
    · rw [h2, del_same, ha]
    · rw [del_ne h2, upd_ne h2, upd_ne h1, upd_ne h2]
theorem let_go2 {H : Hp} {a d : Addr} {o1 o2 u v : HO} {fs : List (Str × V)} (ha : H a = none) (hd : H d = none) (ne : d ≠ a) : upd (del (upd (upd (upd (upd H a o1) d o2) a u) d v) a) d (.xd fs) = upd H d (.xd fs) := by
  funext b
  by_cases h1 : b = d
  · rw [h1, upd_same, upd_same]
  · rw [upd_ne h1, upd_ne h1]
    by_cases h2 : b = a
    · rw [h2, del_same, ha]
    · rw [del_ne h2, upd_ne h1, upd_ne h2, upd_ne h1, upd_ne h2]
/-- raise X(y), raise X(y, z): what is wished of it -/
def tRaise1 (C : Addr) (f : Str) (W : WX) (ta : TA) : TS := fun _ σ H => ta σ H fun vs H1 => ∃ y, vs = [y] ∧ ∀ d, H1 d = none → W (.ref C) (some d) σ (upd H1 d (.xd [(f, y)]))
def tRaise2 (C : Addr) (f g : Str) (W : WX) (ta : TA) : TS := fun _ σ H => ta σ H fun vs H1 => ∃ y z, vs = [y, z] ∧ ∀ d, H1 d = none → W (.ref C) (some d) σ (upd H1 d (.xd [(g, z), (f, y)]))
/-- what the text says of the class's own __init__ -/
structure EIni (P : Program) (w : World) (K : PySem.W.Frag) (mg : Str → Option Value) (base : Heap) (k : Nat) (C : Addr) (ps : List Str) (sp : Sp) : Prop where
  ex : ∃ (f : Addr) (fd : FuncData), FnOk P w K mg base (L2.CX P w) k f fd ps sp ∧ PySem.W.findIn K (.ref C) "__init__" = some (some (.ref f)) ∧ PySem.W.typeIn K (.ref f) = some (.type "function") ∧ Binds K fd ps []
theorem PS.weak {X : Cx} {st : Stmt} {t t' : TS} (h : PS X st t) (w : ∀ D σ H, t' D σ H → t D σ H) : PS X st t' := ⟨fun pins s σ H D I q => h.run pins s σ H D I (w D σ H q)⟩
section
variable {X : Cx} {e : Expr} {es : List Expr} {ta : TA} {f g x : Str} {C : Addr} {p pos pos2 : Pos} {k : Nat} {ps : List Str} {W : WX}
/-- an argument list's reading, closed under weaker wishes -/
def tMon (ta : TA) : TA := fun σ H Q => ∃ R : List V → Hp → Prop, ta σ H R ∧ ∀ vs H1, R vs H1 → Q vs H1
theorem pa_mon {es : List Expr} (ha : PA X es ta) : PA X es (tMon ta) :=
  ⟨fun pos pins s σ H Q I ⟨R, h, w⟩ => thn (ha.run pos pins s σ H R I h) fun us s1 ⟨vs, H1, I1, r, q⟩ => ⟨vs, H1, I1, r, w vs H1 q⟩⟩
theorem ps_raise1 (hc : X.calm = true) (T : ECls X.K X.mg x C) (N : EIni X.prog X.w X.K X.mg X.base k C ps (sp_init1 X.K f)) (hno : PySem.W.findIn X.K (.ref C) f = some none) (hr : Room (k + 1) X.A) (tk : Takes X W) (hg : Gl X x) (ha : PA X (e :: es) ta)
    (hdb : (x == ("__debug__" : Str)) = false := by decide) (he : starEach (e :: es) X.env = (false, eval e X.env) :: starEach es X.env := by rfl) (hpl : (backTo pos (starEach es X.env)).any (·.1) = false := by rfl) :
    PS X (.Raise (some (.Call (.Name x p) (e :: es) [] pos)) none pos2) (tRaise1 C f W ta) := by
  obtain ⟨fI, fd, F, iC, tI, hb⟩ := N.ex
  refine PS.weak (ps_raise hc tk (pmk_oex T.o iC tI F hr hb .nil passL hg T.g (pa_mon ha) hdb he hpl)) fun D σ H h => ⟨_, h, fun vs H1 ⟨y, ev, q⟩ => ?_⟩
  subst ev
  refine ⟨(by decide : 1 ≤ 1000), fun a hn => ⟨a, C, y, rfl, T.o, hno, upd_same, fun dx hd ne => ⟨rfl, dx, [(f, y)], upd_same, ?_, ?_, ?_⟩⟩⟩
  · rw [upd_ne ne, upd_same]
  · rw [upd_ne ne] at hd
    exact hd
  · rw [upd_ne ne] at hd
    rw [let_go hn hd ne]
    exact q dx hd
theorem ps_raise2 (hc : X.calm = true) (T : ECls X.K X.mg x C) (N : EIni X.prog X.w X.K X.mg X.base k C ps (sp_init2 X.K f g)) (hno : PySem.W.findIn X.K (.ref C) f = some none) (hno2 : PySem.W.findIn X.K (.ref C) g = some none) (hr : Room (k + 1) X.A) (tk : Takes X W) (hg : Gl X x) (ha : PA X (e :: es) ta)
    (hdb : (x == ("__debug__" : Str)) = false := by decide) (he : starEach (e :: es) X.env = (false, eval e X.env) :: starEach es X.env := by rfl) (hpl : (backTo pos (starEach es X.env)).any (·.1) = false := by rfl) :
    PS X (.Raise (some (.Call (.Name x p) (e :: es) [] pos)) none pos2) (tRaise2 C f g W ta) := by
  obtain ⟨fI, fd, F, iC, tI, hb⟩ := N.ex
  refine PS.weak (ps_raise hc tk (pmk_oex T.o iC tI F hr hb .nil passL hg T.g (pa_mon ha) hdb he hpl)) fun D σ H h => ⟨_, h, fun vs H1 ⟨y, z, ev, q⟩ => ?_⟩
  subst ev
  refine ⟨(by decide : 2 ≤ 1000), fun a hn => ⟨a, C, y, z, rfl, T.o, hno, hno2, upd_same, fun dx hd ne => ⟨rfl, dx, [(g, z), (f, y)], ?_, upd_same, ?_, ?_⟩⟩⟩
  · rw [upd_ne ne.symm, upd_same]
  · rw [upd_ne ne] at hd
    exact hd
  · rw [upd_ne ne] at hd
    rw [let_go2 hn hd ne]
    exact q dx hd
end
/-! ### try with several clauses, with or without a name -/
def wMix (K : PySem.W.Frag) (Wout : WX) (D : Ends) : List (Value × Option Nat × (Addr → Value → Option Addr → TS)) → WX
  | [] => Wout
  | (c, none, ts) :: r => fun cls d σ H => ∃ b, PySem.W.exmOne K cls c = some b ∧ (b = true → ∀ a, H a = none → ts a cls d D σ H) ∧ (b = false → wMix K Wout D r cls d σ H)
  | (c, some i, ts) :: r => fun cls d σ H => ∃ b, PySem.W.exmOne K cls c = some b ∧ (b = true → ∀ a, H a = none → ts a cls d { nx := fun σ' H' => D.nx (σ'.set i none) H', rt := D.rt, bk := fun σ' H' => D.bk (σ'.set i none) H', ct := fun σ' H' => D.ct (σ'.set i none) H' } (σ.set i (some (.ref a))) H) ∧
      (b = false → wMix K Wout D r cls d σ H)
/-- try: the body under the clauses' wish -/
def tTryMix (K : PySem.W.Frag) (tb : WX → TS) (Wout : WX) (l : List (Value × Option Nat × (Addr → Value → Option Addr → TS))) : TS := fun D σ H => tb (wMix K Wout D l) D σ H
inductive HdsMix (X : Cx) : List ExceptHandler → List (Value × Option Nat × (Addr → Value → Option Addr → TS)) → Prop
  | nil : HdsMix X [] []
  | bare {x : Str} {c : Value} {ts : Addr → Value → Option Addr → TS} {b₀ : Stmt} {suite : List Stmt} {np pos' : Pos} {hds : List ExceptHandler} {l : List (Value × Option Nat × (Addr → Value → Option Addr → TS))} (hc : Names X x c)
      (hsu : ∀ (a : Addr) (oe : Obj) (cls : Value) (d : Option Addr) (pn : List (Addr × Obj)), Zc cls d oe → (∃ vs, oe.data = .fields vs) → PSs (X.suite a ((a, oe) :: pn)) (b₀ :: suite) (ts a cls d)) (r : HdsMix X hds l) :
      HdsMix X (.ExceptHandler (some (.Name x np)) none (b₀ :: suite) pos' :: hds) ((c, none, ts) :: l)
  | named {x n : Str} {i : Nat} {c : Value} {ts : Addr → Value → Option Addr → TS} {b₀ : Stmt} {suite : List Stmt} {np pos' : Pos} {hds : List ExceptHandler} {l : List (Value × Option Nat × (Addr → Value → Option Addr → TS))} (hN : X.N.Nodup) (hi : X.N[i]? = some n) (hln : X.env.kindOf n = some .local) (hc : Names X x c)
      (hsu : ∀ (a : Addr) (oe : Obj) (cls : Value) (d : Option Addr) (pn : List (Addr × Obj)), Zc cls d oe → (∃ vs, oe.data = .fields vs) → PSs (X.suite a ((a, oe) :: pn)) (b₀ :: suite) (ts a cls d)) (r : HdsMix X hds l) :
      HdsMix X (.ExceptHandler (some (.Name x np)) (some n) (b₀ :: suite) pos' :: hds) ((c, some i, ts) :: l)
section
variable {X : Cx} {body : List Stmt} {h₀ : ExceptHandler} {hds : List ExceptHandler} {l : List (Value × Option Nat × (Addr → Value → Option Addr → TS))} {pos : Pos} {tb : WX → TS} {Wout : WX}
theorem ps_try_mix (hs : X.stack = X.env :: X.outer) (hf : X.env.frame = some X.env.locals) (tk : Takes X Wout)
    (hb : ∀ (W : WX) (pn : List (Addr × Obj)) (xe : Value → Shared → Prop), Takes (X.tr pn xe) W → PassesOwn (model X.prog X.w) X.A X.env xe → PSs (X.tr pn xe) body (tb W))
    (hh : HdsMix X (h₀ :: hds) l) : PS X (.Try body (h₀ :: hds) [] [] pos) (tTryMix X.K tb Wout l) := by
  refine ⟨fun pins s σ H D I h => ?_⟩
  have ok := I.ok
  have hfr : X.A.frames = some (X.env :: X.outer) := by rw [ok.frames, hs]
  refine wpAny_Try_except ?_
  refine wpAny_mono ((hb (wMix X.K Wout D l) (X.pn ++ pins) (fun e s₁ => wpAny (model X.prog X.w) X.A (noteFrame e X.env) (fun _ s₂ => wpAny (model X.prog X.w) X.A (setFlight e none) (fun _ s₃ =>
    wpAny (model X.prog X.w) X.A (handleBy e X.env (h₀ :: hds)) (SP X pins D) X.xe s₃) X.xe s₂) X.xe s₁) (fun u s' xx => ?_) PassesOwn.looking).run [] s σ H D (I.toTry _) h) (fun f s1 hsp => ?_) (fun e s1 he => he)
  · obtain ⟨a, B, sI, pins', σ', H', cls, d, rfl, J', nb, up, sky, na, os, ag, w⟩ := xx
    have J : Inv X pins σ' H' sI := J'.ofTry ok
    have sky' : Sky B (X.env :: X.outer) a (Zc cls d) X.env.locals s'.heap := by rw [← hs]; exact sky
    show wpAny (model X.prog X.w) X.A (noteFrame (.ref a) X.env) _ _ _
    refine Sky.land Zc.steady hfr hf sky' fun h3 fl3 up3 => ?_
    have J3 : Inv X pins σ' H' { s' with heap := h3 } := J.landed nb fl3.1 (up.trans up3) os ag
    obtain ⟨oe3, vs3, he3, hz3, hd3⟩ := fl3.there
    have notFr : ∀ {h : Heap} {o : Obj} {vs : Array Value}, h.FunFrames B (X.env :: X.outer) → h.get? a = some o → o.data = .fields vs → a ∉ frs (X.env :: X.outer) := fun {h o vs} ff e dd hm => by
      obtain ⟨_, o', e', hnf⟩ := ff.mem hm
      rw [e] at e'; cases e'
      exact hnf _ dd
    have nfr := notFr fl3.2.2.1 he3 hd3
    have nL : a ≠ X.env.locals := fun z => nfr (List.mem_filterMap.mpr ⟨X.env, List.mem_cons_self, by rw [hf, z]⟩)
    have nF : a ∉ X.fs := fun hm => by
      obtain ⟨e, he, q⟩ := List.mem_filterMap.mp hm
      exact nfr (List.mem_filterMap.mpr ⟨e, List.mem_cons_of_mem _ he, q⟩)
    have S3 := J3.suite he3 hd3 na nL nF
    have go : ∀ {hds' : List ExceptHandler} {l' : List (Value × Option Nat × (Addr → Value → Option Addr → TS))}, HdsMix X hds' l' → wMix X.K Wout D l' cls d σ' H' →
        wpAny (model X.prog X.w) X.A (handleBy (.ref a) X.env hds') (SP X pins D) X.xe { s' with heap := h3 } := by
      intro hds' l' hk
      induction hk with
      | nil =>
        intro w
        refine wpAny_handleBy_nil ?_
        obtain ⟨k1, k2, k3, oe, vs, T, oT, ts', he, hz, hd, h1, hr⟩ := id fl3
        unfold PySem.passOn
        refine wpAny_bind (wpAny_field he hd h1 ?_)
        rw [if_neg (show ¬ ((Value.ref T == Value.none) = true) from by simp)]
        have fin : wpAny (model X.prog X.w) X.A (setFlight (.ref a) X.env.frame) (fun _ s4 => wpAny (model X.prog X.w) X.A (throw (.ref a) : Sem Flow) (SP X pins D) X.xe s4) X.xe { s' with heap := h3 } := by
          rw [hf]
          refine HandSPX.setFlight_upZ fl3 fun h4 hh4 up4 => wpAny_throw (tk _ _ ?_)
          exact ⟨a, B, sI, pins, σ', H', cls, d, rfl, J, nb, (up.trans up3).trans up4, .inr (.inr (by rw [hs]; exact hh4)), na, os, ag, w⟩
        first
          | exact wpAny_bind (wpAny_pure (wpAny_bind fin))
          | exact wpAny_bind fin
      | @bare x c ts b₀ suite np pos' hds2 l2 hc hsu r ih =>
        intro w
        obtain ⟨b, hb1, hyes, hno⟩ := w
        refine wpAny_handleBy_cons (codeAny_handlers_test ?_) (by intro q; cases q)
        have LT : PySem.W.Looks (model X.prog X.w) h3 (typeOf (.ref a)) cls := fun A Q E s k q => wpAny_typeOf_ref (k _ _ he3) (by rw [hz3.1]; exact q)
        have LM := PySem.W.exm_one (M := model X.prog X.w) (J3.kIn) LT hb1
        have test : ∀ {Q : Value → Shared → Prop} {E : Value → Shared → Prop}, Q c { s' with heap := h3 } → wpAny (model X.prog X.w) (X.A.mark (some (.ref a))) (eval (.Name x np) X.env) Q E { s' with heap := h3 } := fun {Q E} q => by
          obtain ⟨hg, hdbg, hm | ⟨hm, hv, hnn⟩⟩ := hc
          · exact ld_glob (X := X.suite a ((a, oe3) :: (X.pn ++ pins))) S3 hg hm q hdbg
          · exact ld_blt (X := X.suite a ((a, oe3) :: (X.pn ++ pins))) S3 hg hm hv q hnn hdbg
        refine test (LM.here ?_)
        cases b with
        | true =>
          refine codeAny_handlers_suite ?_
          refine HandSPX.lands_againZ fl3 fun h4 fl4 up4 => ?_
          have J4 : Inv X pins σ' H' { s' with heap := h4 } := J.landed nb fl4.1 ((up.trans up3).trans up4) os ag
          obtain ⟨oe4, vs4, he4, hz4, hd4⟩ := fl4.there
          have S4 := J4.suite he4 hd4 na nL nF
          refine wpAny_mono ((hsu a oe4 cls d (X.pn ++ pins) hz4 ⟨_, hd4⟩).run [] _ _ H' _ S4 (hyes rfl a na)) (fun f s6 hsp => ?_) (fun _ _ z => False.elim z)
          cases f with
          | next =>
            obtain ⟨σ6, H6, S6, q6⟩ := hsp
            exact ⟨_, _, S6.unsuite ok, q6⟩
          | brk =>
            obtain ⟨σ6, H6, S6, q6⟩ := hsp
            exact ⟨_, _, S6.unsuite ok, q6⟩
          | cont =>
            obtain ⟨σ6, H6, S6, q6⟩ := hsp
            exact ⟨_, _, S6.unsuite ok, q6⟩
          | ret u =>
            obtain ⟨v6, σ6, H6, S6, r6, q6⟩ := hsp
            exact ⟨_, _, _, S6.unsuite ok, r6, q6⟩
        | false =>
          show wpAny _ X.A (handleBy (.ref a) X.env hds2) _ _ _
          exact ih (hno rfl)
      | @named x n i c ts b₀ suite np pos' hds2 l2 hN hi hln hc hsu r ih =>
        intro w
        obtain ⟨b, hb1, hyes, hno⟩ := w
        have hloc : Loc X.env.scope n := .inl hln
        refine wpAny_handleBy_cons (codeAny_handlers_test ?_) (by intro q; cases q)
        have LT : PySem.W.Looks (model X.prog X.w) h3 (typeOf (.ref a)) cls := fun A Q E s k q => wpAny_typeOf_ref (k _ _ he3) (by rw [hz3.1]; exact q)
        have LM := PySem.W.exm_one (M := model X.prog X.w) (J3.kIn) LT hb1
        have test : ∀ {Q : Value → Shared → Prop} {E : Value → Shared → Prop}, Q c { s' with heap := h3 } → wpAny (model X.prog X.w) (X.A.mark (some (.ref a))) (eval (.Name x np) X.env) Q E { s' with heap := h3 } := fun {Q E} q => by
          obtain ⟨hg, hdbg, hm | ⟨hm, hv, hnn⟩⟩ := hc
          · exact ld_glob (X := X.suite a ((a, oe3) :: (X.pn ++ pins))) S3 hg hm q hdbg
          · exact ld_blt (X := X.suite a ((a, oe3) :: (X.pn ++ pins))) S3 hg hm hv q hnn hdbg
        refine test (LM.here ?_)
        cases b with
        | true =>
          refine codeAny_handlers_suite_as ?_
          refine HandSPX.lands_againZ fl3 fun h4 fl4 up4 => ?_
          have J4 : Inv X pins σ' H' { s' with heap := h4 } := J.landed nb fl4.1 ((up.trans up3).trans up4) os ag
          obtain ⟨oe4, vs4, he4, hz4, hd4⟩ := fl4.there
          have S4 := J4.suite he4 hd4 na nL nF
          refine store_ok (X := X.suite a ((a, oe4) :: (X.pn ++ pins))) (v := .ref a) S4 hN hi hloc rfl (fun s5 S5 => ?_) (.inr hln)
          refine wpAny_mono ((hsu a oe4 cls d (X.pn ++ pins) hz4 ⟨_, hd4⟩).run [] s5 _ H' _ S5 (hyes rfl a na)) (fun f s6 hsp => ?_) (fun _ _ z => False.elim z)
          have end_ : ∀ {σ6 : L2.St} {H6 : Hp} {Q : Shared → Prop}, Inv (X.suite a ((a, oe4) :: (X.pn ++ pins))) [] σ6 H6 s6 → (∀ s7, Inv X pins (σ6.set i none) H6 s7 → Q s7) →
              wpAny (model X.prog X.w) X.A (do bindName X.env n .none; unbindBehindTheSuite X.env n pos') (fun _ s7 => Q s7) X.xe s6 := fun {σ6 H6 Q} S6 hq => gone_ok (S6.unsuite ok) hN hi hln hq
          cases f with
          | next =>
            obtain ⟨σ6, H6, S6, q6⟩ := hsp
            exact end_ S6 fun s7 J7 => ⟨_, _, J7, q6⟩
          | brk =>
            obtain ⟨σ6, H6, S6, q6⟩ := hsp
            exact end_ S6 fun s7 J7 => ⟨_, _, J7, q6⟩
          | cont =>
            obtain ⟨σ6, H6, S6, q6⟩ := hsp
            exact end_ S6 fun s7 J7 => ⟨_, _, J7, q6⟩
          | ret u =>
            obtain ⟨v6, σ6, H6, S6, r6, q6⟩ := hsp
            exact end_ S6 fun s7 J7 => ⟨_, _, _, J7, r6, q6⟩
        | false =>
          show wpAny _ X.A (handleBy (.ref a) X.env hds2) _ _ _
          exact ih (hno rfl)
    exact go hh w
  · cases f with
    | next =>
      obtain ⟨σ', H', J', q⟩ := hsp
      exact wpAny_execs_nil ⟨σ', H', J'.ofTry ok, q⟩
    | brk =>
      obtain ⟨σ', H', J', q⟩ := hsp
      exact ⟨σ', H', J'.ofTry ok, q⟩
    | cont =>
      obtain ⟨σ', H', J', q⟩ := hsp
      exact ⟨σ', H', J'.ofTry ok, q⟩
    | ret u =>
      obtain ⟨v, σ', H', J', r, q⟩ := hsp
      exact ⟨v, σ', H', J'.ofTry ok, r, q⟩
end

theorem l_init1 {K : PySem.W.Frag} {f : Str} {vs : List V} {H : Hp} {Q : VK} {E : XK} (h : sp_init1 K f vs H Q E) : vs.length = 2 := by obtain ⟨_, _, _, rfl, _⟩ := h; rfl
theorem l_init2 {K : PySem.W.Frag} {f g : Str} {vs : List V} {H : Hp} {Q : VK} {E : XK} (h : sp_init2 K f g vs H Q E) : vs.length = 3 := by obtain ⟨_, _, _, _, rfl, _⟩ := h; rfl
/-- the base class of the errors -/
structure EBase (K : PySem.W.Frag) (mg : Str → Option Value) (x : Str) (N : Addr) : Prop where
  g : mg x = some (.ref N)
  s : PySem.W.specialIn K (.ref N) "__getattribute__" = some (some (.builtin "type.__getattribute__"))
  r : PySem.W.readsIn K N (.type "type") = true
  v : PySem.W.findCls K (.ref N) (.type "type") "__init__" = some (.val (.builtin "ValueError.__init__"))
theorem noX {P : Program} {w : World} {H : Hp} {s s' : Shared} {e : Value} (h : L2.CX P w [] H s (fun _ _ _ => False) e s') : False := by
  obtain ⟨_, _, _, _, _, _, _, _, _, _, _, _, z⟩ := h
  exact z.elim
/-- L2.walk_of, where the promise hangs on classes that the facts bring -/
theorem walk_ofE {l : PySem.W.OpenLaw} {n k : Nat} {q : Program} {loose : List Str} {XP : (Str → Option Value) → Heap → Prop} {YP : World → Heap → Prop} {d : DefRec} {K : Params → PySem.W.Frag} {CX : World → CXT} {sp : PySem.W.Frag → Kap → Sp} {x : Str}
    (hn : l.most = some n) (hn2 : n ≤ sizeLine) (hdf : d.params.defaults = []) (hr : Room k callerA)
    (hY : ∀ (w : World) (h : Heap), YP w h → (K w.params).In h)
    (F : ∀ (w : World) (mg : Str → Option Value) (fa : Addr) (h : Heap), (K w.params).In h → h.Ns mainGlobals mg → mg d.name = some (.ref fa) →
      ∃ (κ : Kap) (fd : FuncData), (∀ (s : Shared) (u : Value), BindsTo s fd ⟨[u], []⟩ [(x, u)]) ∧
        ∀ base : Heap, (K w.params).In base → base.Ns mainGlobals mg → FnOk l.prog w (K w.params) mg base (CX w) k fa fd [x] (sp (K w.params) κ))
    (hsp : ∀ (K : PySem.W.Frag) (κ : Kap) (H : Hp) (a : Addr) (ns : List Int), ns.length ≤ n → Only H → SqL K H a (ns.map V.int) → sp K κ [.ref a] H (fun v _ => v = .bl true) fun _ _ _ => False)
    (hCX : ∀ (w : World) (H : Hp) (s : Shared) (e : Value) (s' : Shared), CX w [] H s (fun _ _ _ => False) e s' → False) :
    PySem.W.WalkO q loose XP YP l.row.toRowW d [] (fun f vs => PySem.call f vs) := by
  refine Att.attach_call hn hdf fun w s₀ s₁ mg mb fa o pm cd doc a vs ns G Y ho hd hcd hmg hobj hints hlen hg => ?_
  have KX := hY w _ Y
  obtain ⟨κ, fd, hb, hF⟩ := F w mg fa _ KX G.T.g hmg
  exact law_call KX G.T.g G.T.b G.T.builtins G.T.nolimit hg hobj hints (Nat.le_trans hlen hn2) hr hF hb (fun H hO hS => hsp _ κ H a ns hlen hO hS) fun H e s' => hCX w H s₁ e s'
section
variable {D : Ends} {σ : L2.St} {H : Hp} {Q : VK} {K : PySem.W.Frag}
theorem x_try {tb : WX → TS} {Wout : WX} {l : List (Value × Option Nat × (Addr → Value → Option Addr → TS))} (h : tb (wMix K Wout D l) D σ H) : tTryMix K tb Wout l D σ H := h
theorem w_no {Wout : WX} {c : Value} {o : Option Nat} {ts : Addr → Value → Option Addr → TS} {r : List (Value × Option Nat × (Addr → Value → Option Addr → TS))} {cls : Value} {d : Option Addr} (e : PySem.W.exmOne K cls c = some false) (h : wMix K Wout D r cls d σ H) : wMix K Wout D ((c, o, ts) :: r) cls d σ H := by
  cases o with
  | none => exact ⟨false, e, (fun z => nomatch z), fun _ => h⟩
  | some i => exact ⟨false, e, (fun z => nomatch z), fun _ => h⟩
theorem w_bare {Wout : WX} {c : Value} {ts : Addr → Value → Option Addr → TS} {r : List (Value × Option Nat × (Addr → Value → Option Addr → TS))} {cls : Value} {d : Option Addr} (e : PySem.W.exmOne K cls c = some true) (h : ∀ a, H a = none → ts a cls d D σ H) : wMix K Wout D ((c, none, ts) :: r) cls d σ H :=
  ⟨true, e, (fun _ => h), (fun z => nomatch z)⟩
theorem w_named {Wout : WX} {c : Value} {i : Nat} {ts : Addr → Value → Option Addr → TS} {r : List (Value × Option Nat × (Addr → Value → Option Addr → TS))} {cls : Value} {d : Option Addr} (e : PySem.W.exmOne K cls c = some true)
    (h : ∀ a, H a = none → ts a cls d { nx := fun σ' H' => D.nx (σ'.set i none) H', rt := D.rt, bk := fun σ' H' => D.bk (σ'.set i none) H', ct := fun σ' H' => D.ct (σ'.set i none) H' } (σ.set i (some (.ref a))) H) : wMix K Wout D ((c, some i, ts) :: r) cls d σ H :=
  ⟨true, e, (fun _ => h), (fun z => nomatch z)⟩
theorem x_xf {a : Addr} {C dd : Addr} {fs : List (Str × V)} {f : Str} {v : V} {i : Nat} (hi : σ[i]? = some (some (.ref a))) (hd : H dd = some (.xd fs)) (l : fs.lookup f = some v) (h : Q v H) : tXf a (.ref C) (some dd) C f (tVar i) σ H Q :=
  ⟨.ref a, hi, rfl, rfl, dd, fs, v, rfl, hd, l, h⟩
theorem x_isX {a D' dd : Addr} {fs : List (Str × V)} {c : V} {cv : Value} {b : Bool} (C : ExcC K D') (hd : H dd = some (.xd fs)) (hc : ClsV c cv) (k : PySem.W.kitOne K (.ref D') cv = some b) (h : Q (.bl b) H) : rIsX K a (.ref D') (some dd) [.ref a, c] H Q :=
  ⟨D', c, cv, b, rfl, C, fun d' e => by cases e; exact ⟨fs, hd⟩, rfl, hc, k, h⟩
end
theorem tyX_same {K : PySem.W.Frag} {H H' : Hp} {v : V} {t : Value} (h : TyX K H v t) (s : Same H H') : TyX K H' v t := by
  cases h with
  | base h =>
    refine .base ?_
    cases h with
    | non => exact .non
    | bl x => exact .bl x
    | int x => exact .int x
    | str x => exact .str x
    | flt x => exact .flt x
    | lst e => exact .lst (s _ _ e)
    | frz e => exact .frz (s _ _ e)
    | tup e => exact .tup (s _ _ e)
    | dK e => exact .dK (s _ _ e)
    | dT e => exact .dT (s _ _ e)
    | ins e cl ha hn htk hm => exact .ins (s _ _ e) cl ha hn htk hm
  | byt b => exact .byt b
  | set e => exact .set (s _ _ e)
  | kList e c => exact .kList e c
  | kTuple e c => exact .kTuple e c
  | kDict e c => exact .kDict e c
  | fTuple e => exact .fTuple (s _ _ e)
  | fDict e => exact .fDict (s _ _ e)
theorem nv_kit_own {K : PySem.W.Frag} {D N : Addr} (hd : PySem.W.hasDictIn K N = true) (ht : PySem.W.typeIn K (.ref N) = some (.type "type")) (h : PySem.W.subIn K (.ref D) (.ref N) = some true) : PySem.W.kitOne K (.ref D) (.ref N) = some true := by
  unfold PySem.W.kitOne
  by_cases e : (Value.ref D == Value.ref N) = true
  · rw [if_pos e]
  · rw [if_neg e]
    obtain ⟨cd, hc, _⟩ := PySem.W.any_some hd
    have e2 : ((PySem.W.clsIn K N).isSome && PySem.W.typeIn K (.ref N) == some (.type "type")) = true := by rw [hc, ht] <;> rfl
    show (if ((PySem.W.clsIn K N).isSome && PySem.W.typeIn K (.ref N) == some (.type "type")) = true then PySem.W.subIn K (.ref D) (.ref N) else none) = some true
    rw [if_pos e2]
    exact h
theorem nv_kit_ty {K : PySem.W.Frag} {D : Addr} {T : String} (hm : PySem.W.kitMeta T = true) (h : PySem.W.subIn K (.ref D) (.type T) = some true) : PySem.W.kitOne K (.ref D) (.type T) = some true := by
  unfold PySem.W.kitOne
  rw [if_neg (show ¬ (Value.ref D == Value.type T) = true from Bool.false_ne_true)]
  show (if PySem.W.kitMeta T = true then PySem.W.subIn K (.ref D) (.type T) else none) = some true
  rw [if_pos hm]
  exact h
end Nv

/-! ### own classes: methods, operators, looks -/
namespace PySem.W
open PySem PySem.Spec PySem.Calls PyProof.Rows Builtin
section
variable {prog : Program} {w : World} {A : Around} {E : Value → Shared → Prop} {s : Shared} {K : Frag} {x y C f : Addr} {ox oy : Obj} {od : Option Obj}
/-- x != y by an own __eq__, object's __ne__ -/
theorem nv_ne {Q : Value → Shared → Prop} (hu : A.units + 1 < cLine) (X : K.In s.heap) (I : InstAt s.heap x ox C od) (hb : Looks (model prog w) s.heap (typeOf (.ref y)) (.ref C))
    (hn : findIn K (.ref C) "__ne__" = some (some (.builtin "object.__ne__"))) (hs : findIn K (.ref C) "__eq__" = some (some (.ref f))) (hf : isFn K (.ref f) = true) (ho : subIn K (.ref C) (.type "object") = some true)
    (h : wpAny (model prog w) A.in1 (call (.ref f) [.ref x, .ref y]) (fun v s' => ∃ b, v = .bool b ∧ Q (.bool (!b)) s') E s) : wpAny (model prog w) A (richCompare .NotEq (.ref x) (.ref y)) Q E s := by
  have hent : wpAny (model prog w) A.in1 (Builtin.«object.__ne__» ⟨[.ref x, .ref y], []⟩) (fun fin s' => ∃ b, fin = .done (.ret (.bool b)) ∧ Q (.bool b) s') E s := by
    unfold Builtin.«object.__ne__»
    repeat (first
      | with_reducible refine wpAny_cRoomFor (show A.in1.units < cLine from hu) ?_
      | (refine wpAny_bind (m := callSpecialIfBound? (.ref x) (Str.ofString "__eq__") [.ref y])
          (ifBound_K X I hs hf (wpAny_mono h (fun r s' hr => by
            obtain ⟨b, rfl, hq⟩ := hr
            repeat (first | exact ⟨_, rfl, hq⟩ | exact wpAny_pure ⟨_, rfl, hq⟩ | exact wpAny_truthy_bool ⟨_, rfl, hq⟩ | (refine wpAny_bind (m := truthy (.bool _)) (wpAny_truthy_bool ?_)) | wp_step)) fun _ _ e => e)))
      | wp_step)
  have L0 := I.type (M := model prog w)
  have L2 := looks_findIn (M := model prog w) X hn
  have sub : Looks (model prog w) s.heap (isInstance (.ref x) (.type "object")) true := L0.andThen (looks_subIn X ho)
  have one : wpAny (model prog w) A (tryCompare (.ref x) "__ne__" (.ref y)) (fun r s' => ∃ v, r = some v ∧ Q v s') E s := by
    simp only [tryCompare]
    have hcall : wpAny (model prog w) A (call (.builtin "object.__ne__") [.ref x, .ref y]) (fun v s' => ∃ b, v = .bool b ∧ Q (.bool b) s') E s := by
      refine wpAny_call (codeAny_call_builtin F.cmp_object.ne.plain F.cmpEntry_ne ?_)
      refine @check_slot (model prog w) _ _ s "object.__ne__" "object" "__ne__" (.ref x) [.ref y] [] _ F.cmpKind_ne F.cmpSplit_ne sub (F.cmpArgs_ne _ _) ?_
      refine wpAny_mono hent (fun fin s' hr => ?_) fun _ _ e => e
      obtain ⟨b, rfl, hq⟩ := hr
      exact ⟨b, rfl, hq⟩
    have fin : wpAny (model prog w) A (call (.builtin "object.__ne__") ([.ref x] ++ [.ref y]) >>= fun v => pure (some v)) (fun r s' => ∃ b, r = some (.bool b) ∧ Q (.bool b) s') E s :=
      wpAny_bind (wpAny_mono hcall (fun v s' h' => by obtain ⟨b, rfl, hq⟩ := h'; exact wpAny_pure ⟨b, rfl, hq⟩) fun _ _ h' => h')
    have st : wpAny (model prog w) A (callSpecialIfBound? (.ref x) "__ne__" [.ref y]) (fun r s' => ∃ b, r = some (.bool b) ∧ Q (.bool b) s') E s := by
      simp only [callSpecialIfBound?, bindSpecialIfBound?]
      refine wpAny_holding (wpAny_bind (wpAny_bind (wpAny_bind (L0.at (L2.at ?_)))))
      simp only [F.cmp_object.ne.bind]
      refine wpAny_bind (wpAny_askSetting (wpAny_ite ?_))
      split
      · exact wpAny_bind (wpAny_pure (wpAny_pure fin))
      · exact wpAny_tryCatch (wpAny_bind (wpAny_pure (wpAny_pure fin)))
    refine wpAny_bind (wpAny_mono st (fun r s' hr => ?_) fun _ _ e => e)
    obtain ⟨b, rfl, hq⟩ := hr
    exact wpAny_pure ⟨_, rfl, hq⟩
  unfold richCompare
  simp only [oneThing_ref]
  refine wpAny_holding ?_
  refine wpAny_bind (wpAny_cRoomFor (Nat.lt_of_succ_lt hu) ?_)
  rw [cmpInfo_NotEq]
  dsimp only
  refine wpAny_bind (L0.at (wpAny_bind (hb.here ?_)))
  rw [show (Value.ref C != Value.ref C) = false from by simp]
  simp only [Bool.false_eq_true, if_false]
  refine wpAny_bind (wpAny_pure ?_)
  simp only [Bool.false_eq_true, if_false]
  refine wpAny_bind (wpAny_mono one (fun r s' hr => ?_) fun _ _ e => e)
  obtain ⟨v, rfl, hq⟩ := hr
  exact wpAny_pure hq
/-- bool(x) of an own __bool__ -/
theorem nv_bool {Q : Value → Shared → Prop} (X : K.In s.heap) (I : InstAt s.heap x ox C od) (hs : findIn K (.ref C) "__bool__" = some (some (.ref f))) (hf : isFn K (.ref f) = true)
    (h : wpAny (model prog w) A.in1.in1 (call (.ref f) [.ref x]) (fun r s₁ => ∃ b, r = Value.bool b ∧ Q r s₁) E s) : wpAny (model prog w) A (call (.type "bool") [.ref x]) Q E s := by
  refine callType_codes (T := "bool") (Bi := Builtin.«object.__init__») (Q₁ := fun r s₁ => ∃ b, r = Value.bool b ∧ Q r s₁) PySem.F.called_bool (PySem.F.typeCall_bool_1 _) PySem.F.entry_object_init ?_ ?_
  · refine codeAny_of_tree ?_
    show wpAny _ A.in1.in1 (do checkBuiltinCall "bool.__new__" ⟨[.type "bool", .ref x], []⟩; again (.builtin "bool.__new__" ⟨[.type "bool", .ref x], []⟩)) _ _ s
    refine wpAny_bind (wpAny_of_eq (PySem.F.newCall_bool_1 _) (wpAny_pure ⟨plainId_quiet (by decide +kernel) _, codeAny_builtin PySem.F.entry_bool_new ?_⟩))
    rw [Around.under_plainId (by decide +kernel) _]
    have tr : ∀ {Q' : Bool → Shared → Prop}, (∀ b s₁, Q (.bool b) s₁ → Q' b s₁) → wpAny (model prog w) A.in1.in1 (truthy (.ref x)) Q' E s := fun hq => by
      unfold truthy
      refine wpAny_bind (m := callSpecial? (.ref x) (Str.ofString "__bool__")) (special_fn X I hs (beq_iff_eq.mp hf) (wpAny_mono h (fun r s' hr => ?_) fun _ _ y => y))
      obtain ⟨b, rfl, q⟩ := hr
      exact wpAny_pure (hq b s' q)
    have f1 := PySem.F.conv_sub_bool
    unfold Builtin.«bool.__new__»
    repeat (any_goals (first | assumption | (with_reducible refine wpAny_bind (tr fun b s₁ q => ?_)) | (with_reducible refine tr fun b s₁ q => ?_) | wp_step))
    all_goals first | exact ⟨_, rfl, by assumption⟩ | exact ⟨_, rfl, _, rfl, by assumption⟩ | skip
  · rintro obj s₁ ⟨b, rfl, hq⟩
    exact ⟨typeIs_bool _ _, PySem.F.args_object_init_2 _ _, object_init_meets PySem.F.called_bool.init.lookup PySem.F.called_bool.made (by decide) prog w A.in1 _ s₁ ⟨typeIs_bool _ _, rfl, hq⟩⟩
end
end PySem.W
namespace Nv
open PySem PySem.Spec PyProof.Rows L2 ClX
/-- the built-in types of values -/
def flatT : List String := ["NoneType", "bool", "int", "str", "list", "tuple", "dict"]
abbrev nE : XK := fun _ _ _ => False
abbrev noW : WX := fun _ _ _ _ => False
theorem tkN {X : Cx} : Takes X noW := fun u s' ⟨_, _, _, _, _, _, _, _, _, _, _, _, _, _, _, _, w⟩ => w.elim
theorem pass_nE {X : Cx} : Passes (L2.CX X.prog X.w) X nE := fun pins σ H s e s' I c => passAt (W := noW) tkN σ pins H s e s' I c
/-- what the written part says of an own class -/
structure OCls (K : PySem.W.Frag) (mg : Str → Option Value) (x : Str) (C : Addr) : Prop where
  g : mg x = some (.ref C)
  c : Cls K C
  ca : PySem.W.findIn K (.ref C) "__class__" = some (some (.builtin "object.__class__"))
  cn : PySem.W.specialIn K (.builtin "object.__class__") "__get__" = some (some (.builtin "getset_descriptor.__get__"))
  ct : PySem.W.takesIn K (.builtin "object.__class__") = some true
  cm : PySem.W.mroIn K C (.type "object") = some true
  rd : CRead K C (.type "type")
  tC : PySem.W.typeIn K (.ref C) = some (.type "type")
  cl : (PySem.W.clsIn K C).isSome = true
theorem OCls.ty {K : PySem.W.Frag} {mg : Str → Option Value} {x : Str} {C a dx : Addr} {H : Hp} {fs : List (Str × V)} (o : OCls K mg x C) (e : H a = some (.ins C dx fs)) : TyX K H (.ref a) (.ref C) := .base (.ins e o.c o.ca o.cn o.ct o.cm)
/-- a def of a class -/
structure MCal (P : Program) (w : World) (K : PySem.W.Frag) (mg : Str → Option Value) (base : Heap) (k : Nat) (C : Addr) (m : Str) (ps : List Str) (dvs : List V) (sp : Sp) : Prop where
  ex : ∃ (f : Addr) (fd : FuncData) (ds : List Value), FnOk P w K mg base (L2.CX P w) k f fd ps sp ∧ Meth K C m f ∧ Binds K fd ps ds ∧ Vals dvs ds
/-- a def's making of an instance -/
structure ICal (P : Program) (w : World) (K : PySem.W.Frag) (mg : Str → Option Value) (base : Heap) (k : Nat) (C : Addr) (ps : List Str) (dvs : List V) (sp : Sp) : Prop where
  ex : ∃ (f : Addr) (fd : FuncData) (ds : List Value), FnOk P w K mg base (L2.CX P w) k f fd ps sp ∧ Mk K C f ∧ Binds K fd ps ds ∧ Vals dvs ds
/-- a property -/
structure PCal (P : Program) (w : World) (K : PySem.W.Frag) (mg : Str → Option Value) (base : Heap) (k : Nat) (C : Addr) (m : Str) (ps : List Str) (sp : Sp) : Prop where
  ex : ∃ (p f : Addr) (fd : FuncData), FnOk P w K mg base (L2.CX P w) k f fd ps sp ∧ PropOf K C m p f ∧ Binds K fd ps []
/-- a classmethod -/
structure KCal (P : Program) (w : World) (K : PySem.W.Frag) (mg : Str → Option Value) (base : Heap) (k : Nat) (C : Addr) (m : Str) (ps : List Str) (sp : Sp) : Prop where
  ex : ∃ (p f : Addr) (fd : FuncData), FnOk P w K mg base (L2.CX P w) k f fd ps sp ∧ CMet K C (.type "type") m p f ∧ Binds K fd ps []
/-- a staticmethod -/
structure SCal (P : Program) (w : World) (K : PySem.W.Frag) (mg : Str → Option Value) (base : Heap) (k : Nat) (C : Addr) (m : Str) (ps : List Str) (sp : Sp) : Prop where
  ex : ∃ (p f : Addr) (fd : FuncData), FnOk P w K mg base (L2.CX P w) k f fd ps sp ∧ PySem.W.findCls K (.ref C) (.type "type") m = some (.get (.builtin "staticmethod.__get__") (.ref p) .none (.ref C)) ∧
    (∃ rest, PySem.W.recIn K p "staticmethod" = some (.ref f :: rest)) ∧ PySem.W.keepIn K (.ref f) = true ∧ Binds K fd ps []
/-- a def with defaults -/
structure DCal (P : Program) (w : World) (K : PySem.W.Frag) (mg : Str → Option Value) (base : Heap) (k : Nat) (x : Str) (ps : List Str) (dvs : List V) (sp : Sp) : Prop where
  ex : ∃ (f : Addr) (fd : FuncData) (ds : List Value), FnOk P w K mg base (L2.CX P w) k f fd ps sp ∧ mg x = some (.ref f) ∧ PySem.W.keepIn K (.ref f) = true ∧ Binds K fd ps ds ∧ Vals dvs ds
/-! ### fields -/
def tFldN (Cs : List Addr) (ta : TE) (f : Str) : TE := fun σ H Q => ta σ H fun x H1 => ∃ a C dx fs v, x = .ref a ∧ C ∈ Cs ∧ H1 a = some (.ins C dx fs) ∧ fs.lookup f = some v ∧ Q v H1
def gFldN (Cs : List Addr) (ta : TE) (f : Str) : TG := fun y σ H Q => ta σ H fun x H1 => ∃ a C dx fs, x = .ref a ∧ C ∈ Cs ∧ H1 a = some (.ins C dx fs) ∧ fs.length < 1000 ∧ Q σ (upd H1 a (.ins C dx (putF f y fs)))
def sFldN (Cs : List Addr) (ta tv : TE) (f : Str) : TS := fun D σ H => tv σ H fun y H1 => ta σ H1 fun x H2 => ∃ a C dx fs, x = .ref a ∧ C ∈ Cs ∧ H2 a = some (.ins C dx fs) ∧ fs.length < 1000 ∧ D.nx σ (upd H2 a (.ins C dx (putF f y fs)))
/-- what an own class and a field's name must be -/
def FldOk (K : PySem.W.Frag) (f : Str) (Cs : List Addr) : Prop := ∀ C ∈ Cs, Cls K C ∧ NoAttr K C f
theorem fldOk1 {K : PySem.W.Frag} {f : Str} {C : Addr} (c : Cls K C) (n : NoAttr K C f) : FldOk K f [C] := fun D hD => by
  have e : D = C := by simpa using hD
  rw [e]
  exact ⟨c, n⟩
theorem fldOkC {K : PySem.W.Frag} {f : Str} {C : Addr} {Cs : List Addr} (c : Cls K C) (n : NoAttr K C f) (r : FldOk K f Cs) : FldOk K f (C :: Cs) := fun D hD => by
  rcases List.mem_cons.mp hD with e | e
  · rw [e]; exact ⟨c, n⟩
  · exact r D e
section
variable {X : Cx} {o e value : Expr} {f : Str} {pos pos' tpos : Pos} {ta tv : TE} {Cs : List Addr}
theorem pe_fldN (hC : FldOk X.K f Cs) (he : PE X e ta) (hb : attributeBase e f X.env (eval e X.env) = eval e X.env := by rfl) : PE X (.Attribute e f pos) (tFldN Cs ta f) := by
  refine ⟨fun pins s σ H Q I h => ?_⟩
  refine attr_of hb (thn (he.run pins s σ H _ I h) fun u s1 ⟨x, H1, I1, rx, a, C, dx, fs, v, ex, hm, ea, l, q⟩ => ?_)
  subst ex
  obtain rfl : u = Value.ref a := rx
  exact getattr_ok I1 ea (hC C hm).1 (hC C hm).2 l fun u' s2 I2 ru => ⟨v, H1, I2, ru, q⟩
theorem ps_fldN (hC : FldOk X.K f Cs) (ha : PE X o ta) (hv : PE X value tv) (hs : swapsWith value (some (.Attribute o f pos')) pos.line X.env = pure false := by rfl) : PS X (.Assign [.Attribute o f pos'] value pos) (sFldN Cs ta tv f) := by
  refine ⟨fun pins s σ H D I h => ?_⟩
  refine plainObj_wpAny_Assign_Attribute (thn (hv.run pins s σ H _ I h) fun u s1 ⟨y, H1, I1, ry, q⟩ => thn (ha.run pins s1 σ H1 _ I1 q) fun ov s2 ⟨x, H2, I2, rx, a, C, dx, fs, ex, hm, ea, l, q2⟩ => ?_) hs
  subst ex
  obtain rfl : ov = Value.ref a := rx
  exact setattr_ok I2 ea (hC C hm).1 (hC C hm).2 l ry fun s3 I3 => ⟨σ, _, I3, q2⟩
end
section
variable {D : Ends} {σ : L2.St} {H : Hp} {Q : VK} {f : Str}
theorem x_fldN {Cs : List Addr} {ta : TE} (h : ta σ H fun x H1 => ∃ a C dx fs v, x = .ref a ∧ C ∈ Cs ∧ H1 a = some (.ins C dx fs) ∧ fs.lookup f = some v ∧ Q v H1) : tFldN Cs ta f σ H Q := h
theorem x_sFldN {Cs : List Addr} {ta tv : TE} (h : tv σ H fun y H1 => ta σ H1 fun x H2 => ∃ a C dx fs, x = .ref a ∧ C ∈ Cs ∧ H2 a = some (.ins C dx fs) ∧ fs.length < 1000 ∧ D.nx σ (upd H2 a (.ins C dx (putF f y fs)))) : sFldN Cs ta tv f D σ H := h
theorem x_at {Cs : List Addr} {a C dx : Addr} {fs : List (Str × V)} {v : V} {R : V → Prop} (m : C ∈ Cs) (e : H a = some (.ins C dx fs)) (l : fs.lookup f = some v) (h : R v) : ∃ a' C dx fs v, V.ref a = .ref a' ∧ C ∈ Cs ∧ H a' = some (.ins C dx fs) ∧ fs.lookup f = some v ∧ R v := ⟨a, C, dx, fs, v, rfl, m, e, l, h⟩
theorem x_put {Cs : List Addr} {a C dx : Addr} {fs : List (Str × V)} {R : Addr → Addr → Addr → List (Str × V) → Prop} (m : C ∈ Cs) (e : H a = some (.ins C dx fs)) (l : fs.length < 1000) (h : R a C dx fs) : ∃ a' C dx fs, V.ref a = .ref a' ∧ C ∈ Cs ∧ H a' = some (.ins C dx fs) ∧ fs.length < 1000 ∧ R a' C dx fs := ⟨a, C, dx, fs, rfl, m, e, l, h⟩
end
/-! ### calls -/
def tMethW (C : Addr) (m : Str) (sp : Sp) (dvs : List V) (E : L2.St → XK) (ta : TE) (t : TA) : TE := fun σ H Q => ta σ H fun x H1 => ∃ a dx fs, x = .ref a ∧ H1 a = some (.ins C dx fs) ∧ fs.lookup m = none ∧ t σ H1 fun vs H2 => sp (x :: (vs ++ dvs)) H2 Q (E σ)
def tMakeW (C : Addr) (sp : Sp) (dvs : List V) (E : L2.St → XK) (t : TA) : TE := fun σ H Q => t σ H fun vs H1 => ∀ x dx, H1 x = none → H1 dx = none → dx ≠ x →
  sp (.ref x :: (vs ++ dvs)) (upd (upd H1 dx (.own x)) x (.ins C dx [])) (fun v H2 => v = .non ∧ Q (.ref x) H2) (E σ)
def tKMeth (C : Addr) (sp : Sp) (E : L2.St → XK) (t : TA) : TE := fun σ H Q => t σ H fun vs H1 => sp (.ref C :: vs) H1 Q (E σ)
section
variable {X : Cx} {k : Nat} {f C : Addr} {ps : List Str} {sp : Sp} {dvs : List V} {W : WX} {x m : Str} {p pos apos : Pos} {e o : Expr} {es : List Expr} {ta : TE} {t : TA} {pl : Sem Bool}
theorem pe_mcal (M : MCal X.prog X.w X.K X.mg X.base k C m ps dvs sp) (c : Cls X.K C) (hr : Room k X.A) (tk : Takes X W) (he : PE X o ta) (ha : PA X (e :: es) t)
    (hst : starEach (e :: es) X.env = (false, eval e X.env) :: starEach es X.env := by rfl) (hpl : (backTo pos (starEach es X.env)).any (·.1) = false := by rfl)
    (ht : eval (.Call (.Attribute o m apos) (e :: es) [] pos) X.env = (do
      let ov ← eval o X.env
      standAt apos.atName
      let (f, first) ← holding [ov] (getMethod ov m pl)
      callWith pos f first (backTo pos (starEach (e :: es) X.env)) (backToKw pos (keywordEach [] X.env))) := by rfl) :
    PE X (.Call (.Attribute o m apos) (e :: es) [] pos) (tMethW C m sp dvs (WE W) ta t) := by
  obtain ⟨f, fd, ds, F, hm, hb, hd⟩ := M.ex
  refine ⟨fun pins s σ H Q I h => ?_⟩
  refine PySem.W.methodCall_KW (pl := pl) (thn (he.run pins s σ H _ I h) fun u s1 ⟨x, H1, I1, rx, a, dx, fs, ex, ea, l, q⟩ => ?_) ht
  subst ex
  obtain rfl : u = Value.ref a := rx
  refine getmeth_ok I1 ea c hm l ?_
  refine PySem.W.callWith_K (first := [.ref a]) (h₀ := X.base) I.ok.mod.kin hm.kp (thn (ha.run pos pins s1 σ H1 _ I1 q) fun us s2 ⟨vs, H2, I2, r, q2⟩ => ⟨I2.kIn, ?_⟩) hst hpl
  exact run_fnSD (us := .ref a :: us) (vs := .ref a :: vs) F hr hb hd (passAt tk σ) I2 (.cons rfl r) q2
theorem pe_mcal0 (M : MCal X.prog X.w X.K X.mg X.base k C m ps dvs sp) (c : Cls X.K C) (hr : Room k X.A) (tk : Takes X W) (he : PE X o ta)
    (ht : eval (.Call (.Attribute o m apos) [] [] pos) X.env = (do
      let ov ← eval o X.env
      standAt apos.atName
      let (f, first) ← holding [ov] (getMethod ov m pl)
      callWith pos f first (backTo pos (starEach [] X.env)) (backToKw pos (keywordEach [] X.env))) := by rfl) :
    PE X (.Call (.Attribute o m apos) [] [] pos) (tMethW C m sp dvs (WE W) ta tNil) := by
  obtain ⟨f, fd, ds, F, hm, hb, hd⟩ := M.ex
  refine ⟨fun pins s σ H Q I h => ?_⟩
  refine PySem.W.methodCall_KW (pl := pl) (thn (he.run pins s σ H _ I h) fun u s1 ⟨x, H1, I1, rx, a, dx, fs, ex, ea, l, q⟩ => ?_) ht
  subst ex
  obtain rfl : u = Value.ref a := rx
  refine getmeth_ok I1 ea c hm l ?_
  exact PySem.W.callWith_K0 (first := [.ref a]) I1.kIn hm.kp (run_fnSD (us := [.ref a]) (vs := [.ref a]) F hr hb hd (passAt tk σ) I1 (.cons rfl .nil) q)
theorem run_makeW {CX : CXT} {fd : FuncData} {ds : List Value} {pins : List (Addr × Obj)} {σ : L2.St} {H : Hp} {s : Shared} {Q : VK} {E : XK} {us : List Value} {vs : List V} (M : Mk X.K C f) (F : FnOk X.prog X.w X.K X.mg X.base CX k f fd ps sp) (hr : Room (k + 1) X.A) (hb : Binds X.K fd ps ds) (hd : Vals dvs ds)
    (hx : PassesAt CX X σ E) (I : Inv X pins σ H s) (r : Vals vs us)
    (h : ∀ x dx, H x = none → H dx = none → dx ≠ x → sp (.ref x :: (vs ++ dvs)) (upd (upd H dx (.own x)) x (.ins C dx [])) (fun v H2 => v = .non ∧ Q (.ref x) H2) E) :
    wpAny (model X.prog X.w) X.A (call (.ref C) us) (EP X pins σ Q) X.xe s := by
  have hq := h (s.heap.objs.size + 1) s.heap.objs.size (I.hok.fresh (Nat.le_succ _)) (I.hok.fresh (Nat.le_refl _)) (Nat.ne_of_lt (Nat.lt_succ_self _))
  have I2 := Inv.made (C := C) I
  have r2 : Vals (V.ref (s.heap.objs.size + 1) :: (vs ++ dvs)) (Value.ref (s.heap.objs.size + 1) :: (us ++ ds)) := .cons rfl (r.append hd)
  have hl : (Value.ref (s.heap.objs.size + 1) :: us ++ ds).length = ps.length := by
    have e := r2.length
    rw [F.len _ _ _ _ hq] at e
    exact e.symm
  refine wpAny_call (make_map (f := f) I.kIn M.makes M.init (beq_iff_eq.mp M.fn) (codeAny_mono (F.run _ X.stack _ _ ⟨Value.ref (s.heap.objs.size + 1) :: us, []⟩ (Value.ref (s.heap.objs.size + 1) :: (us ++ ds)) _ _ E (hr.make C us [])
    (I2.env0.make C us []) (hb _ (Value.ref (s.heap.objs.size + 1) :: us) I2.kIn hl) r2 hq) fun r s' hq' => ?_))
  cases r with
  | error e => exact hx pins _ _ e s' I2 hq'
  | ok fl =>
    cases fl with
    | ret u =>
      obtain ⟨v, H', I3, rv, ev, q3⟩ := I2.after hq'
      subst ev
      exact ⟨rv, ⟨V.ref (s.heap.objs.size + 1), H', I3, rfl, q3⟩⟩
    | next => exact False.elim hq'
    | brk => exact False.elim hq'
    | cont => exact False.elim hq'
theorem pe_ical (M : ICal X.prog X.w X.K X.mg X.base k C ps dvs sp) (hm : X.mg x = some (.ref C)) (hr : Room (k + 1) X.A) (tk : Takes X W) (hg : Gl X x) (ha : PA X (e :: es) t)
    (hdb : (x == ("__debug__" : Str)) = false := by decide) (he : starEach (e :: es) X.env = (false, eval e X.env) :: starEach es X.env := by rfl) (hpl : (backTo pos (starEach es X.env)).any (·.1) = false := by rfl) :
    PE X (.Call (.Name x p) (e :: es) [] pos) (tMakeW C sp dvs (WE W) t) := by
  obtain ⟨f, fd, ds, F, hM, hb, hd⟩ := M.ex
  refine ⟨fun pins s σ H Q I h => ?_⟩
  refine wpAny_Call_Name_kw (ld_glob I hg hm ?_ hdb)
  refine PySem.W.callWith_K (h₀ := X.base) I.ok.mod.kin hM.kp (thn (ha.run pos pins s σ H _ I h) fun us s1 ⟨vs, H1, I1, r, q⟩ => ⟨I1.kIn, ?_⟩) he hpl
  exact run_makeW hM F hr hb hd (passAt tk σ) I1 r q
theorem pe_ical0 (M : ICal X.prog X.w X.K X.mg X.base k C ps dvs sp) (hm : X.mg x = some (.ref C)) (hr : Room (k + 1) X.A) (tk : Takes X W) (hg : Gl X x)
    (hdb : (x == ("__debug__" : Str)) = false := by decide) : PE X (.Call (.Name x p) [] [] pos) (tMakeW C sp dvs (WE W) tNil) := by
  obtain ⟨f, fd, ds, F, hM, hb, hd⟩ := M.ex
  refine ⟨fun pins s σ H Q I h => ?_⟩
  refine wpAny_Call_Name_kw (ld_glob I hg hm ?_ hdb)
  exact PySem.W.callWith_K0 I.kIn hM.kp (run_makeW (us := []) hM F hr hb hd (passAt tk σ) I .nil h)
/-- C.m(e, ..), m a staticmethod of the class named x -/
theorem pe_scal (M : SCal X.prog X.w X.K X.mg X.base k C m ps sp) (r : CRead X.K C (.type "type")) (hm : X.mg x = some (.ref C)) (hr : Room k X.A) (tk : Takes X W) (hg : Gl X x) (ha : PA X (e :: es) t)
    (hdb : (x == ("__debug__" : Str)) = false := by decide)
    (hst : starEach (e :: es) X.env = (false, eval e X.env) :: starEach es X.env := by rfl) (hpl : (backTo pos (starEach es X.env)).any (·.1) = false := by rfl)
    (ht : eval (.Call (.Attribute (.Name x p) m apos) (e :: es) [] pos) X.env = (do
      let ov ← eval (.Name x p) X.env
      standAt apos.atName
      let (f, first) ← holding [ov] (getMethod ov m pl)
      callWith pos f first (backTo pos (starEach (e :: es) X.env)) (backToKw pos (keywordEach [] X.env))) := by rfl) :
    PE X (.Call (.Attribute (.Name x p) m apos) (e :: es) [] pos) (tCallS sp (WE W) t) := by
  obtain ⟨q0, f, fd, F, hf, ⟨rest, hrec⟩, hk, hb⟩ := M.ex
  refine ⟨fun pins s σ H Q I h => ?_⟩
  refine PySem.W.methodCall_KW (pl := pl) (thn ((pe_glob (v := .ref C) (u := .ref C) hg hm rfl hdb).run pins s σ H (fun v H1 => v = .ref C ∧ t σ H1 fun vs H2 => sp vs H2 Q (WE W σ)) I ⟨rfl, h⟩) fun u s1 ⟨v, H1, I1, rx, ex, q⟩ => ?_) ht
  subst ex
  obtain rfl : u = Value.ref C := rx
  refine PySem.W.method_cls I1.kIn r.ga ?_
  refine PySem.W.cls_bind I1.kIn r.rd hf (wpAny_call (PySem.W.sm_get (s := { s1 with toks := s1.toks + 1 }) I1.kIn hrec (PySem.W.handed_on rfl ?_)))
  have I2 : Inv X pins σ H1 { s1 with toks := s1.toks + 1 } := I1.tok _
  refine PySem.W.callWith_K (h₀ := X.base) I.ok.mod.kin hk (thn (ha.run pos pins _ σ H1 _ I2 q) fun us s2 ⟨vs, H2, I3, rv, q2⟩ => ⟨I3.kIn, ?_⟩) hst hpl
  exact run_fnS F hr hb (passAt tk σ) I3 rv q2
/-- C.m(e, ..), m a classmethod -/
theorem pe_kcal (M : KCal X.prog X.w X.K X.mg X.base k C m ps sp) (r : CRead X.K C (.type "type")) (hm : X.mg x = some (.ref C)) (hr : Room k X.A) (tk : Takes X W) (hg : Gl X x) (ha : PA X (e :: es) t)
    (hdb : (x == ("__debug__" : Str)) = false := by decide)
    (hst : starEach (e :: es) X.env = (false, eval e X.env) :: starEach es X.env := by rfl) (hpl : (backTo pos (starEach es X.env)).any (·.1) = false := by rfl)
    (ht : eval (.Call (.Attribute (.Name x p) m apos) (e :: es) [] pos) X.env = (do
      let ov ← eval (.Name x p) X.env
      standAt apos.atName
      let (f, first) ← holding [ov] (getMethod ov m pl)
      callWith pos f first (backTo pos (starEach (e :: es) X.env)) (backToKw pos (keywordEach [] X.env))) := by rfl) :
    PE X (.Call (.Attribute (.Name x p) m apos) (e :: es) [] pos) (tKMeth C sp (WE W) t) := by
  obtain ⟨q0, f, fd, F, cm, hb⟩ := M.ex
  refine ⟨fun pins s σ H Q I h => ?_⟩
  refine PySem.W.methodCall_KW (pl := pl) (thn ((pe_glob (v := .ref C) (u := .ref C) hg hm rfl hdb).run pins s σ H (fun v H1 => v = .ref C ∧ t σ H1 fun vs H2 => sp (.ref C :: vs) H2 Q (WE W σ)) I ⟨rfl, h⟩) fun u s1 ⟨v, H1, I1, rx, ex, q⟩ => ?_) ht
  subst ex
  obtain rfl : u = Value.ref C := rx
  refine getmethcm_ok I1 r cm fun s2 I2 => ?_
  refine callwith_cm I2 (base_none I1 (Nat.le_refl _)) cm.fi (thn (ha.run pos _ s2 σ H1 _ I2 q) fun us s3 ⟨vs, H2, I3, rv, q2⟩ => ⟨⟨pin_at I3, I3.kIn⟩, ?_⟩) hst hpl
  refine thn (Q := EP X ((s1.heap.objs.size, PySem.W.methodObj (.ref f) (.ref C)) :: pins) σ Q) (wpAny_call (PySem.W.method_call (pin_at I3) ?_)) fun _ _ y => unpinE y
  have hl : (Value.ref C :: us).length = ps.length := by rw [← (show Vals (V.ref C :: vs) (Value.ref C :: us) from .cons rfl rv).length]; exact F.len _ _ _ _ q2
  have b := hb s3 (.ref C :: us) I3.kIn (by rw [List.append_nil]; exact hl)
  rw [List.append_nil] at b
  refine codeAny_mono (F.run X.A X.stack s3 H2 ⟨.ref C :: us, []⟩ (.ref C :: us) (.ref C :: vs) Q (WE W σ) hr I3.env0 b (.cons rfl rv) q2) fun rr s' hq => ?_
  cases rr with
  | error e => exact passAt tk σ _ H2 s3 e s' I3 hq
  | ok fl =>
    cases fl with
    | ret u => exact I3.after hq
    | next => exact False.elim hq
    | brk => exact False.elim hq
    | cont => exact False.elim hq
theorem pe_dcal (M : DCal X.prog X.w X.K X.mg X.base k x ps dvs sp) (hr : Room k X.A) (tk : Takes X W) (hg : Gl X x) (ha : PA X (e :: es) t)
    (hdb : (x == ("__debug__" : Str)) = false := by decide) (he : starEach (e :: es) X.env = (false, eval e X.env) :: starEach es X.env := by rfl) (hpl : (backTo pos (starEach es X.env)).any (·.1) = false := by rfl) :
    PE X (.Call (.Name x p) (e :: es) [] pos) (tCallSD sp dvs (WE W) t) := by
  obtain ⟨f, fd, ds, F, hm, hk, hb, hd⟩ := M.ex
  exact pe_callSD F hr hg hm hk hb hd (fun σ => passAt tk σ) ha hdb he hpl
/-- x() of a def -/
theorem pe_cal0 (C : Cal X.prog X.w X.K X.mg X.base k x ps sp) (hr : Room k X.A) (tk : Takes X W) (hg : Gl X x) (hdb : (x == ("__debug__" : Str)) = false := by decide) : PE X (.Call (.Name x p) [] [] pos) (tCallS sp (WE W) tNil) := by
  obtain ⟨f, fd, F, hm, hk, hb⟩ := C.ex
  refine ⟨fun pins s σ H Q I h => ?_⟩
  refine wpAny_Call_Name_kw (ld_glob I hg hm ?_ hdb)
  exact PySem.W.callWith_K0 I.kIn hk (run_fnS (us := []) F hr hb (passAt tk σ) I .nil h)
def tPropW (C : Addr) (sp : Sp) (ta : TE) : TE := fun σ H Q => ta σ H fun x H1 => ∃ a dx fs, x = .ref a ∧ H1 a = some (.ins C dx fs) ∧ sp [.ref a] H1 Q nE
theorem pe_pcal (M : PCal X.prog X.w X.K X.mg X.base k C m ps sp) (c : Cls X.K C) (hr : Room (k + 1) X.A) (he : PE X e ta) (hab : attributeBase e m X.env (eval e X.env) = eval e X.env := by rfl) : PE X (.Attribute e m pos) (tPropW C sp ta) := by
  obtain ⟨p0, f, fd, F, hp, hb⟩ := M.ex
  exact pe_prop (dvs := []) he c hp F hr hb .nil (pass_nE (X := X.nox)) hab
end
/-! ### the operators of an own class -/
section
variable {X : Cx} {k : Nat} {C : Addr} {m : Str} {ps : List Str} {sp : Sp}
theorem ins_look {pins : List (Addr × Obj)} {σ : L2.St} {H : Hp} {s : Shared} {a dx : Addr} {fs : List (Str × V)} (I : Inv X pins σ H s) (e : H a = some (.ins C dx fs)) : ∃ od, PySem.W.InstAt s.heap a (PySem.W.instObj C dx) C (some od) := by
  obtain ⟨mA, O, _, _, _, _⟩ := ins_get I.hok e
  obtain ⟨od, J, _⟩ := O.look
  exact ⟨od, J⟩
/-- the def runs below a built-in -/
theorem run_own {A : Around} {f : Addr} {fd : FuncData} {pins : List (Addr × Obj)} {σ : L2.St} {H : Hp} {s : Shared} {Q : VK} {us : List Value} {vs : List V} {E' : Value → Shared → Prop} (F : FnOk X.prog X.w X.K X.mg X.base (L2.CX X.prog X.w) k f fd ps sp) (hr : Room k A) (e0 : Env0 X.prog X.w X.K X.mg X.base A X.stack s H) (hb : Binds X.K fd ps [])
    (I : Inv X pins σ H s) (r : Vals vs us) (h : sp vs H Q nE) : wpAny (model X.prog X.w) A (call (.ref f) us) (EP X pins σ Q) E' s := by
  have hl : us.length = ps.length := by rw [← r.length]; exact F.len _ _ _ _ h
  have b := hb s us I.kIn (by rw [List.append_nil]; exact hl)
  rw [List.append_nil] at b
  refine wpAny_call (codeAny_mono (F.run A X.stack s H ⟨us, []⟩ us vs Q nE hr e0 b r h) fun r s' hq => ?_)
  cases r with
  | error e => exact False.elim (pass_nE (X := X.nox) pins σ H s e s' (I.wish _) hq)
  | ok fl =>
    cases fl with
    | ret u => exact I.after hq
    | next => exact False.elim hq
    | brk => exact False.elim hq
    | cont => exact False.elim hq
/-- x op y, both of the class at C -/
def rOwnB (C : Addr) (sp : Sp) : R2 := fun x y H Q => ∃ a dx fs b dy gs, x = .ref a ∧ y = .ref b ∧ H a = some (.ins C dx fs) ∧ H b = some (.ins C dy gs) ∧ sp [.ref a, .ref b] H Q nE
theorem op_ownB {op : Operator} (M : MCal X.prog X.w X.K X.mg X.base k C m ps [] sp) (hm : PySem.dunder op.info.2 = m) (hc : PySem.W.selfFirst X.K C = true) (hr : Room k X.A) : OpR X (binaryOp op) (rOwnB C sp) := by
  intro pins s σ H x y v u Q I rx ry h
  obtain ⟨a, dx, fs, b, dy, gs, rfl, rfl, ha, hb, q⟩ := h
  cases (show v = Value.ref a from rx)
  cases (show u = Value.ref b from ry)
  obtain ⟨f, fd, ds, F, hM, hB, hd⟩ := M.ex
  cases hd
  obtain ⟨od, J⟩ := ins_look I ha
  obtain ⟨od', J'⟩ := ins_look I hb
  obtain ⟨m', hF⟩ := I.fr
  refine PySem.W.binop_K hF I.ok.mod.kin J J'.type hc (by rw [hm]; exact hM.at_) hM.fn ?_
  refine wpAny_mono (run_own (us := [.ref a, .ref b]) (vs := [.ref a, .ref b]) F hr I.env0 hB I (.cons rfl (.cons rfl .nil)) q) (fun w s' z => ?_) fun _ _ x => x
  obtain ⟨z', H', I', rz, qz⟩ := z
  exact SlX.cmpback rz ⟨z', H', I', rz, qz⟩
/-- x == y, x of the class at C -/
def rOwnEq (K : PySem.W.Frag) (C : Addr) (sp : Sp) : R2 := fun x y H Q => ∃ a dx fs t, x = .ref a ∧ H a = some (.ins C dx fs) ∧ TyX K H y t ∧ (t = .ref C ∨ ∃ T ∈ flatT, t = .type T) ∧ sp [.ref a, y] H Q nE
theorem op_ownEq (M : MCal X.prog X.w X.K X.mg X.base k C "__eq__" ps [] sp) (hn : ∀ T ∈ flatT, PySem.W.subIn X.K (.type T) (.ref C) = some false) (hr : Room k X.A) : OpR X (compareOp .Eq) (rOwnEq X.K C sp) := by
  intro pins s σ H x y v u Q I rx ry h
  obtain ⟨a, dx, fs, t, rfl, ha, ty, ht, q⟩ := h
  cases (show v = Value.ref a from rx)
  obtain ⟨f, fd, ds, F, hM, hB, hd⟩ := M.ex
  cases hd
  obtain ⟨od, J⟩ := ins_look I ha
  obtain ⟨m', hF⟩ := I.fr
  obtain ⟨P, kx, hP, _⟩ := kit_of I ry ty
  have hnf : PySem.W.notFirst X.K C t = true := by
    unfold PySem.W.notFirst
    rcases ht with rfl | ⟨T, hT, rfl⟩
    · simp
    · rw [hn T hT]; simp
  show wpAny _ _ (richCompare .Eq (.ref a) u) _ _ _
  refine PySem.W.cmp_K (op := .Eq) (tb := t) hr.units0 hF I.ok.mod.kin J (kx.ty _ _ I.kIn hP) hnf hM.at_ hM.fn ?_
  refine wpAny_mono (run_own (us := [.ref a, u]) (vs := [.ref a, y]) F hr I.env0 hB I (.cons rfl (.cons ry .nil)) q) (fun w s' z => ?_) fun _ _ x => x
  obtain ⟨z', H', I', rz, qz⟩ := z
  exact SlX.cmpback rz ⟨z', H', I', rz, qz⟩
/-- x != y, both of the class at C -/
def rOwnNe (C : Addr) (sp : Sp) : R2 := fun x y H Q => ∃ a dx fs b dy gs, x = .ref a ∧ y = .ref b ∧ H a = some (.ins C dx fs) ∧ H b = some (.ins C dy gs) ∧ sp [.ref a, .ref b] H (fun z H' => ∃ c, z = .bl c ∧ Q (.bl (!c)) H') nE
theorem op_ownNe (M : MCal X.prog X.w X.K X.mg X.base k C "__eq__" ps [] sp) (hn : PySem.W.findIn X.K (.ref C) "__ne__" = some (some (.builtin "object.__ne__"))) (ho : PySem.W.subIn X.K (.ref C) (.type "object") = some true) (hr : Room (k + 1) X.A) : OpR X (compareOp .NotEq) (rOwnNe C sp) := by
  intro pins s σ H x y v u Q I rx ry h
  obtain ⟨a, dx, fs, b, dy, gs, rfl, rfl, ha, hb, q⟩ := h
  cases (show v = Value.ref a from rx)
  cases (show u = Value.ref b from ry)
  obtain ⟨f, fd, ds, F, hM, hB, hd⟩ := M.ex
  cases hd
  obtain ⟨od, J⟩ := ins_look I ha
  obtain ⟨od', J'⟩ := ins_look I hb
  show wpAny _ _ (richCompare .NotEq (.ref a) (.ref b)) _ _ _
  refine PySem.W.nv_ne (hu_of hr) I.kIn J J'.type hn hM.at_ hM.fn ho ?_
  refine wpAny_mono (run_own (us := [.ref a, .ref b]) (vs := [.ref a, .ref b]) F hr.in1 I.env0.in1 hB I (.cons rfl (.cons rfl .nil)) q) (fun w s' z => ?_) fun _ _ x => x
  obtain ⟨z', H', I', rz, c, ez, qz⟩ := z
  subst ez
  cases (show w = Value.bool c from rz)
  exact ⟨c, rfl, .bl (!c), H', I', rfl, qz⟩
/-- y in x, x of the class at C -/
def rOwnIn (C : Addr) (sp : Sp) : R2 := fun y x H Q => ∃ a dx fs, x = .ref a ∧ H a = some (.ins C dx fs) ∧ sp [.ref a, y] H (fun z H' => ∃ c, z = .bl c ∧ Q (.bl c) H') nE
theorem op_ownIn (M : MCal X.prog X.w X.K X.mg X.base k C "__contains__" ps [] sp) (hr : Room k X.A) : OpR X (compareOp .In) (rOwnIn C sp) := by
  intro pins s σ H y x u v Q I ry rx h
  obtain ⟨a, dx, fs, rfl, ha, q⟩ := h
  cases (show v = Value.ref a from rx)
  obtain ⟨f, fd, ds, F, hM, hB, hd⟩ := M.ex
  cases hd
  obtain ⟨od, J⟩ := ins_look I ha
  obtain ⟨m', hF⟩ := I.fr
  refine PySem.W.in_K hF I.ok.mod.kin J hM.at_ hM.fn ?_
  refine wpAny_mono (run_own (us := [.ref a, u]) (vs := [.ref a, y]) F hr I.env0 hB I (.cons rfl (.cons ry .nil)) q) (fun w s' z => ?_) fun _ _ x => x
  obtain ⟨z', H', I', rz, c, ez, qz⟩ := z
  subst ez
  cases (show w = Value.bool c from rz)
  exact wpAny_truthy_bool ⟨.bl c, H', I', rfl, qz⟩
/-- len(x) of an own __len__ -/
def rOwnLen (C : Addr) (sp : Sp) : List V → Hp → VK → Prop := fun xs H Q => ∃ a dx fs, xs = [V.ref a] ∧ H a = some (.ins C dx fs) ∧ sp [.ref a] H (fun z H' => ∃ n : Nat, z = .int n ∧ n < 2 ^ 63 ∧ Q (.int n) H') nE
theorem call_ownLen (M : MCal X.prog X.w X.K X.mg X.base k C "__len__" ps [] sp) (hr : Room (k + 1) X.A) : CallR X (.builtin "len") (rOwnLen C sp) := by
  intro pins s σ H xs us Q I r h
  obtain ⟨a, dx, fs, rfl, ha, q⟩ := h
  obtain ⟨u, rfl, ru⟩ := vals1 r
  cases (show u = Value.ref a from ru)
  obtain ⟨f, fd, ds, F, hM, hB, hd⟩ := M.ex
  cases hd
  obtain ⟨od, J⟩ := ins_look I ha
  obtain ⟨m', hF⟩ := I.fr
  refine PySem.W.len_K hF I.ok.mod.kin J hM.at_ hM.fn ?_
  refine wpAny_mono (run_own (us := [.ref a]) (vs := [.ref a]) F hr.in1 I.env0.in1 hB I (.cons rfl .nil) q) (fun w s' z => ?_) fun _ _ x => x
  obtain ⟨z', H', I', rz, n, ez, hn, qz⟩ := z
  subst ez
  obtain ⟨t, e⟩ := (show ∃ t, w = Value.int n t from rz)
  cases e
  exact ⟨⟨by omega, by exact_mod_cast hn⟩, .int n, H', I'.tok _, ⟨_, rfl⟩, qz⟩
/-- bool(x) of an own __bool__ -/
def rOwnBool (C : Addr) (sp : Sp) : List V → Hp → VK → Prop := fun xs H Q => ∃ a dx fs, xs = [V.ref a] ∧ H a = some (.ins C dx fs) ∧ sp [.ref a] H (fun z H' => ∃ c, z = .bl c ∧ Q (.bl c) H') nE
theorem call_ownBool (M : MCal X.prog X.w X.K X.mg X.base k C "__bool__" ps [] sp) (hr : Room (k + 2) X.A) : CallR X (.type "bool") (rOwnBool C sp) := by
  intro pins s σ H xs us Q I r h
  obtain ⟨a, dx, fs, rfl, ha, q⟩ := h
  obtain ⟨u, rfl, ru⟩ := vals1 r
  cases (show u = Value.ref a from ru)
  obtain ⟨f, fd, ds, F, hM, hB, hd⟩ := M.ex
  cases hd
  obtain ⟨od, J⟩ := ins_look I ha
  have hr2 : Room k X.A.in1.in1 := (show Room (k + 1) X.A.in1 from Room.in1 hr).in1
  refine PySem.W.nv_bool I.kIn J hM.at_ hM.fn ?_
  refine wpAny_mono (run_own (us := [.ref a]) (vs := [.ref a]) F hr2 I.env0.in1.in1 hB I (.cons rfl .nil) q) (fun w s' z => ?_) fun _ _ x => x
  obtain ⟨z', H', I', rz, c, ez, qz⟩ := z
  subst ez
  cases (show w = Value.bool c from rz)
  exact ⟨c, rfl, .bl c, H', I', rfl, qz⟩
/-- the truth of an instance, as a test -/
def tTruOwn (C : Addr) (sp : Sp) (te : TE) : TT := fun σ H R => te σ H fun x H1 => ∃ a dx fs, x = .ref a ∧ H1 a = some (.ins C dx fs) ∧ sp [.ref a] H1 (fun z H' => ∃ c, z = .bl c ∧ R c H') nE
theorem pt_truOwn {e : Expr} {ta : TE} (M : MCal X.prog X.w X.K X.mg X.base k C "__bool__" ps [] sp) (hr : Room k X.A) (ha : PE X e ta) (he : ∀ whole, isTrue e X.env whole = (do let v ← whole; standAt e.pos; holding [v] (truthy v))) : PT X e (tTruOwn C sp ta) := by
  obtain ⟨f, fd, ds, F, hM, hB, hd⟩ := M.ex
  cases hd
  refine ⟨fun pins s σ H R I q => ?_⟩
  refine isTrue_plain (thn (ha.run pins s σ H _ I q) fun v s1 ⟨x, H1, I1, r1, a, dx, fs, ex, hx, q1⟩ => ?_) (he _)
  subst ex
  cases (show v = Value.ref a from r1)
  obtain ⟨od, J⟩ := ins_look I1 hx
  obtain ⟨m', hF⟩ := I1.fr
  refine PySem.W.truthy_K hF I1.ok.mod.kin J hM.at_ hM.fn ?_
  refine wpAny_mono (run_own (us := [.ref a]) (vs := [.ref a]) F hr I1.env0 hB I1 (.cons rfl .nil) q1) (fun w s' z => ?_) fun _ _ x => x
  obtain ⟨z', H', I', rz, c, ez, qz⟩ := z
  subst ez
  cases (show w = Value.bool c from rz)
  exact ⟨H', I', qz⟩
end
end Nv

namespace PySem
open Sem (wp)
set_option maxHeartbeats 1000000 in
theorem nv_meets_enumerate_B {v : Value} {o : Obj} {H : Heap → Prop} (B : Begins v o H) :
    Meets (Builtin.«enumerate.__new__» ⟨[.type "enumerate", v], []⟩) (fun _ R s => H s.heap ∧
      R (.ok (.ret (.ref (s.heap.push o).objs.size))) { s with heap := (s.heap.push o).push { cls := .type "enumerate", data := .fields #[.none, .bool false, .ref s.heap.objs.size, rawInt 0, .none, .none] } }) :=
  .of_wp fun prog w A R s h => by
    obtain ⟨hp, g, d, tk, os⟩ := s; obtain ⟨h1, h⟩ := h
    have hsub := sub_enumerate
    have q1 : ∀ {A' : Around} {E : Value → Shared → Prop} {Q : Value → Shared → Prop}, Q (.ref hp.objs.size) ⟨hp.push o, g, d, tk, os⟩ → wpAny (model prog w) A' (pyIter v) Q E ⟨hp, g, d, tk, os⟩ :=
      fun q => B.iter prog w _ _ ⟨hp, g, d, tk, os⟩ _ h1 q
    wp_walk using q1
    refine wpAny_stack_any fun st => wpAny_pure ?_
    split
    · rename_i c _ _ _ _ _
      cases (c == Value.type "enumerate")
      · wp_walk using q1
        exact ⟨_, rfl, h⟩
      · wp_walk using q1
        exact ⟨_, rfl, h⟩
    · wp_walk using q1
      exact ⟨_, rfl, h⟩
section
variable {prog : Program} {w : World} {A : Around} {E : Value → Shared → Prop} {s : Shared}
theorem nv_enum_begins {v : Value} {o : Obj} {H : Heap → Prop} {Q : Value → Shared → Prop} (B : Begins v o H) (h1 : H s.heap)
    (h : ∀ h', IsEnum h' (s.heap.objs.size + 1) s.heap.objs.size 0 .none → h'.get? s.heap.objs.size = some o → h'.objs.size = s.heap.objs.size + 2 →
      (∀ b o, s.heap.get? b = some o → h'.get? b = some o) → Q (.ref (s.heap.objs.size + 1)) { s with heap := h' }) :
    wpAny (model prog w) A (call (.type "enumerate") [v]) Q E s := by
  refine callType_new F.called_enumerate (by decide) (F.typeCall_enumerate_1 _) (F.newCall_enumerate_1 _) (fun obj => F.args_object_init_2 obj _) F.entry_enumerate_new
    (nv_meets_enumerate_B B) ⟨h1, ?_⟩
  have hz : (s.heap.push o).objs.size = s.heap.objs.size + 1 := Heap.size_push ..
  show _ ∧ _
  rw [hz]
  have he : IsEnum ((s.heap.push o).push { cls := .type "enumerate", data := .fields #[.none, .bool false, .ref s.heap.objs.size, rawInt 0, .none, .none] }) (s.heap.objs.size + 1) s.heap.objs.size 0 .none := by
    have := Heap.get?_push_size (s.heap.push o) (o := { cls := .type "enumerate", data := .fields #[.none, .bool false, .ref s.heap.objs.size, rawInt 0, .none, .none] }) rfl
    rw [hz] at this; exact this
  refine ⟨⟨_, he, rfl⟩, h _ he (Heap.get?_push_of_some _ (Heap.get?_push_size _ B.free)) (by rw [Heap.size_push, hz]) fun b o x => Heap.get?_push_of_some _ (Heap.get?_push_of_some _ x)⟩
end
end PySem
namespace Nv
open PySem PySem.Spec PyProof.Rows L2 ClX
/-! ### defs with defaults -/
structure FunG (K : PySem.W.Frag) (x qual : Str) (st : Stmt) (dV : Value) (f : Addr) (fd : FuncData) : Prop where
  ex : ∃ (oc : Value) (od : Option Addr) (kV doc pm : Value) (an : Option Addr) (cdv ct : Value) (osl : Array (Option Value)),
    fd = PySem.W.fnOf x qual (defArgs st) (defBody st) (defScope st) dV kV doc pm an cdv ct ∧ K.lookup f = some ⟨oc, od, .func fd, osl⟩ ∧ PySem.W.codeIn K cdv qual = true
section
variable {P : Program} {w : World} {K : PySem.W.Frag} {mg : Str → Option Value} {base : Heap}
theorem funG_mk {x qual : Str} {st : Stmt} {dV : Value} {f : Addr} {oc : Value} {od an : Option Addr} {osl : Array (Option Value)} {kV doc pm cdv ct : Value} (l : K.lookup f = some ⟨oc, od, .func (PySem.W.fnOf x qual (defArgs st) (defBody st) (defScope st) dV kV doc pm an cdv ct), osl⟩)
    (c : PySem.W.codeIn K cdv qual = true) : FunG K x qual st dV f (PySem.W.fnOf x qual (defArgs st) (defBody st) (defScope st) dV kV doc pm an cdv ct) := ⟨⟨oc, od, kV, doc, pm, an, cdv, ct, osl, rfl, l, c⟩⟩
theorem FunG.okX {x qual : Str} {st : Stmt} {dV : Value} {f : Addr} {fd : FuncData} {N ps : List Str} {k : Nat} {sp : Sp} (F : FunG K x qual st dV f fd) (S : FnScope N ps (defScope st)) (len : ∀ vs H Q E, sp vs H Q E → vs.length = ps.length)
    (hbody : ∀ (cdv : Value) (A : Around) (outer : List Env) (s : Shared) (H : Hp) (vs : List V) (Q : VK) (E : XK), Room k (A.deeper (envOfC qual (defScope st) s.heap.objs.size f cdv)) → sp vs H Q E →
      ∃ t, PSs (cxOf (L2.CX P w) P w K mg base N qual (defScope st) f cdv A outer s H E) (defBody st) t ∧ t { nx := fun _ H' => Q .non H', rt := Q } (L2.start N vs) H) : FnOk P w K mg base (L2.CX P w) (k + 1) f fd ps sp := by
  obtain ⟨oc, od, kV, doc, pm, an, cdv, ct, osl, rfl, lk, hcd⟩ := F.ex
  exact fn_of lk hcd S len fun A outer s H vs Q E hr hsp => hbody cdv A outer s H vs Q E hr hsp
/-- n values are written, the defaults behind the first j fill up -/
theorem FunG.binds1 {x qual : Str} {st : Stmt} {T : Addr} {f : Addr} {fd : FuncData} {ps : List Str} {oT : Obj} {its : List Value} {m : Nat} {dvs : List V} (F : FunG K x qual st (.ref T) f fd) (n j : Nat) (lT : K.lookup T = some oT) (oTd : oT.data = .seq its.toArray m) (rT : Vals dvs its) (hn : n + (dvs.length - j) = ps.length)
    (h : ∀ (kV doc pm : Value) (an : Option Addr) (cdv ct : Value) (us its : List Value), us.length = n → its.length = dvs.length →
      ∃ k, bindArgs (PySem.W.fnOf x qual (defArgs st) (defBody st) (defScope st) (.ref T) kV doc pm an cdv ct) ⟨us, []⟩ = seqItems? (.ref T) >>= k ∧ k (some its.toArray) = pure (ps.zip (us ++ its.drop j))) : ∃ ds, Vals (dvs.drop j) ds ∧ Binds K fd ps ds := by
  obtain ⟨oc, od, kV, doc, pm, an, cdv, ct, osl, rfl, lk, hcd⟩ := F.ex
  refine ⟨its.drop j, rT.drop j, fun s us X hlen => ?_⟩
  have l1 : its.length = dvs.length := rT.length.symm
  have l2 : us.length = n := by
    rw [List.length_append, List.length_drop, l1] at hlen
    omega
  obtain ⟨k, e1, e2⟩ := h kV doc pm an cdv ct us its l2 l1
  refine BindsTo.of_looks fun M => ?_
  rw [e1]
  exact looks_items X lT oTd (.of_pure e2)
end
/-! ### a list or a tuple -/
def SqA (K : PySem.W.Frag) (H : Hp) (a : Addr) (xs : List V) : Prop := SqL K H a xs ∨ SqT K H a xs
theorem Same.seqA {K : PySem.W.Frag} {H H' : Hp} {a : Addr} {xs : List V} (e : Same H H') (h : SqA K H a xs) : SqA K H' a xs := h.elim (fun h => .inl (e.seq h)) fun h => .inr (Nv.Same.seqT e h)
/-- what stands at a, if a list or a tuple, stays -/
def isSq : HO → Bool
  | .lst _ => true
  | .tup _ => true
  | .frz _ _ => true
  | _ => false
def KeepQ (H H' : Hp) (a : Addr) : Prop := ∀ o, H a = some o → isSq o = true → H' a = some o
theorem _root_.L2.SqL.at_ {K : PySem.W.Frag} {H H' : Hp} {a : Addr} {xs : List V} (h : SqL K H a xs) (e : KeepQ H H' a) : SqL K H' a xs := by
  rcases h with (h | ⟨o, h⟩) | h
  · exact .inl (.inl (e _ h rfl))
  · exact .inl (.inr ⟨o, e _ h rfl⟩)
  · exact .inr h
theorem _root_.L2.SqT.at_ {K : PySem.W.Frag} {H H' : Hp} {a : Addr} {xs : List V} (h : SqT K H a xs) (e : KeepQ H H' a) : SqT K H' a xs := by
  rcases h with (h | ⟨o, h⟩) | h
  · exact .inl (.inl (e _ h rfl))
  · exact .inl (.inr ⟨o, e _ h rfl⟩)
  · exact .inr h
theorem keepQ_new {H H' : Hp} {a p : Addr} {o : HO} (s : Same H H') (h : isSq o = false) : KeepQ (upd H p o) H' a := fun u e q => by
  by_cases z : a = p
  · rw [z, upd_same] at e
    rw [← Option.some.inj e, h] at q
    cases q
  · rw [upd_ne z] at e
    exact s _ _ e
/-- enumerate of a tuple -/
def IteT (K : PySem.W.Frag) (a : Addr) : It :=
  ⟨fun i H => ∃ (xs : List V) (x : V), SqT K H a xs ∧ xs[i]? = some x, fun i H v H' => ∃ T x, v = .ref T ∧ H T = none ∧ H' = upd H T (.tup [.int (i : Nat), x]) ∧ ∀ xs, SqT K H a xs → xs[i]? = some x, fun i H => ∃ xs : List V, SqT K H a xs ∧ xs.length ≤ i⟩
theorem turn_enumT {P : Program} {w : World} {K : PySem.W.Frag} {elts : List Expr} {kk : Nat} {tpos : Pos} (a e it : Addr) :
    Turn P w K (.Tuple elts kk tpos) (IteT K a) [e, it] e (fun i h => (∃ old, IsEnum h e it ((i : Nat) : Int) old) ∧ h.IsTupleIter it a i ∧ e ≠ it) where
  mem := by simp
  obj := fun i h st b hb => by
    obtain ⟨⟨old, he⟩, ⟨o, ho, hc, hd⟩, _⟩ := st
    have e' : b = e ∨ b = it := by simpa using hb
    rcases e' with z | z
    · rw [z]; exact ⟨_, he, fun v q => nomatch q⟩
    · rw [z]; exact ⟨o, ho, fun v q => by rw [hd] at q; cases q⟩
  keep := fun i h h' st k => let ⟨⟨old, he⟩, hi, hne⟩ := st; ⟨⟨old, k e (by simp) _ he⟩, hi.at fun o q => k it (by simp) o q, hne⟩
  item := by
    intro X hP hw hK hc i pins s σ H E I hf st hg
    subst hP hw hK
    obtain ⟨⟨old, he⟩, hit, hne⟩ := st
    obtain ⟨xs, x, hq, hx⟩ := hg
    obtain ⟨its, rv, p, hz⟩ := I.tuple hq
    obtain ⟨u, hu, ru⟩ := rv.get hx
    have hel : e < s.heap.objs.size := Heap.lt_size he
    have hil : it < s.heap.objs.size := by obtain ⟨_, q, _⟩ := hit; exact Heap.lt_size q
    have hae : e ≠ a := fun z => by
      obtain ⟨o, ho, hcl, _⟩ := p
      rw [← z, he] at ho
      cases ho
      exact absurd (show Value.type "enumerate" = Value.type "tuple" from hcl) (by decide +kernel)
    have hai : a ≠ it := fun z => by
      obtain ⟨o, ho, hcl, _⟩ := p
      obtain ⟨o', ho', hcl', _⟩ := hit
      rw [z, ho'] at ho
      cases ho
      rw [hcl'] at hcl
      exact absurd hcl (by decide +kernel)
    have hlt : i < its.toArray.size := by
      have : i < its.length := (List.getElem?_eq_some_iff.mp hu).1
      simpa using this
    refine wpAny_pyNext_enum_itemC (c := ((i : Nat) : Int)) (Draws.tuple (A := X.A.in1) (I.ok.hd hc) it a hai its.toArray) he ⟨hit, p⟩ hlt hne (by simp; exact ⟨hne, hae⟩) fun x' h' tk hPx ho hst' hT hsz hk => ?_
    have ex : x' = u := by
      have h1 : its.toArray[i]? = some x' := hPx
      rw [List.getElem?_toArray, hu] at h1
      exact (Option.some.inj h1).symm
    subst ex
    refine ⟨_, rfl, wpAny_letOwnedTupleGo_enum (s := { s with heap := h', toks := tk + 1 }) ho fun h'' he' sb => ?_⟩
    have hT2 : h''.get? s.heap.objs.size = some { cls := .type "tuple", data := .seq #[.int i tk, x'] } := (sb.2 _ (Nat.ne_of_gt hel)).trans hT
    have new : ObjOk X.prog X.w (upd H s.heap.objs.size (.tup [.int (i : Nat), x])) h'' s.heap.objs.size (.tup [.int (i : Nat), x]) :=
      ⟨by show 2 ≤ sizeLine; decide, [.int i tk, x'], .cons ⟨_, rfl⟩ (.cons ru .nil), ⟨_, hT2, rfl, _, rfl⟩⟩
    have I1 : Inv X pins σ (upd H s.heap.objs.size (.tup [.int (i : Nat), x])) { s with heap := h'', toks := tk + 1 } :=
      I.turnedNew (ch := [e, it]) (fun b ob hb q => (sb.2 b (fun z => hb (by simp [z]))).trans (hk b ob (fun z => hb (by simp [z])) (fun z => hb (by simp [z])) q)) hf (Nat.le_refl _) new
    refine ⟨.ref s.heap.objs.size, _, I1, rfl, ⟨_, x, rfl, I.hok.fresh (Nat.le_refl _), rfl, fun ys hy => by rw [I.tuple_inj hy hq]; exact hx⟩, ⟨⟨x', ?_⟩, hst'.1.at fun o q => (sb.2 it (Ne.symm hne)).trans q, hne⟩, fun b hb => ?_⟩
    · have e1 : ((i + 1 : Nat) : Int) = (i : Int) + 1 := by omega
      rw [e1]; exact he'
    · have hb' : b < s.heap.objs.size := by
        have e' : b = e ∨ b = it := by simpa using hb
        rcases e' with z | z
        · rw [z]; exact hel
        · rw [z]; exact hil
      rw [upd_ne (Nat.ne_of_lt hb')]
      exact (hf b hb).1
  done := by
    intro X hP hw hK hc i pins s σ H E I hf st hg
    subst hP hw hK
    obtain ⟨⟨old, he⟩, hit, hne⟩ := st
    obtain ⟨xs, hq, hx⟩ := hg
    obtain ⟨its, rv, p, hz⟩ := I.tuple hq
    obtain ⟨f0, f1, f2, f3, f4, f5⟩ := hf it (by simp)
    have hl := rv.length
    have hai : a ≠ it := fun z => by
      obtain ⟨o, ho, hcl, _⟩ := p
      obtain ⟨o', ho', hcl', _⟩ := hit
      rw [z, ho'] at ho
      cases ho
      rw [hcl'] at hcl
      exact absurd hcl (by decide +kernel)
    unfold pyNext
    have hT : s.TypeIs (.ref e) "enumerate" := ⟨_, he, rfl⟩
    refine wpAny_bind (wpAny_attempt (wpAny_callSpecial?_slot (name := Str.ofString "__next__") hT F.slot_enumerate_next
      (wpAny_call_entry F.slot_enumerate_next hT F.entry_enumerate_next ?_ (F.args_enumerate_next_1 _))))
    show wpAny _ _ (field (.ref e) 2 >>= _) _ _ _
    refine wpAny_bind (wpAny_field he rfl (x := .ref it) rfl ?_)
    refine wpAny_bind (wpAny_nextOf_tuple_end (I.ok.hd hc) hit p (by simp; omega) fun h' x eb hx' => ?_)
    obtain ⟨o, ho, hc'⟩ := hx'
    refine wpAny_bind (wpAny_isInstance (T := "StopIteration") (b := true) ⟨o, ho, hc'⟩ isSubtype_stop ?_)
    exact wpAny_pure ⟨rfl, I.turned (t' := s.toks) (fun b o hb q => eb b o hb q) f0 f1 f3 f4 f5⟩
  self := fun A i s Q E st h => let ⟨⟨_, he⟩, _⟩ := st; wpAny_pyIter_enum he h

def iEnumA (K : PySem.W.Frag) (ta : TA) : TI := fun σ H R => ta σ H fun vs H1 => ∃ a xs, vs = [.ref a] ∧ SqA K H1 a xs ∧ ∀ (J : It) (G : Hp → Prop), Walk J xs.length G (YPair (fun i => some (.int (i : Nat))) (fun i => xs[i]?)) → (∀ H', KeepQ H1 H' a → G H') → R J H1
theorem walk_enumL {K : PySem.W.Frag} {a : Addr} {xs : List V} : Walk (Ite K a) xs.length (fun H => SqL K H a xs) (YPair (fun i => some (.int (i : Nat))) (fun i => xs[i]?)) := walk_enum
theorem walk_enumT {K : PySem.W.Frag} {a : Addr} {xs : List V} : Walk (IteT K a) xs.length (fun H => SqT K H a xs) (YPair (fun i => some (.int (i : Nat))) (fun i => xs[i]?)) :=
  ⟨fun i _ hi q => ⟨xs, xs[i], q, by simp [hi]⟩, fun _ q => ⟨xs, q, Nat.le_refl _⟩, fun i _ v _ _ q y => by
    obtain ⟨T, x, e, n, eh, hx⟩ := y
    exact ⟨T, _, x, e, n, eh, rfl, hx xs q⟩⟩
theorem pi_enumA {X : Cx} {e : Expr} {ta : TA} {p pos tpos : Pos} {elts : List Expr} {kk : Nat} (hg : Gl X "enumerate") (hm : X.mg "enumerate" = none) (ha : PA X [e] ta) (hs : starEach [e] X.env = [(false, eval e X.env)] := by rfl) :
    PI X (.Tuple elts kk tpos) (.Call (.Name "enumerate" p) [e] [] pos) (iEnumA X.K ta) := by
  refine ⟨fun pins s σ H R I h => ?_⟩
  refine Call_ (ld_blt I hg hm boot_enumerate (PyProof.Rows.callWith_type1 (thn (ha.run pos pins s σ H _ I h) fun us s1 ⟨vs, H1, I1, r1, q1⟩ => ?_) hs rfl))
  obtain ⟨a, xs, ex, hA, q0⟩ := q1
  subst ex
  cases r1 with
  | cons r rr =>
    cases rr
    cases r
    have fp : ∀ b ∈ [s1.heap.objs.size + 1, s1.heap.objs.size], FpOk X pins H1 b := fun b hb => by
      have e' : b = s1.heap.objs.size + 1 ∨ b = s1.heap.objs.size := by simpa using hb
      have hle : s1.heap.objs.size ≤ b := by
        rcases e' with z | z
        · rw [z]; exact Nat.le_add_right _ _
        · rw [z]; exact Nat.le_refl _
      exact I1.fpOk hle (I1.hok.fresh hle)
    rcases hA with hq | hq
    · have q := q0 _ _ walk_enumL fun H' e => hq.at_ e
      obtain ⟨its, rv, p', hz⟩ := I1.list hq
      refine call_enumerate_list p'.isList fun h' he hit hsz hk => wpAny_pyIter_enum he ?_
      have I2 : Inv X pins σ H1 { s1 with heap := h' } := I1.kept (t' := s1.toks) hk
      exact ⟨s1.heap.objs.size + 1, [s1.heap.objs.size + 1, s1.heap.objs.size], _, _, H1, rfl, I2, turn_enum a (s1.heap.objs.size + 1) s1.heap.objs.size, ⟨⟨.none, he⟩, hit, Nat.succ_ne_self _⟩, fp, q⟩
    · have q := q0 _ _ walk_enumT fun H' e => hq.at_ e
      obtain ⟨its, rv, p', hz⟩ := I1.tuple hq
      refine nv_enum_begins (begins_tuple a its.toArray) p' fun h' he hit hsz hk => wpAny_pyIter_enum he ?_
      have I2 : Inv X pins σ H1 { s1 with heap := h' } := I1.kept (t' := s1.toks) hk
      exact ⟨s1.heap.objs.size + 1, [s1.heap.objs.size + 1, s1.heap.objs.size], _, _, H1, rfl, I2, turn_enumT a (s1.heap.objs.size + 1) s1.heap.objs.size, ⟨⟨.none, he⟩, ⟨_, hit, rfl, rfl⟩, Nat.succ_ne_self _⟩, fp, q⟩
/-! ### comprehensions -/
theorem x_lc {wi : TI} {g : TG} {tt : TT} {te : TE} {vs : List Nat} {σ : L2.St} {H : Hp} {Q : VK} (h : wi σ H fun J H1 => ∀ D, H1 D = none → ∃ W : Nat → Nat → Hp → Prop, (∃ m, W 0 m (upd H1 D (.lst []))) ∧ ∀ i m H, W i m H →
  (J.stop i H ∧ Q (.ref D) H) ∨ (J.go i H ∧ ∃ Nx : Hp → Prop, (∀ H', Nx H' → ∃ m', m' < m ∧ W (i + 1) m' H') ∧ ∀ x H', J.yld i H x H' → g x (wipe σ vs) H' fun σ2 H2 => wipe σ2 vs = wipe σ vs ∧ tt σ2 H2 fun b H3 =>
    if b = true then te σ2 H3 fun y H4 => ∃ acc, H4 D = some (.lst acc) ∧ acc.length < sizeLine ∧ Nx (upd H4 D (.lst (acc ++ [y]))) else Nx H3)) : tLc wi g tt te vs σ H Q := h
theorem x_yes {σ : L2.St} {H : Hp} {R : Bool → Hp → Prop} (h : R true H) : tYes σ H R := h
theorem filterMap_take {α β : Type} {F : α → Option β} {xs : List α} {i : Nat} {x : α} (e : xs[i]? = some x) : (xs.take (i + 1)).filterMap F = (xs.take i).filterMap F ++ (F x).toList := by
  rw [List.take_add_one, e, List.filterMap_append]
  cases h : F x with
  | none => simp [h]
  | some y => simp [h]
/-- a comprehension over a list or a tuple whose tests and items leave what is known as it is -/
theorem lc_pure {K : PySem.W.Frag} {J : It} {G : Hp → Prop} {xs : List V} (w : Walk J xs.length G (YAt xs)) {g : TG} {tt : TT} {te : TE} {vs : List Nat} {σ : L2.St} {H1 : Hp} {D : Addr} {Qd : Hp → Prop} (F : V → Option V) (hD : H1 D = none) (hz : xs.length ≤ sizeLine) (hG : ∀ H, Same H1 H → G H)
    (hs : ∀ (i : Nat) (x : V) (H : Hp), xs[i]? = some x → Same H1 H → ∀ (R : V → Hp → Prop) (R0 : Hp → Prop), (∀ y, F x = some y → ∀ H', Same H H' → R y H') → (F x = none → ∀ H', Same H H' → R0 H') →
      g x (wipe σ vs) H fun σ2 H2 => wipe σ2 vs = wipe σ vs ∧ tt σ2 H2 fun b H3 => if b = true then te σ2 H3 R else R0 H3)
    (hd : ∀ H, Same H1 H → H D = some (.lst (xs.filterMap F)) → Qd H) :
    ∃ W : Nat → Nat → Hp → Prop, (∃ m, W 0 m (upd H1 D (.lst []))) ∧ ∀ i m H, W i m H →
      (J.stop i H ∧ Qd H) ∨ (J.go i H ∧ ∃ Nx : Hp → Prop, (∀ H', Nx H' → ∃ m', m' < m ∧ W (i + 1) m' H') ∧ ∀ x H', J.yld i H x H' → g x (wipe σ vs) H' fun σ2 H2 => wipe σ2 vs = wipe σ vs ∧ tt σ2 H2 fun b H3 =>
        if b = true then te σ2 H3 fun y H4 => ∃ acc, H4 D = some (.lst acc) ∧ acc.length < sizeLine ∧ Nx (upd H4 D (.lst (acc ++ [y]))) else Nx H3) := by
  refine lc_it w (fun i H => Same H1 H ∧ H D = some (.lst ((xs.take i).filterMap F))) ⟨same_new hD, by rw [upd_same]; rfl⟩ (fun i H _ p => hG H p.1) (fun i x H H' hi p y => ?_) fun H p => hd H p.1 (by rw [p.2, List.take_length])
  obtain ⟨eh, ex⟩ := y
  subst eh
  refine hs i x _ ex p.1 _ _ (fun y ey H' sm => ?_) fun ey H' sm => ?_
  · have hD' := sm _ _ p.2
    refine ⟨_, hD', ?_, same_mut (p.1.trans sm) hD, ?_⟩
    · have h1 : ((xs.take i).filterMap F).length ≤ i := Nat.le_trans (List.length_filterMap_le _ _) (by rw [List.length_take]; exact Nat.min_le_left _ _)
      omega
    · rw [upd_same, filterMap_take ex, ey]; rfl
  · exact ⟨p.1.trans sm, by rw [sm _ _ p.2, filterMap_take ex, ey]; simp⟩
/-! ### isinstance of an own class -/
def rIsiC (K : PySem.W.Frag) (C : Addr) (Ds : List Addr) : List V → Hp → VK → Prop := fun xs H Q => ∃ x, xs = [x, .ref C] ∧ ((∃ a dx fs, x = .ref a ∧ H a = some (.ins C dx fs) ∧ Q (.bl true) H) ∨ (∃ a D dx fs, x = .ref a ∧ H a = some (.ins D dx fs) ∧ D ∈ Ds ∧ Q (.bl false) H) ∨ (∃ T ∈ flatT, TyX K H x (.type T) ∧ Q (.bl false) H))
theorem call_isiC {X : Cx} {mg : Str → Option Value} {x : Str} {C : Addr} {Ds : List Addr} (o : OCls X.K mg x C) (hn : ∀ T ∈ flatT, PySem.W.subIn X.K (.type T) (.ref C) = some false) (hD : ∀ D ∈ Ds, (∃ x', OCls X.K mg x' D) ∧ D ≠ C ∧ PySem.W.subIn X.K (.ref D) (.ref C) = some false) :
    CallR X (.builtin "isinstance") (rIsiC X.K C Ds) := by
  have e2 : ((PySem.W.clsIn X.K C).isSome && PySem.W.typeIn X.K (.ref C) == some (.type "type")) = true := by rw [o.cl, o.tC] <;> rfl
  intro pins s σ H xs us Q I r h
  obtain ⟨x, rfl, h⟩ := h
  have fin : ∀ (t : Value) (b : Bool), TyX X.K H x t → PySem.W.kitOne X.K t (.ref C) = some b → Q (.bl b) H → wpAny (model X.prog X.w) X.A (call (.builtin "isinstance") us) (EP X pins σ Q) X.xe s := fun t b ty k q =>
    call_isi pins s σ H _ us Q I r ⟨x, .ref C, t, .ref C, b, rfl, .own C, ty, k, q⟩
  rcases h with ⟨a, dx, fs, rfl, ha, q⟩ | ⟨a, D, dx, fs, rfl, ha, hm, q⟩ | ⟨T, hT, ty, q⟩
  · refine fin (.ref C) true (o.ty ha) ?_ q
    unfold PySem.W.kitOne
    rw [if_pos (by simp)]
  · obtain ⟨⟨x', o'⟩, hne, hs⟩ := hD D hm
    refine fin (.ref D) false (o'.ty ha) ?_ q
    unfold PySem.W.kitOne
    rw [if_neg (by simp; exact hne)]
    unfold PySem.W.kitCls
    first
      | (rw [if_pos e2]; exact hs)
      | (show (if ((PySem.W.clsIn X.K C).isSome && PySem.W.typeIn X.K (.ref C) == some (.type "type")) = true then PySem.W.subIn X.K (.ref D) (.ref C) else none) = some false
         rw [if_pos e2]; exact hs)
  · refine fin (.type T) false ty ?_ q
    unfold PySem.W.kitOne
    rw [if_neg (show ¬ (Value.type T == Value.ref C) = true from Bool.false_ne_true)]
    unfold PySem.W.kitCls
    first
      | (rw [if_pos e2]; exact hn T hT)
      | (show (if ((PySem.W.clsIn X.K C).isSome && PySem.W.typeIn X.K (.ref C) == some (.type "type")) = true then PySem.W.subIn X.K (.type T) (.ref C) else none) = some false
         rw [if_pos e2]; exact hn T hT)
/-- C.f, a constant of an own class -/
theorem pe_ccon {X : Cx} {x f : Str} {C : Addr} {v : V} {u : Value} {p pos : Pos} (r : CRead X.K C (.type "type")) (k : CVal X.K C (.type "type") f v u) (hm : X.mg x = some (.ref C)) (hg : Gl X x) (hd : (x == ("__debug__" : Str)) = false := by decide) (hb : attributeBase (.Name x p) f X.env (eval (.Name x p) X.env) = eval (.Name x p) X.env := by rfl) :
    PE X (.Attribute (.Name x p) f pos) (tC v) := by
  refine ⟨fun pins s σ H Q I h => ?_⟩
  refine attr_of hb (thn ((pe_glob (v := .ref C) (u := .ref C) hg hm rfl hd).run pins s σ H (fun y H1 => y = .ref C ∧ Q v H1) I ⟨rfl, h⟩) fun w s1 ⟨y, H1, I1, rx, ex, q⟩ => ?_)
  subst ex
  obtain rfl : w = Value.ref C := rx
  exact getcval_ok I1 r k fun s2 I2 => ⟨v, H1, I2, k.rel, q⟩
end Nv
namespace Nv
open PySem PySem.Spec PyProof.Rows L2 ClX
section
variable {X : Cx} {K : PySem.W.Frag} {H : Hp} {Q : VK}
def rTupleU (K : PySem.W.Frag) : List V → Hp → VK → Prop := fun xs H Q => ∃ p ys, xs = [.ref p] ∧ ((SqL K H p ys ∧ ∀ l, H l = none → Q (.ref l) (upd H l (.tup ys))) ∨ (SqT K H p ys ∧ Q (.ref p) H))
theorem call_tupleU : CallR X (.type "tuple") (rTupleU X.K) := call_tuple_of
def rListU (K : PySem.W.Frag) : List V → Hp → VK → Prop := fun xs H Q => ∃ p ys, xs = [.ref p] ∧ (SqL K H p ys ∨ SqT K H p ys) ∧ ∀ l, H l = none → Q (.ref l) (upd H l (.lst ys))
theorem call_listU : CallR X (.type "list") (rListU X.K) := call_list_of
def rBoolU : List V → Hp → VK → Prop := fun xs H Q => match xs with
  | [.int i] => Q (.bl (i != 0)) H
  | [.bl k] => Q (.bl k) H
  | _ => False
theorem call_boolU : CallR X (.type "bool") rBoolU := by
  intro pins s σ H xs us Q I r h
  match xs, h with
  | [.int i], h => exact call_bool1 pins s σ H _ us Q I r (.inl ⟨i, rfl, h⟩)
  | [.bl k], h => exact call_bool1 pins s σ H _ us Q I r (.inr ⟨k, rfl, h⟩)
theorem x_tupleL {p : Addr} {ys : List V} (l : SqL K H p ys) (h : ∀ l, H l = none → Q (.ref l) (upd H l (.tup ys))) : rTupleU K [.ref p] H Q := ⟨p, ys, rfl, .inl ⟨l, h⟩⟩
theorem x_tupleT {p : Addr} {ys : List V} (l : SqT K H p ys) (h : Q (.ref p) H) : rTupleU K [.ref p] H Q := ⟨p, ys, rfl, .inr ⟨l, h⟩⟩
theorem x_listL {p : Addr} {ys : List V} (l : SqL K H p ys) (h : ∀ l, H l = none → Q (.ref l) (upd H l (.lst ys))) : rListU K [.ref p] H Q := ⟨p, ys, rfl, .inl l, h⟩
theorem x_listT {p : Addr} {ys : List V} (l : SqT K H p ys) (h : ∀ l, H l = none → Q (.ref l) (upd H l (.lst ys))) : rListU K [.ref p] H Q := ⟨p, ys, rfl, .inr l, h⟩
theorem x_boolB {k : Bool} (h : Q (.bl k) H) : rBoolU [.bl k] H Q := h
theorem x_boolI {i : Int} (h : Q (.bl (i != 0)) H) : rBoolU [.int i] H Q := h
/-! in, not in of a dict; a dict's item -/
def rInDct : R2 := fun y x H Q => ∃ a o, x = .ref a ∧ DGet H a y o ∧ Q (.bl o.isSome) H
def rNotInDct : R2 := fun y x H Q => ∃ a o, x = .ref a ∧ DGet H a y o ∧ Q (.bl (!o.isSome)) H
theorem op_inDct (hu : X.A.units + 1 < cLine) : OpR X (compareOp .In) rInDct := by
  intro pins s σ H y x u v Q I ry rx h
  obtain ⟨a, o, rfl, g, q⟩ := h
  cases (show v = Value.ref a from rx)
  exact d_in hu I g ry fun s3 I3 => ⟨.bl o.isSome, H, I3, rfl, q⟩
theorem op_notInDct (hu : X.A.units + 1 < cLine) : OpR X (compareOp .NotIn) rNotInDct := by
  intro pins s σ H y x u v Q I ry rx h
  obtain ⟨a, o, rfl, g, q⟩ := h
  cases (show v = Value.ref a from rx)
  exact d_notIn hu I g ry fun s3 I3 => ⟨.bl (!o.isSome), H, I3, rfl, q⟩
theorem x_inDct {a : Addr} {y : V} {o : Option V} (g : DGet H a y o) (h : Q (.bl o.isSome) H) : rInDct y (.ref a) H Q := ⟨a, o, rfl, g, h⟩
theorem x_notInDct {a : Addr} {y : V} {o : Option V} (g : DGet H a y o) (h : Q (.bl (!o.isSome)) H) : rNotInDct y (.ref a) H Q := ⟨a, o, rfl, g, h⟩
theorem x_dnewK {σ : L2.St} (h : ∀ p, H p = none → Q (.ref p) (upd H p (.dK []))) : tDNewK σ H Q := h
theorem x_methW {C : Addr} {m : Str} {sp : Sp} {dvs : List V} {E : L2.St → XK} {ta : TE} {t : TA} {σ : L2.St} (h : ta σ H fun x H1 => ∃ a dx fs, x = .ref a ∧ H1 a = some (.ins C dx fs) ∧ fs.lookup m = none ∧ t σ H1 fun vs H2 => sp (x :: (vs ++ dvs)) H2 Q (E σ)) : tMethW C m sp dvs E ta t σ H Q := h
theorem x_makeW {C : Addr} {sp : Sp} {dvs : List V} {E : L2.St → XK} {t : TA} {σ : L2.St} (h : t σ H fun vs H1 => ∀ x dx, H1 x = none → H1 dx = none → dx ≠ x → sp (.ref x :: (vs ++ dvs)) (upd (upd H1 dx (.own x)) x (.ins C dx [])) (fun v H2 => v = .non ∧ Q (.ref x) H2) (E σ)) : tMakeW C sp dvs E t σ H Q := h
theorem x_propW {C : Addr} {sp : Sp} {ta : TE} {σ : L2.St} (h : ta σ H fun x H1 => ∃ a dx fs, x = .ref a ∧ H1 a = some (.ins C dx fs) ∧ sp [.ref a] H1 Q nE) : tPropW C sp ta σ H Q := h
theorem x_kmeth {C : Addr} {sp : Sp} {E : L2.St → XK} {t : TA} {σ : L2.St} (h : t σ H fun vs H1 => sp (.ref C :: vs) H1 Q (E σ)) : tKMeth C sp E t σ H Q := h
theorem x_ins {C a dx : Addr} {fs : List (Str × V)} {R : Addr → Prop} (e : H a = some (.ins C dx fs)) (h : R a) : ∃ a' dx fs, V.ref a = .ref a' ∧ H a' = some (.ins C dx fs) ∧ R a' := ⟨a, dx, fs, rfl, e, h⟩
theorem x_insM {C a dx : Addr} {fs : List (Str × V)} {m : Str} {R : Prop} (e : H a = some (.ins C dx fs)) (l : fs.lookup m = none) (h : R) : ∃ a' dx fs, V.ref a = .ref a' ∧ H a' = some (.ins C dx fs) ∧ fs.lookup m = none ∧ R := ⟨a, dx, fs, rfl, e, l, h⟩
theorem x_enumA {ta : TA} {σ : L2.St} {R : It → Hp → Prop} (h : ta σ H fun vs H1 => ∃ a xs, vs = [.ref a] ∧ SqA K H1 a xs ∧ ∀ (J : It) (G : Hp → Prop), Walk J xs.length G (YPair (fun i => some (.int (i : Nat))) (fun i => xs[i]?)) → (∀ H', KeepQ H1 H' a → G H') → R J H1) : iEnumA K ta σ H R := h
end
end Nv
namespace Nv
theorem cls_some {K : PySem.W.Frag} {C : PySem.Addr} (h : PySem.W.hasDictIn K C = true) : (PySem.W.clsIn K C).isSome = true := by
  obtain ⟨cd, hc, _⟩ := PySem.W.any_some h
  rw [hc]
  rfl
end Nv

namespace Nv
open PySem PySem.Spec PyProof.Rows L2 ClX TL
/-! ### atoms and kinds, in plain Lean -/
inductive Atom | null | fals | tru | int | text deriving DecidableEq
def Atom.all : List Atom := [.null, .fals, .tru, .int, .text]
def Atom.s : Atom → Str
  | .null => "null" | .fals => "false" | .tru => "true" | .int => "int" | .text => "text"
abbrev Kd := Atom → Bool
def kindL (k : Kd) : List Atom := Atom.all.filter k
def atV (a : Atom) : V := .str a.s
def kindV (k : Kd) : List V := (kindL k).map atV
theorem Atom.mem_all (a : Atom) : a ∈ Atom.all := by cases a <;> decide
theorem Atom.s_inj {a b : Atom} (h : a.s = b.s) : a = b := by
  cases a <;> cases b <;> first | rfl | exact absurd h (by decide)
theorem mem_kindL {k : Kd} {a : Atom} : a ∈ kindL k ↔ k a = true := by
  unfold kindL
  rw [List.mem_filter]
  exact ⟨fun h => h.2, fun h => ⟨a.mem_all, h⟩⟩
theorem kindL_ext {k l : Kd} (h : ∀ a, k a = l a) : kindL k = kindL l := by rw [funext h]
theorem kindL_inj {k l : Kd} (h : kindL k = kindL l) : k = l := by
  funext a
  rw [Bool.eq_iff_iff, ← mem_kindL, ← mem_kindL, h]
theorem atV_inj {a b : Atom} (h : atV a = atV b) : a = b := Atom.s_inj (V.str.inj h)
theorem map_atV_inj : ∀ {xs ys : List Atom}, xs.map atV = ys.map atV → xs = ys
  | [], [], _ => rfl
  | [], _ :: _, h => by cases h
  | _ :: _, [], h => by cases h
  | x :: xs, y :: ys, h => by
    rw [List.map_cons, List.map_cons, List.cons.injEq] at h
    rw [atV_inj h.1, map_atV_inj h.2]
theorem kindL_len (k : Kd) : (kindL k).length ≤ 5 := Nat.le_trans (List.length_filter_le _ _) (by decide)
theorem kindV_len (k : Kd) : (kindV k).length ≤ 5 := by unfold kindV; rw [List.length_map]; exact kindL_len k
theorem flat_atoms (as : List Atom) : (as.map atV).all flatV = true := by
  rw [List.all_map]
  exact List.all_eq_true.mpr fun _ _ => rfl
theorem flat_kind (k : Kd) : (kindV k).all flatV = true := flat_atoms _
/-- is it among the atoms' words -/
theorem inV_atoms (as : List Atom) (a : Atom) : inV (atV a) (as.map atV) = decide (a ∈ as) := by
  unfold inV
  rw [Bool.eq_iff_iff, List.any_eq_true, decide_eq_true_eq]
  constructor
  · rintro ⟨y, hy, e⟩
    obtain ⟨b, hb, rfl⟩ := List.mem_map.mp hy
    have : b.s = a.s := by simpa [eqV, atV] using e
    rw [← Atom.s_inj this]
    exact hb
  · intro h
    exact ⟨atV a, List.mem_map_of_mem h, by simp [eqV, atV]⟩
theorem inV_kind (k : Kd) (a : Atom) : inV (atV a) (kindV k) = k a := by
  unfold kindV
  rw [inV_atoms]
  rw [Bool.eq_iff_iff, decide_eq_true_eq]
  exact mem_kindL
theorem inV_other (as : List Atom) {z : Str} (h : ∀ a : Atom, z ≠ a.s) : inV (.str z) (as.map atV) = false := by
  unfold inV
  rw [Bool.eq_false_iff]
  intro e
  obtain ⟨y, hy, e⟩ := List.any_eq_true.mp e
  obtain ⟨b, hb, rfl⟩ := List.mem_map.mp hy
  have : b.s = z := by simpa [eqV, atV] using e
  exact h b this.symm
theorem atoms_get {as : List Atom} {i : Nat} {x : V} (h : (as.map atV)[i]? = some x) : ∃ a, as[i]? = some a ∧ x = atV a := by
  rw [List.getElem?_map] at h
  cases e : as[i]? with
  | none => rw [e] at h; cases h
  | some a => rw [e] at h; exact ⟨a, rfl, (Option.some.inj h).symm⟩
/-- the data of atoms' words -/
def atD (as : List Atom) : List PyData := as.map fun a => .str a.s
theorem canLay_atoms : ∀ as : List Atom, PyData.canLayAll0 (atD as) = true
  | [] => by simp [atD, PyData.canLayAll0]
  | a :: r => by
    have ih := canLay_atoms r
    unfold atD at ih ⊢
    rw [List.map_cons, PyData.canLayAll0, ih, Bool.and_true]
    show PyData.canLay0 (.str a.s) = true
    rw [PyData.canLay0]
    cases a <;> decide +kernel
theorem depth_atoms : ∀ as : List Atom, PyData.depthAll (atD as) = 0
  | [] => by simp [atD, PyData.depthAll]
  | a :: r => by
    have ih := depth_atoms r
    unfold atD at ih ⊢
    rw [List.map_cons, PyData.depthAll, ih, PyData.depth]
    rfl
theorem shaped_atoms (as : List Atom) : SeqAt.shaped (.list (atD as)) = true ∧ SeqAt.shaped (.tuple (atD as)) = true := by
  constructor
  · exact Bool.and_eq_true_iff.mpr ⟨by rw [PyData.canLay0]; exact canLay_atoms as, decide_eq_true (by rw [PyData.depth, depth_atoms]; decide)⟩
  · exact Bool.and_eq_true_iff.mpr ⟨by rw [PyData.canLay0]; exact canLay_atoms as, decide_eq_true (by rw [PyData.depth, depth_atoms]; decide)⟩
theorem dpAll_atoms {K : PySem.W.Frag} {H : Hp} : ∀ as : List Atom, DpAll K H (as.map atV) (atD as)
  | [] => .nil
  | _ :: r => .cons (.str _) (dpAll_atoms r)
theorem eqvAll_atoms : ∀ as bs : List Atom, PyData.eqvAll (atD as) (atD bs) = decide (as = bs)
  | [], [] => by simp [atD, PyData.eqvAll]
  | [], _ :: _ => by simp [atD, PyData.eqvAll]
  | _ :: _, [] => by simp [atD, PyData.eqvAll]
  | a :: as, b :: bs => by
    have ih := eqvAll_atoms as bs
    unfold atD at ih ⊢
    simp only [List.map_cons, PyData.eqvAll, PyData.eqv]
    rw [ih]
    by_cases e : a = b
    · subst e
      by_cases e2 : as = bs <;> simp [e2]
    · have : ¬ a.s = b.s := fun z => e (Atom.s_inj z)
      simp [this, e]
theorem filterMap_atoms {F : V → Option V} {k : Kd} (h : ∀ a, F (atV a) = if k a = true then some (atV a) else none) : ∀ as : List Atom, (as.map atV).filterMap F = (as.filter k).map atV
  | [] => rfl
  | a :: r => by
    have ih := filterMap_atoms h r
    rw [List.map_cons, List.filterMap_cons, h a, List.filter_cons]
    cases e : k a with
    | true => simp [ih]
    | false => simp [ih]
section
variable {K : PySem.W.Frag} {H : Hp} {Q : VK}
theorem x_raise1 {C : Addr} {f : Str} {W : WX} {ta : TA} {D : Ends} {σ : L2.St} (h : ta σ H fun vs H1 => ∃ y, vs = [y] ∧ ∀ d, H1 d = none → W (.ref C) (some d) σ (upd H1 d (.xd [(f, y)]))) : tRaise1 C f W ta D σ H := h
theorem x_raise2 {C : Addr} {f g : Str} {W : WX} {ta : TA} {D : Ends} {σ : L2.St} (h : ta σ H fun vs H1 => ∃ y z, vs = [y, z] ∧ ∀ d, H1 d = none → W (.ref C) (some d) σ (upd H1 d (.xd [(g, z), (f, y)]))) : tRaise2 C f g W ta D σ H := h
theorem x_eqLA {p q : Addr} {as bs : List Atom} (h1 : SqL K H p (as.map atV)) (h2 : SqL K H q (bs.map atV)) (h : Q (.bl (decide (as = bs))) H) : rEqD K (.ref p) (.ref q) H Q :=
  ⟨_, _, .lst h1 (dpAll_atoms as), .lst h2 (dpAll_atoms bs), (shaped_atoms as).1, (shaped_atoms bs).1, by simp only [PyData.eqv]; rw [eqvAll_atoms]; exact h⟩
theorem x_neLA {p q : Addr} {as bs : List Atom} (h1 : SqL K H p (as.map atV)) (h2 : SqL K H q (bs.map atV)) (h : Q (.bl (!decide (as = bs))) H) : rNeD K (.ref p) (.ref q) H Q :=
  ⟨_, _, .lst h1 (dpAll_atoms as), .lst h2 (dpAll_atoms bs), (shaped_atoms as).1, (shaped_atoms bs).1, by simp only [PyData.eqv]; rw [eqvAll_atoms]; exact h⟩
theorem x_eqTA {p q : Addr} {as bs : List Atom} (h1 : SqT K H p (as.map atV)) (h2 : SqT K H q (bs.map atV)) (h : Q (.bl (decide (as = bs))) H) : rEqD K (.ref p) (.ref q) H Q :=
  ⟨_, _, .tup h1 (dpAll_atoms as), .tup h2 (dpAll_atoms bs), (shaped_atoms as).2, (shaped_atoms bs).2, by simp only [PyData.eqv]; rw [eqvAll_atoms]; exact h⟩
theorem sqT_new {p : Addr} {xs : List V} : SqT K (upd H p (.tup xs)) p xs := SqT.of upd_same
theorem sqL_new {p : Addr} {xs : List V} : SqL K (upd H p (.lst xs)) p xs := SqL.of upd_same
theorem sqT_ty {a : Addr} {xs : List V} (h : SqT K H a xs) : TyX K H (.ref a) (.type "tuple") := by
  rcases h with (h | ⟨o, h⟩) | ⟨o, its, n, hk, hc, _⟩
  · exact .base (.tup h)
  · exact .fTuple h
  · exact .kTuple hk hc
end
end Nv

namespace Nv
open PySem PySem.Spec PyProof.Rows L2 ClX TL
local macro_rules | `(tactic| walk_at "sx") => `(tactic| repeat (first
  | with_reducible refine x_seq ?_ | with_reducible refine x_asg ?_ | with_reducible refine x_name ?_ | ((with_reducible show tVar _ _ _ _); refine x_var rfl ?_) | with_reducible refine x_c ?_ | with_reducible refine x_op ?_
  | with_reducible refine x_un ?_ | with_reducible refine x_drop ?_ | with_reducible refine x_ret ?_ | with_reducible refine x_retN ?_ | with_reducible refine x_next ?_ | with_reducible refine x_ifS ?_ | with_reducible refine x_if ?_
  | with_reducible refine x_test ?_ | with_reducible refine x_blk ?_ | with_reducible refine x_and ?_ | with_reducible refine x_or ?_ | with_reducible refine x_not ?_ | with_reducible refine x_nil ?_ | with_reducible refine x_cons ?_
  | with_reducible refine x_cb ?_ | with_reducible refine x_call ?_ | with_reducible refine x_lst ?_ | with_reducible refine x_tup ?_ | with_reducible refine x_sub ?_ | with_reducible refine x_bm ?_ | with_reducible refine x_bm0 ?_
  | with_reducible refine x_sl ?_ | with_reducible refine x_noPart ?_ | with_reducible refine x_part ?_ | with_reducible refine x_intk ?_ | with_reducible refine x_tru ?_ | with_reducible refine x_truB ?_ | with_reducible refine x_truN ?_ | with_reducible refine x_truI ?_
  | with_reducible refine x_addI ?_ | with_reducible refine x_subI ?_ | with_reducible refine x_ltI ?_ | with_reducible refine x_leI ?_ | with_reducible refine x_gtI ?_ | with_reducible refine x_geI ?_ | with_reducible refine x_eqI ?_ | with_reducible refine x_neI ?_
  | with_reducible refine x_eqS ?_ | with_reducible refine x_neS ?_ | with_reducible refine x_intI ?_ | with_reducible refine x_abs ?_ | with_reducible refine x_inS ?_ | with_reducible refine x_notInS ?_
  | with_reducible refine x_true ?_ | with_reducible refine x_false ?_ | with_reducible refine x_ntrue ?_ | with_reducible refine x_nfalse ?_
  | with_reducible refine x_mulR (by first | decide | omega) (by first | decide | omega) ?_
  | with_reducible refine x_mulL (by first | decide | omega) (by first | decide | omega) ?_
  | with_reducible refine x_modI (by first | decide | assumption | omega) ?_
  | with_reducible refine x_fdivI (by first | decide | assumption | omega) (by first | decide | assumption | omega) ?_
  | with_reducible refine x_powL (k := 1000000000000000000) (by decide) (by decide) (by decide) (by decide) ?_
  | with_reducible refine x_powL (k := 1000000000) (by decide) (by decide) (by decide) (by decide) ?_
  | with_reducible refine x_for ?_ | with_reducible refine x_rng1 ?_ | with_reducible refine x_rng2 ?_ | with_reducible refine x_rng3 ?_ | with_reducible refine x_iList ?_ | with_reducible refine x_iTup ?_
  | with_reducible refine x_rngk1 (by first | decide | omega) (by first | decide | omega) ?_
  | with_reducible refine x_rngk2 (by first | decide | omega) (by first | decide | omega) (by first | decide | omega) (by first | decide | omega) ?_
  | with_reducible refine x_gcons ?_ | with_reducible refine x_gnil ?_ | with_reducible refine x_revL ?_ | with_reducible refine x_isN ?_ | with_reducible refine x_notN ?_ | with_reducible refine x_unNeg ?_
  | with_reducible refine x_bms tyV_str ?_
  | with_reducible refine x_try ?_ | with_reducible refine x_andT ?_ | with_reducible refine x_orT ?_
  | with_reducible refine x_fldN ?_ | with_reducible refine x_sFldN ?_ | with_reducible refine x_dnewK ?_ | with_reducible refine x_methW ?_ | with_reducible refine x_makeW ?_ | with_reducible refine x_propW ?_ | with_reducible refine x_kmeth ?_
  | with_reducible refine x_lc ?_ | with_reducible refine x_yes ?_ | with_reducible refine x_enumA ?_ | with_reducible refine x_boolB ?_ | with_reducible refine x_boolI ?_ | with_reducible refine x_raise1 ?_ | with_reducible refine x_raise2 ?_))
/-- an instance of Kind -/
def IsKind (K : PySem.W.Frag) (κ : Kap) (H : Hp) (a : Addr) (k : Kd) : Prop := ∃ dx t, H a = some (.ins (κ "Kind") dx [("kept", .ref t)]) ∧ SqT K H t (kindV k)
theorem IsKind.same {K : PySem.W.Frag} {κ : Kap} {H H' : Hp} {a : Addr} {k : Kd} (h : IsKind K κ H a k) (s : Same H H') : IsKind K κ H' a k := by
  obtain ⟨dx, t, h1, h2⟩ := h
  exact ⟨dx, t, s _ _ h1, Nv.Same.seqT s h2⟩
/-- what Kind(..) may meet in its list -/
def ItemOk (K : PySem.W.Frag) (H : Hp) (y : V) : Prop := (∃ z, y = .str z) ∨ (∃ m, TyX K H y (.type m) ∧ kitB m "str" = some false)
theorem ItemOk.same {K : PySem.W.Frag} {H H' : Hp} {y : V} (h : ItemOk K H y) (s : Same H H') : ItemOk K H' y := h.imp id fun ⟨m, h1, h2⟩ => ⟨m, tyX_same h1 s, h2⟩
def notAtom (y : V) : Prop := ∀ a : Atom, y ≠ atV a
theorem item_cases {K : PySem.W.Frag} {H : Hp} {y : V} (h : ItemOk K H y) : (∃ a : Atom, y = atV a) ∨ (notAtom y ∧ ((∃ z, y = .str z ∧ ∀ a : Atom, z ≠ a.s) ∨ (∃ m, TyX K H y (.type m) ∧ kitB m "str" = some false))) := by
  by_cases e : ∃ a : Atom, y = atV a
  · exact .inl e
  · have n : notAtom y := fun a z => e ⟨a, z⟩
    refine .inr ⟨n, ?_⟩
    rcases h with ⟨z, rfl⟩ | h
    · exact .inl ⟨z, rfl, fun a q => n a (by rw [q]; rfl)⟩
    · exact .inr h
def sp_Kind___init__ (K : PySem.W.Frag) (κ : Kap) : Sp := fun vs H Q E => ∃ (x dx p : Addr) (xs : List V), vs = [.ref x, .ref p] ∧ H x = some (.ins (κ "Kind") dx []) ∧ SqA K H p xs ∧ xs.length ≤ 1000000 ∧ (∀ y ∈ xs, ItemOk K H y) ∧
  (∀ as : List Atom, xs = as.map atV → ∀ H' t, (∀ b o, b ≠ x → H b = some o → H' b = some o) → H' x = some (.ins (κ "Kind") dx [("kept", .ref t)]) → SqT K H' t (kindV fun a => decide (a ∈ as)) → Q .non H') ∧
  (∀ (as : List Atom) (y : V) (r : List V), xs = as.map atV ++ y :: r → notAtom y → ∀ H' d, Same H H' → H' d = none → E (.ref (κ "InvalidKind")) (some d) (upd H' d (.xd [("number", .int (as.length + 1))])))
def sp_Kind_atoms (K : PySem.W.Frag) (κ : Kap) : Sp := fun vs H Q _ => ∃ (a dx t : Addr), vs = [.ref a] ∧ H a = some (.ins (κ "Kind") dx [("kept", .ref t)]) ∧ Q (.ref t) H
/-- the canonical text -/
def wordStep (ws : List Str) (a : Atom) : List Str := if a = .tru ∧ ("false" : Str) ∈ ws then ws.set (ws.length - 1) "bool" else ws ++ [a.s]
def kindWords (as : List Atom) : List Str := as.foldl wordStep []
def kindText (k : Kd) : Str := if kindL k = [] then "never" else Txt.join "|" (kindWords (kindL k))
theorem wordStep_len (ws : List Str) (a : Atom) : (wordStep ws a).length ≤ ws.length + 1 := by
  unfold wordStep
  split <;> simp
theorem wordStep_short (ws : List Str) (a : Atom) (h : ∀ w ∈ ws, w.length ≤ 5) : ∀ w ∈ wordStep ws a, w.length ≤ 5 := by
  unfold wordStep
  split
  · intro w hw
    rcases List.mem_or_eq_of_mem_set hw with h1 | h1
    · exact h w h1
    · rw [h1]; decide
  · intro w hw
    rcases List.mem_append.mp hw with h1 | h1
    · exact h w h1
    · have : w = a.s := by simpa using h1
      rw [this]
      cases a <;> decide
theorem kindWords_take {as : List Atom} {i : Nat} {a : Atom} (h : as[i]? = some a) : kindWords (as.take (i + 1)) = wordStep (kindWords (as.take i)) a := by
  unfold kindWords
  rw [List.take_add_one, h, List.foldl_append]
  rfl
theorem kindWords_ok (as : List Atom) : (kindWords as).length ≤ as.length ∧ ∀ w ∈ kindWords as, w.length ≤ 5 := by
  unfold kindWords
  have : ∀ (as : List Atom) (ws : List Str), (∀ w ∈ ws, w.length ≤ 5) → (as.foldl wordStep ws).length ≤ ws.length + as.length ∧ ∀ w ∈ as.foldl wordStep ws, w.length ≤ 5 := by
    intro as
    induction as with
    | nil => intro ws h; exact ⟨by simp, h⟩
    | cons a r ih =>
      intro ws h
      have := ih (wordStep ws a) (wordStep_short ws a h)
      have l := wordStep_len ws a
      exact ⟨by rw [List.foldl_cons, List.length_cons]; omega, this.2⟩
  have := this as [] (by simp)
  simpa using this
theorem inV_strs (w : Str) (ws : List Str) : inV (.str w) (ws.map V.str) = decide (w ∈ ws) := by
  unfold inV
  rw [Bool.eq_iff_iff, List.any_eq_true, decide_eq_true_eq]
  constructor
  · rintro ⟨y, hy, e⟩
    obtain ⟨b, hb, rfl⟩ := List.mem_map.mp hy
    have : b = w := by simpa [eqV] using e
    rw [← this]
    exact hb
  · intro h
    exact ⟨.str w, List.mem_map_of_mem h, by simp [eqV]⟩
theorem flat_strs (ws : List Str) : (ws.map V.str).all flatV = true := by
  rw [List.all_map]
  exact List.all_eq_true.mpr fun _ _ => rfl
theorem sum_len_le : ∀ (ws : List Str) (n : Nat), (∀ w ∈ ws, w.length ≤ n) → (ws.map (·.length)).sum ≤ ws.length * n
  | [], _, _ => by simp
  | w :: r, n, h => by
    have h1 := h w List.mem_cons_self
    have h2 := sum_len_le r n fun v hv => h v (List.mem_cons_of_mem _ hv)
    rw [List.map_cons, List.sum_cons, List.length_cons, Nat.add_mul]
    omega
def sp_text_of (K : PySem.W.Frag) (κ : Kap) : Sp := fun vs H Q _ => ∃ (p : Addr) (k : Kd), vs = [.ref p] ∧ SqT K H p (kindV k) ∧ ∀ H', Same H H' → Q (.str (kindText k)) H'
def sp_Kind_text (K : PySem.W.Frag) (κ : Kap) : Sp := fun vs H Q _ => ∃ (a : Addr) (k : Kd), vs = [.ref a] ∧ IsKind K κ H a k ∧ ∀ H', Same H H' → Q (.str (kindText k)) H'
/-- a def of two kinds that hands a new one back -/
def spKK (f : Kd → Kd → Kd) (K : PySem.W.Frag) (κ : Kap) : Sp := fun vs H Q _ => ∃ (a b : Addr) (k l : Kd), vs = [.ref a, .ref b] ∧ IsKind K κ H a k ∧ IsKind K κ H b l ∧ ∀ c H', Same H H' → IsKind K κ H' c (f k l) → Q (.ref c) H'
def sp_Kind___or__ (K : PySem.W.Frag) (κ : Kap) : Sp := spKK (fun k l a => k a || l a) K κ
def sp_Kind___and__ (K : PySem.W.Frag) (κ : Kap) : Sp := spKK (fun k l a => k a && l a) K κ
def sp_Kind___sub__ (K : PySem.W.Frag) (κ : Kap) : Sp := spKK (fun k l a => k a && !l a) K κ
def sp_Kind___eq__ (K : PySem.W.Frag) (κ : Kap) : Sp := fun vs H Q _ => ∃ (a : Addr) (y : V) (k : Kd), vs = [.ref a, y] ∧ IsKind K κ H a k ∧
  ((∃ b l, y = .ref b ∧ IsKind K κ H b l ∧ Q (.bl (decide (kindL k = kindL l))) H) ∨ (∃ T ∈ flatT, TyX K H y (.type T) ∧ Q (.bl false) H))
def sp_Kind___contains__ (K : PySem.W.Frag) (κ : Kap) : Sp := fun vs H Q _ => ∃ (a : Addr) (y : V) (k : Kd), vs = [.ref a, y] ∧ IsKind K κ H a k ∧
  ((∃ c : Atom, y = atV c ∧ Q (.bl (k c)) H) ∨ ((∃ z, y = .str z ∧ ∀ a : Atom, z ≠ a.s) ∧ Q (.bl false) H) ∨ ((∃ m, TyX K H y (.type m) ∧ kitB m "str" = some false) ∧ Q (.bl false) H))
def sp_Kind___len__ (K : PySem.W.Frag) (κ : Kap) : Sp := fun vs H Q _ => ∃ (a : Addr) (k : Kd), vs = [.ref a] ∧ IsKind K κ H a k ∧ Q (.int ((kindL k).length : Nat)) H
def sp_Kind___bool__ (K : PySem.W.Frag) (κ : Kap) : Sp := fun vs H Q _ => ∃ (a : Addr) (k : Kd), vs = [.ref a] ∧ IsKind K κ H a k ∧ Q (.bl (decide (kindL k ≠ []))) H
/-- text_of, slots ['atoms', 'words', 'atom'] -/
def t_text_of (K : PySem.W.Frag) (κ : Kap) (E : XK) : TS :=
  (tSeq (tIfS (tTest (tOp rEq (tCB (rLenU K) (tCons (tVar 0) tNil)) (tC (.int 0)))) (tRet (tC (.str "never"))) tNext)
  (tSeq (tAsg (tLst tNil) (gName 1))
  (tSeq (tFor (iTup K (tVar 0)) (gName 2) (tIfS (tAnd (tTest (tOp rEq (tVar 2) (tC (.str "true")))) (tTest (tOp (rInU K) (tC (.str "false")) (tVar 1)))) (tAsg (tC (.str "bool")) (gSub (tVar 1) (tUn (rU fun i => .int (-i)) (tC (.int 1))) rSetL)) (tDrop (tBM K "list" rAppend (tVar 1) (tCons (tVar 2) tNil)))))
  (tRet (tBM K "str" (rJoinU K) (tC (.str "|")) (tCons (tVar 1) tNil))))))
abbrev N_text_of : List Str := ["atoms", "words", "atom"]
/-- Kind___init__, slots ['self', 'atoms', 'found', 'index', 'atom'] -/
def t_Kind___init__ (K : PySem.W.Frag) (κ : Kap) (E : XK) : TS :=
  (tSeq (tAsg tDNewK (gName 2))
  (tSeq (tFor (iEnumA K (tCons (tVar 1) tNil)) (gTup K 2 (gCons (gName 3) (gCons (gName 4) gNil))) (tSeq (tIfS (tOr (tNot (tTruU K (tCB (rIsiU K) (tCons (tVar 4) (tCons (tC (.ty "str")) tNil))))) (tTest (tOp (rNotInU K) (tVar 4) (tC (.ref (κ "Kind.ATOMS")))))) (tRaise1 (κ "InvalidKind") "number" (fun cls d _ H => E cls d H) (tCons (tOp (rAddU K) (tVar 3) (tC (.int 1))) tNil)) tNext)
  (tAsg (tC (.bl true)) (gSub (tVar 2) (tVar 4) rSetD))))
  (sFldN [κ "Kind"] (tVar 0) (tCB (rTupleU K) (tCons (tLc (iTup K (tC (.ref (κ "Kind.ATOMS")))) (gName 4) (tTest (tOp rInDct (tVar 4) (tVar 2))) (tVar 4) [4]) tNil)) "kept")))
abbrev N_Kind___init__ : List Str := ["self", "atoms", "found", "index", "atom"]
/-- Kind_atoms, slots ['self'] -/
def t_Kind_atoms (K : PySem.W.Frag) (κ : Kap) (E : XK) : TS :=
  (tRet (tFldN [κ "Kind"] (tVar 0) "kept"))
abbrev N_Kind_atoms : List Str := ["self"]
/-- Kind_text, slots ['self'] -/
def t_Kind_text (K : PySem.W.Frag) (κ : Kap) (E : XK) : TS :=
  (tRet (tCallS (sp_text_of K κ) (WE (fun cls d _ H => E cls d H)) (tCons (tFldN [κ "Kind"] (tVar 0) "kept") tNil)))
abbrev N_Kind_text : List Str := ["self"]
/-- Kind___or__, slots ['self', 'other'] -/
def t_Kind___or__ (K : PySem.W.Frag) (κ : Kap) (E : XK) : TS :=
  (tRet (tMakeW (κ "Kind") (sp_Kind___init__ K κ) [] (WE (fun cls d _ H => E cls d H)) (tCons (tOp (rCatA K) (tFldN [κ "Kind"] (tVar 0) "kept") (tFldN [κ "Kind"] (tVar 1) "kept")) tNil)))
abbrev N_Kind___or__ : List Str := ["self", "other"]
/-- Kind___and__, slots ['self', 'other', 'atom'] -/
def t_Kind___and__ (K : PySem.W.Frag) (κ : Kap) (E : XK) : TS :=
  (tRet (tMakeW (κ "Kind") (sp_Kind___init__ K κ) [] (WE (fun cls d _ H => E cls d H)) (tCons (tLc (iTup K (tFldN [κ "Kind"] (tVar 0) "kept")) (gName 2) (tTest (tOp (rInU K) (tVar 2) (tFldN [κ "Kind"] (tVar 1) "kept"))) (tVar 2) [2]) tNil)))
abbrev N_Kind___and__ : List Str := ["self", "other", "atom"]
/-- Kind___sub__, slots ['self', 'other', 'atom'] -/
def t_Kind___sub__ (K : PySem.W.Frag) (κ : Kap) (E : XK) : TS :=
  (tRet (tMakeW (κ "Kind") (sp_Kind___init__ K κ) [] (WE (fun cls d _ H => E cls d H)) (tCons (tLc (iTup K (tFldN [κ "Kind"] (tVar 0) "kept")) (gName 2) (tTest (tOp (rNotInU K) (tVar 2) (tFldN [κ "Kind"] (tVar 1) "kept"))) (tVar 2) [2]) tNil)))
abbrev N_Kind___sub__ : List Str := ["self", "other", "atom"]
/-- Kind___eq__, slots ['self', 'other'] -/
def t_Kind___eq__ (K : PySem.W.Frag) (κ : Kap) (E : XK) : TS :=
  (tRet (tAndT K (tCB (rIsiC K (κ "Kind") []) (tCons (tVar 1) (tCons (tC (.ref (κ "Kind"))) tNil))) (tOp (rEqD K) (tFldN [κ "Kind"] (tVar 0) "kept") (tFldN [κ "Kind"] (tVar 1) "kept"))))
abbrev N_Kind___eq__ : List Str := ["self", "other"]
/-- Kind___contains__, slots ['self', 'atom'] -/
def t_Kind___contains__ (K : PySem.W.Frag) (κ : Kap) (E : XK) : TS :=
  (tRet (tAndT K (tCB (rIsiU K) (tCons (tVar 1) (tCons (tC (.ty "str")) tNil))) (tOp (rInU K) (tVar 1) (tFldN [κ "Kind"] (tVar 0) "kept"))))
abbrev N_Kind___contains__ : List Str := ["self", "atom"]
/-- Kind___len__, slots ['self'] -/
def t_Kind___len__ (K : PySem.W.Frag) (κ : Kap) (E : XK) : TS :=
  (tRet (tCB (rLenU K) (tCons (tFldN [κ "Kind"] (tVar 0) "kept") tNil)))
abbrev N_Kind___len__ : List Str := ["self"]
/-- Kind___bool__, slots ['self'] -/
def t_Kind___bool__ (K : PySem.W.Frag) (κ : Kap) (E : XK) : TS :=
  (tRet (tCB rBoolU (tCons (tOp rGtU (tCB (rLenU K) (tCons (tFldN [κ "Kind"] (tVar 0) "kept") tNil)) (tC (.int 0))) tNil)))
abbrev N_Kind___bool__ : List Str := ["self"]
theorem l_Kind___init__ {K : PySem.W.Frag} {κ : Kap} {vs : List V} {H : Hp} {Q : VK} {E : XK} (h : sp_Kind___init__ K κ vs H Q E) : vs.length = 2 := by obtain ⟨_, _, _, _, rfl, _⟩ := h; rfl
theorem l_Kind_atoms {K : PySem.W.Frag} {κ : Kap} {vs : List V} {H : Hp} {Q : VK} {E : XK} (h : sp_Kind_atoms K κ vs H Q E) : vs.length = 1 := by obtain ⟨_, _, _, rfl, _⟩ := h; rfl
theorem l_text_of {K : PySem.W.Frag} {κ : Kap} {vs : List V} {H : Hp} {Q : VK} {E : XK} (h : sp_text_of K κ vs H Q E) : vs.length = 1 := by obtain ⟨_, _, rfl, _⟩ := h; rfl
theorem l_Kind_text {K : PySem.W.Frag} {κ : Kap} {vs : List V} {H : Hp} {Q : VK} {E : XK} (h : sp_Kind_text K κ vs H Q E) : vs.length = 1 := by obtain ⟨_, _, rfl, _⟩ := h; rfl
theorem l_Kind___or__ {K : PySem.W.Frag} {κ : Kap} {vs : List V} {H : Hp} {Q : VK} {E : XK} (h : sp_Kind___or__ K κ vs H Q E) : vs.length = 2 := by obtain ⟨_, _, _, _, rfl, _⟩ := h; rfl
theorem l_Kind___and__ {K : PySem.W.Frag} {κ : Kap} {vs : List V} {H : Hp} {Q : VK} {E : XK} (h : sp_Kind___and__ K κ vs H Q E) : vs.length = 2 := by obtain ⟨_, _, _, _, rfl, _⟩ := h; rfl
theorem l_Kind___sub__ {K : PySem.W.Frag} {κ : Kap} {vs : List V} {H : Hp} {Q : VK} {E : XK} (h : sp_Kind___sub__ K κ vs H Q E) : vs.length = 2 := by obtain ⟨_, _, _, _, rfl, _⟩ := h; rfl
theorem l_Kind___eq__ {K : PySem.W.Frag} {κ : Kap} {vs : List V} {H : Hp} {Q : VK} {E : XK} (h : sp_Kind___eq__ K κ vs H Q E) : vs.length = 2 := by obtain ⟨_, _, _, rfl, _⟩ := h; rfl
theorem l_Kind___contains__ {K : PySem.W.Frag} {κ : Kap} {vs : List V} {H : Hp} {Q : VK} {E : XK} (h : sp_Kind___contains__ K κ vs H Q E) : vs.length = 2 := by obtain ⟨_, _, _, rfl, _⟩ := h; rfl
theorem l_Kind___len__ {K : PySem.W.Frag} {κ : Kap} {vs : List V} {H : Hp} {Q : VK} {E : XK} (h : sp_Kind___len__ K κ vs H Q E) : vs.length = 1 := by obtain ⟨_, _, rfl, _⟩ := h; rfl
theorem l_Kind___bool__ {K : PySem.W.Frag} {κ : Kap} {vs : List V} {H : Hp} {Q : VK} {E : XK} (h : sp_Kind___bool__ K κ vs H Q E) : vs.length = 1 := by obtain ⟨_, _, rfl, _⟩ := h; rfl
/-- Kind(p): the promise of its making -/
theorem mk_kind {K : PySem.W.Frag} {κ : Kap} {H : Hp} {p : Addr} {as : List Atom} {k : Kd} {R : Addr → Hp → Prop} {E : XK} (hp : SqA K H p (as.map atV)) (hz : as.length ≤ 1000000) (hk : ∀ a, k a = decide (a ∈ as)) (h : ∀ c H', Same H H' → IsKind K κ H' c k → R c H') :
    ∀ x dx, H x = none → H dx = none → dx ≠ x → sp_Kind___init__ K κ (.ref x :: ([.ref p] ++ [])) (upd (upd H dx (.own x)) x (.ins (κ "Kind") dx [])) (fun v H2 => v = .non ∧ R x H2) E := by
  intro x dx hx hdx hne
  have s1 : Same H (upd (upd H dx (.own x)) x (.ins (κ "Kind") dx [])) := (same_new hdx).trans (same_new (by rw [upd_ne (Ne.symm hne)]; exact hx))
  have ek : k = fun a => decide (a ∈ as) := funext hk
  refine ⟨x, dx, p, as.map atV, rfl, upd_same, Nv.Same.seqA s1 hp, by rw [List.length_map]; exact hz, fun y hy => ?_, fun as' e H' t fr hx' ht => ⟨rfl, h x H' (fun b o hb => ?_) ⟨dx, t, hx', ?_⟩⟩, fun as' y r e n => ?_⟩
  · obtain ⟨a, _, rfl⟩ := List.mem_map.mp hy
    exact .inl ⟨_, rfl⟩
  · exact fr b o (fun z => by rw [z, hx] at hb; cases hb) (s1 _ _ hb)
  · rw [ek, map_atV_inj e]
    exact ht
  · exfalso
    have : y ∈ as.map atV := by rw [e]; simp
    obtain ⟨a, _, rfl⟩ := List.mem_map.mp this
    exact n a rfl
theorem r_Kind___init__ (K : PySem.W.Frag) (κ : Kap) (hA : ∀ H, SqT K H (κ "Kind.ATOMS") (Atom.all.map atV)) (vs : List V) (H : Hp) (Q : VK) (E : XK) (h : sp_Kind___init__ K κ vs H Q E) :
    t_Kind___init__ K κ E { nx := fun _ H' => Q .non H', rt := Q } (L2.start N_Kind___init__ vs) H := by
  obtain ⟨x, dx, p, xs, rfl, hx, hp, hz, hi, good, bad⟩ := h
  show t_Kind___init__ K κ E _ [some (.ref x), some (.ref p), none, none, none] H
  unfold t_Kind___init__
  walk_at "sx"
  intro fd hfd
  walk_at "sx"
  have hpx : ∀ H', Same H H' → SqA K H' p xs := fun H' e => Nv.Same.seqA e hp
  refine ⟨p, xs, rfl, hpx _ (same_new hfd), fun J G wk hG => ?_⟩
  refine for_it wk (fun i σ H' => ∃ (z3 z4 : Option V) (as : List Atom) (kvs : List (Key × V)), σ = [some (.ref x), some (.ref p), some (.ref fd), z3, z4] ∧ xs.take i = as.map atV ∧ H' fd = some (.dK kvs) ∧ (∀ a : Atom, (valV kvs (Sum.inr a.s)).isSome = decide (a ∈ as)) ∧ kvs.length ≤ i ∧ Same H H')
    ⟨none, none, [], [], rfl, rfl, upd_same, fun a => by simp [valV_nil], Nat.le_refl _, same_new hfd⟩ (fun i σ H' _ ⟨_, _, _, _, _, _, _, _, _, e⟩ => hG H' (keepQ_new e rfl)) ?_ ?_
  · rintro i v σ H1 H2 hlt ⟨z3, z4, as, kvs, rfl, htk, hd, hk, hl, sm⟩ ⟨T, a, y, rfl, hT, rfl, ha, hy⟩
    cases ha
    have hlen : as.length = i := by
      have := congrArg List.length htk
      rw [List.length_take, List.length_map] at this
      omega
    have hmem : y ∈ xs := List.mem_of_getElem? hy
    have hfT : fd ≠ T := fun e => by rw [← e, hd] at hT; cases hT
    have sm2 : Same H (upd H1 T (.tup [.int (i : Nat), y])) := sm.trans (same_new hT)
    refine x_gtup sqT_new rfl ?_
    walk_at "sx"
    rcases item_cases (hi y hmem) with ⟨c, rfl⟩ | ⟨hn, hb⟩
    · refine x_isi (b := true) (.base (.str _)) (by decide +kernel) ?_
      walk_at "sx"
      refine x_notInT (hA _) rfl (flat_atoms _) ?_
      rw [inV_atoms, decide_eq_true c.mem_all]
      walk_at "sx"
      refine ⟨fd, _, rfl, DPut.k (k := Sum.inr c.s) (by rw [upd_ne hfT]; exact hd) (by rw [sizeLine_eq]; omega), ?_⟩
      have hT' : T ≠ fd := Ne.symm hfT
      have hy' : xs[i]? = some (atV c) := hy
      refine ⟨_, _, as ++ [c], putK kvs (Sum.inr c.s) (.bl true), rfl, ?_, upd_same, fun a => ?_, ?_, same_mut sm2 hfd⟩
      · rw [List.take_add_one, htk, hy', List.map_append]; rfl
      · rw [valV_put]
        by_cases e : a = c
        · subst e; simp
        · rw [if_neg (fun z => e (Atom.s_inj (Sum.inr.inj z))), hk a]
          simp [e]
      · have := length_putK kvs (Sum.inr c.s) (.bl true); omega
    · have hxs : xs = as.map atV ++ y :: xs.drop (i + 1) := by
        rw [← htk]
        have hy' : xs[i]? = some y := hy
        have h1 := List.getElem_cons_drop (as := xs) (i := i) hlt
        rw [(List.getElem?_eq_some_iff.mp hy').2] at h1
        rw [h1, List.take_append_drop]
      have out : ∀ d, (upd H1 T (.tup [.int (i : Nat), y])) d = none → E (.ref (κ "InvalidKind")) (some d) (upd (upd H1 T (.tup [.int (i : Nat), y])) d (.xd [("number", .int ((i : Nat) + 1))])) := fun d hd' => by
        have := bad as y _ hxs hn _ d sm2 hd'
        rw [hlen] at this
        exact this
      rcases hb with ⟨z, rfl, hz'⟩ | ⟨m, ty, kb⟩
      · refine x_isi (b := true) (.base (.str _)) (by decide +kernel) ?_
        walk_at "sx"
        refine x_notInT (hA _) rfl (flat_atoms _) ?_
        rw [inV_other _ hz']
        walk_at "sx"
        exact ⟨_, rfl, out⟩
      · refine x_isi (tyX_same ty sm2) kb ?_
        walk_at "sx"
        exact ⟨_, rfl, out⟩
  · rintro σ H1 ⟨z3, z4, as, kvs, rfl, htk, hd, hk, hl, sm⟩
    rw [List.take_length] at htk
    dsimp only
    walk_at "sx"
    refine x_iTupk (hA _) ?_
    intro D hD
    refine lc_pure (K := K) walk_tup (fun v => match v with | .str z => if (valV kvs (Sum.inr z)).isSome = true then some (.str z) else none | _ => none) hD (by rw [List.length_map]; decide) (fun H' _ => hA H') (fun i v H' hv sm' R R0 h1 h0 => ?_) fun H' sm' hD' => ?_
    · obtain ⟨a, _, rfl⟩ := atoms_get hv
      walk_at "sx"
      refine ⟨rfl, ?_⟩
      walk_at "sx"
      refine x_inDct (DGet.k (k := Sum.inr a.s) (sm' _ _ hd)) ?_
      walk_at "sx"
      cases e : (valV kvs (Sum.inr a.s)).isSome with
      | true =>
        walk_at "sx"
        exact h1 _ (by show (if (valV kvs (Sum.inr a.s)).isSome = true then some (V.str a.s) else none) = _; rw [e]; rfl) _ (Same.refl _)
      | false =>
        walk_at "sx"
        exact h0 (by show (if (valV kvs (Sum.inr a.s)).isSome = true then some (V.str a.s) else none) = _; rw [e]; rfl) _ (Same.refl _)
    · rw [filterMap_atoms (k := fun a => decide (a ∈ as)) (fun a => by show (if (valV kvs (Sum.inr a.s)).isSome = true then some (V.str a.s) else none) = _; rw [hk a]; rfl)] at hD'
      walk_at "sx"
      refine x_tupleL (SqL.of hD') fun t ht => ?_
      walk_at "sx"
      have hx3 : (upd H' t (.tup (kindV fun a => decide (a ∈ as)))) x = some (.ins (κ "Kind") dx []) := upd_new (sm' _ _ (sm _ _ hx)) ht
      refine x_put List.mem_cons_self hx3 (by decide) ?_
      refine good as htk _ t (fun b o hb h => ?_) upd_same ?_
      · rw [upd_ne hb]
        exact upd_new (sm' _ _ (sm _ _ h)) ht
      · exact SqT.of (by rw [upd_ne (fun z => by rw [z] at ht; rw [sm' _ _ (sm _ _ hx)] at ht; cases ht), upd_same]; rfl)
theorem r_Kind_atoms (K : PySem.W.Frag) (κ : Kap) (vs : List V) (H : Hp) (Q : VK) (E : XK) (h : sp_Kind_atoms K κ vs H Q E) :
    t_Kind_atoms K κ E { nx := fun _ H' => Q .non H', rt := Q } (L2.start N_Kind_atoms vs) H := by
  obtain ⟨a, dx, t, rfl, ha, q⟩ := h
  show t_Kind_atoms K κ E _ [some (.ref a)] H
  unfold t_Kind_atoms
  walk_at "sx"
  exact x_at List.mem_cons_self ha rfl q
theorem r_text_of (K : PySem.W.Frag) (κ : Kap) (vs : List V) (H : Hp) (Q : VK) (E : XK) (h : sp_text_of K κ vs H Q E) :
    t_text_of K κ E { nx := fun _ H' => Q .non H', rt := Q } (L2.start N_text_of vs) H := by
  obtain ⟨p, k, rfl, hp, q⟩ := h
  show t_text_of K κ E _ [some (.ref p), none, none] H
  unfold t_text_of
  walk_at "sx"
  refine x_lenT hp ?_
  walk_at "sx"
  have lk : (kindV k).length = (kindL k).length := by unfold kindV; rw [List.length_map]
  refine x_dec (fun c => ?_) (fun c => ?_)
  · walk_at "sx"
    have := q H (Same.refl _)
    unfold kindText at this
    rw [if_pos (List.length_eq_zero_iff.mp (by omega))] at this
    exact this
  · walk_at "sx"
    refine ⟨szL rfl, fun w hw => ?_⟩
    walk_at "sx"
    have hp1 : ∀ H', Same H H' → SqT K H' p (kindV k) := fun H' e => Nv.Same.seqT e hp
    refine x_iTupk (hp1 _ (same_new hw)) ?_
    refine for_it (walk_tup (xs := kindV k)) (fun i σ H' => ∃ z2 : Option V, σ = [some (.ref p), some (.ref w), z2] ∧ Same H H' ∧ H' w = some (.lst ((kindWords ((kindL k).take i)).map V.str))) ⟨none, rfl, same_new hw, upd_same⟩ (fun i σ H' _ ⟨_, _, e, _⟩ => hp1 H' e) ?_ ?_
    · rintro i v σ H1 H2 hlt ⟨z2, rfl, sm, hw1⟩ ⟨rfl, hv⟩
      obtain ⟨a, ha, rfl⟩ := atoms_get hv
      have hi5 : i < 5 := by have := kindL_len k; omega
      have ok := kindWords_ok ((kindL k).take i)
      have okl : (kindWords ((kindL k).take i)).length ≤ 5 := Nat.le_trans ok.1 (by rw [List.length_take]; omega)
      walk_at "sx"
      refine x_eqS ?_
      walk_at "sx"
      have stp := kindWords_take ha
      by_cases ct : a = .tru
      · subst ct
        rw [decide_eq_true (show Atom.tru.s = "true" from rfl)]
        walk_at "sx"
        refine x_inL (SqL.of hw1) rfl (flat_strs _) ?_
        rw [inV_strs]
        walk_at "sx"
        refine x_dec (fun cf => ?_) (fun cf => ?_)
        · walk_at "sx"
          have hne : (kindWords ((kindL k).take i)).length ≠ 0 := fun z => by rw [List.length_eq_zero_iff.mp z] at cf; cases cf
          refine x_setL hw1 (j := (kindWords ((kindL k).take i)).length - 1) ?_ ?_
          · rw [List.length_map]
            show ixN _ (-1) = _
            unfold ixN
            rw [if_neg (by decide), if_pos (by omega)]
            congr 1
            omega
          · refine ⟨_, rfl, same_mut sm hw, ?_⟩
            rw [upd_same, stp]
            unfold wordStep
            rw [if_pos ⟨rfl, cf⟩, List.map_set]
        · walk_at "sx"
          refine x_bms (tyV_lst hw1) ?_
          walk_at "sx"
          refine x_append hw1 (by rw [List.length_map, sizeLine_eq]; omega) ?_
          walk_at "sx"
          refine ⟨_, rfl, same_mut sm hw, ?_⟩
          rw [upd_same, stp]
          unfold wordStep
          rw [if_neg fun z => cf z.2, List.map_append]
          rfl
      · rw [decide_eq_false (show ¬ a.s = "true" from fun z => ct (Atom.s_inj (b := .tru) z))]
        walk_at "sx"
        refine x_bms (tyV_lst hw1) ?_
        walk_at "sx"
        refine x_append hw1 (by rw [List.length_map, sizeLine_eq]; omega) ?_
        walk_at "sx"
        refine ⟨_, rfl, same_mut sm hw, ?_⟩
        rw [upd_same, stp]
        unfold wordStep
        rw [if_neg fun z => ct z.1, List.map_append]
        rfl
    · rintro σ H1 ⟨z2, rfl, sm, hw1⟩
      rw [lk, List.take_length] at hw1
      walk_at "sx"
      have ok := kindWords_ok (kindL k)
      have l5 := kindL_len k
      refine x_join (SqL.of hw1) ?_ ?_
      · have := sum_len_le _ 5 ok.2
        have e1 : (("|" : Str)).length = 1 := rfl
        rw [e1]
        omega
      · have := q H1 sm
        unfold kindText at this
        rw [if_neg (fun z => c (by rw [lk, z]; rfl))] at this
        exact this
theorem r_Kind_text (K : PySem.W.Frag) (κ : Kap) (vs : List V) (H : Hp) (Q : VK) (E : XK) (h : sp_Kind_text K κ vs H Q E) :
    t_Kind_text K κ E { nx := fun _ H' => Q .non H', rt := Q } (L2.start N_Kind_text vs) H := by
  obtain ⟨a, k, rfl, ⟨dx, t, ha, ht⟩, q⟩ := h
  show t_Kind_text K κ E _ [some (.ref a)] H
  unfold t_Kind_text
  walk_at "sx"
  refine x_at List.mem_cons_self ha rfl ?_
  walk_at "sx"
  exact ⟨t, k, rfl, ht, q⟩
theorem r_Kind___len__ (K : PySem.W.Frag) (κ : Kap) (vs : List V) (H : Hp) (Q : VK) (E : XK) (h : sp_Kind___len__ K κ vs H Q E) :
    t_Kind___len__ K κ E { nx := fun _ H' => Q .non H', rt := Q } (L2.start N_Kind___len__ vs) H := by
  obtain ⟨a, k, rfl, ⟨dx, t, ha, ht⟩, q⟩ := h
  show t_Kind___len__ K κ E _ [some (.ref a)] H
  unfold t_Kind___len__
  walk_at "sx"
  refine x_at List.mem_cons_self ha rfl ?_
  walk_at "sx"
  refine x_lenT ht ?_
  unfold kindV
  rw [List.length_map]
  exact q
theorem r_Kind___bool__ (K : PySem.W.Frag) (κ : Kap) (vs : List V) (H : Hp) (Q : VK) (E : XK) (h : sp_Kind___bool__ K κ vs H Q E) :
    t_Kind___bool__ K κ E { nx := fun _ H' => Q .non H', rt := Q } (L2.start N_Kind___bool__ vs) H := by
  obtain ⟨a, k, rfl, ⟨dx, t, ha, ht⟩, q⟩ := h
  show t_Kind___bool__ K κ E _ [some (.ref a)] H
  unfold t_Kind___bool__
  walk_at "sx"
  refine x_at List.mem_cons_self ha rfl ?_
  walk_at "sx"
  refine x_lenT ht ?_
  walk_at "sx"
  have e : decide ((0 : Int) < ((kindV k).length : Int)) = decide (kindL k ≠ []) := by
    unfold kindV
    rw [List.length_map]
    cases kindL k with
    | nil => rfl
    | cons a r => simp
  rw [e]
  exact q
theorem r_Kind___or__ (K : PySem.W.Frag) (κ : Kap) (vs : List V) (H : Hp) (Q : VK) (E : XK) (h : sp_Kind___or__ K κ vs H Q E) :
    t_Kind___or__ K κ E { nx := fun _ H' => Q .non H', rt := Q } (L2.start N_Kind___or__ vs) H := by
  obtain ⟨a, b, k, l, rfl, ⟨dx, t, ha, ht⟩, ⟨dy, u, hb, hu⟩, q⟩ := h
  show t_Kind___or__ K κ E _ [some (.ref a), some (.ref b)] H
  unfold t_Kind___or__
  walk_at "sx"
  refine x_at List.mem_cons_self ha rfl ?_
  walk_at "sx"
  refine x_at List.mem_cons_self hb rfl ?_
  have hk : ∀ c, (fun k l a => k a || l a : Kd → Kd → Kd) k l c = decide (c ∈ kindL k ++ kindL l) := fun c => by
    show (k c || l c) = _
    rw [Bool.eq_iff_iff, decide_eq_true_eq, List.mem_append, mem_kindL, mem_kindL, Bool.or_eq_true]
  have hz : (kindL k ++ kindL l).length ≤ 1000000 := by
    have := kindL_len k; have := kindL_len l
    rw [List.length_append]; omega
  refine ⟨t, u, _, _, rfl, rfl, ht, hu, by have := kindV_len k; have := kindV_len l; rw [sizeLine_eq]; omega, fun e => ?_, fun e1 e2 => ?_, fun e1 e2 p hp => ?_⟩
  · walk_at "sx"
    have e' : kindL k = [] := List.map_eq_nil_iff.mp e
    exact mk_kind (as := kindL l) (.inr hu) (by have := kindL_len l; omega) (fun c => by rw [hk c, e']; rfl) q
  · walk_at "sx"
    have e' : kindL l = [] := List.map_eq_nil_iff.mp e2
    exact mk_kind (as := kindL k) (.inr ht) (by have := kindL_len k; omega) (fun c => by rw [hk c, e', List.append_nil]) q
  · walk_at "sx"
    refine mk_kind (as := kindL k ++ kindL l) (.inr ?_) hz hk fun c H' s i => q c H' ((same_new hp).trans s) i
    rw [List.map_append]
    exact sqT_new
theorem r_Kind___and__ (K : PySem.W.Frag) (κ : Kap) (vs : List V) (H : Hp) (Q : VK) (E : XK) (h : sp_Kind___and__ K κ vs H Q E) :
    t_Kind___and__ K κ E { nx := fun _ H' => Q .non H', rt := Q } (L2.start N_Kind___and__ vs) H := by
  obtain ⟨a, b, k, l, rfl, ⟨dx, t, ha, ht⟩, ⟨dy, u, hb, hu⟩, q⟩ := h
  show t_Kind___and__ K κ E _ [some (.ref a), some (.ref b), none] H
  unfold t_Kind___and__
  walk_at "sx"
  refine x_at List.mem_cons_self ha rfl ?_
  refine x_iTupk ht ?_
  intro D hD
  refine lc_pure (K := K) walk_tup (fun v => if inV v (kindV l) = true then some v else none) hD (by have := kindV_len k; rw [sizeLine_eq]; omega) (fun H' s => Nv.Same.seqT s ht) (fun i v H' hv sm R R0 h1 h0 => ?_) fun H' sm hD' => ?_
  · obtain ⟨c, _, rfl⟩ := atoms_get hv
    walk_at "sx"
    refine ⟨rfl, ?_⟩
    walk_at "sx"
    refine x_at List.mem_cons_self (sm _ _ hb) rfl ?_
    refine x_inT (Nv.Same.seqT sm hu) rfl (flat_kind _) ?_
    cases e : inV (atV c) (kindV l) with
    | true =>
      walk_at "sx"
      exact h1 _ (by rw [e]; rfl) _ (Same.refl _)
    | false =>
      walk_at "sx"
      exact h0 (by rw [e]; rfl) _ (Same.refl _)
  · have ef : (kindV k).filterMap (fun v => if inV v (kindV l) = true then some v else none) = ((kindL k).filter l).map atV := by
      unfold kindV
      exact filterMap_atoms (k := l) (fun c => by rw [show (kindL l).map atV = kindV l from rfl, inV_kind]) _
    rw [ef] at hD'
    walk_at "sx"
    refine mk_kind (as := (kindL k).filter l) (.inl (SqL.of hD')) (Nat.le_trans (List.length_filter_le _ _) (by have := kindL_len k; omega)) (fun c => ?_) fun c H2 s i => q c H2 (sm.trans s) i
    show (k c && l c) = _
    rw [Bool.eq_iff_iff, decide_eq_true_eq, List.mem_filter, mem_kindL, Bool.and_eq_true]
theorem r_Kind___sub__ (K : PySem.W.Frag) (κ : Kap) (vs : List V) (H : Hp) (Q : VK) (E : XK) (h : sp_Kind___sub__ K κ vs H Q E) :
    t_Kind___sub__ K κ E { nx := fun _ H' => Q .non H', rt := Q } (L2.start N_Kind___sub__ vs) H := by
  obtain ⟨a, b, k, l, rfl, ⟨dx, t, ha, ht⟩, ⟨dy, u, hb, hu⟩, q⟩ := h
  show t_Kind___sub__ K κ E _ [some (.ref a), some (.ref b), none] H
  unfold t_Kind___sub__
  walk_at "sx"
  refine x_at List.mem_cons_self ha rfl ?_
  refine x_iTupk ht ?_
  intro D hD
  refine lc_pure (K := K) walk_tup (fun v => if (!inV v (kindV l)) = true then some v else none) hD (by have := kindV_len k; rw [sizeLine_eq]; omega) (fun H' s => Nv.Same.seqT s ht) (fun i v H' hv sm R R0 h1 h0 => ?_) fun H' sm hD' => ?_
  · obtain ⟨c, _, rfl⟩ := atoms_get hv
    walk_at "sx"
    refine ⟨rfl, ?_⟩
    walk_at "sx"
    refine x_at List.mem_cons_self (sm _ _ hb) rfl ?_
    refine x_notInT (Nv.Same.seqT sm hu) rfl (flat_kind _) ?_
    cases e : inV (atV c) (kindV l) with
    | true =>
      walk_at "sx"
      exact h0 (by rw [e]; rfl) _ (Same.refl _)
    | false =>
      walk_at "sx"
      exact h1 _ (by rw [e]; rfl) _ (Same.refl _)
  · have ef : (kindV k).filterMap (fun v => if (!inV v (kindV l)) = true then some v else none) = ((kindL k).filter fun c => !l c).map atV := by
      unfold kindV
      exact filterMap_atoms (k := fun c => !l c) (fun c => by rw [show (kindL l).map atV = kindV l from rfl, inV_kind]) _
    rw [ef] at hD'
    walk_at "sx"
    refine mk_kind (as := (kindL k).filter fun c => !l c) (.inl (SqL.of hD')) (Nat.le_trans (List.length_filter_le _ _) (by have := kindL_len k; omega)) (fun c => ?_) fun c H2 s i => q c H2 (sm.trans s) i
    show (k c && !l c) = _
    rw [Bool.eq_iff_iff, decide_eq_true_eq, List.mem_filter, mem_kindL, Bool.and_eq_true]
theorem r_Kind___eq__ (K : PySem.W.Frag) (κ : Kap) (vs : List V) (H : Hp) (Q : VK) (E : XK) (h : sp_Kind___eq__ K κ vs H Q E) :
    t_Kind___eq__ K κ E { nx := fun _ H' => Q .non H', rt := Q } (L2.start N_Kind___eq__ vs) H := by
  obtain ⟨a, y, k, rfl, ⟨dx, t, ha, ht⟩, h⟩ := h
  show t_Kind___eq__ K κ E _ [some (.ref a), some y] H
  unfold t_Kind___eq__
  walk_at "sx"
  rcases h with ⟨b, l, rfl, ⟨dy, u, hb, hu⟩, q⟩ | ⟨T, hT, ty, q⟩
  · refine ⟨.ref b, rfl, .inl ⟨b, dy, _, rfl, hb, ?_⟩⟩
    refine x_trvB ?_
    walk_at "sx"
    refine x_at List.mem_cons_self ha rfl ?_
    walk_at "sx"
    refine x_at List.mem_cons_self hb rfl ?_
    exact x_eqTA ht hu q
  · refine ⟨y, rfl, .inr (.inr ⟨T, hT, ty, ?_⟩)⟩
    refine x_trvB ?_
    walk_at "sx"
    exact q
theorem r_Kind___contains__ (K : PySem.W.Frag) (κ : Kap) (vs : List V) (H : Hp) (Q : VK) (E : XK) (h : sp_Kind___contains__ K κ vs H Q E) :
    t_Kind___contains__ K κ E { nx := fun _ H' => Q .non H', rt := Q } (L2.start N_Kind___contains__ vs) H := by
  obtain ⟨a, y, k, rfl, ⟨dx, t, ha, ht⟩, h⟩ := h
  show t_Kind___contains__ K κ E _ [some (.ref a), some y] H
  unfold t_Kind___contains__
  walk_at "sx"
  rcases h with ⟨c, rfl, q⟩ | ⟨⟨z, rfl, hz⟩, q⟩ | ⟨⟨m, ty, kb⟩, q⟩
  · refine x_isi (b := true) (.base (.str _)) (by decide +kernel) ?_
    refine x_trvB ?_
    walk_at "sx"
    refine x_at List.mem_cons_self ha rfl ?_
    refine x_inT ht rfl (flat_kind _) ?_
    rw [inV_kind]
    exact q
  · refine x_isi (b := true) (.base (.str _)) (by decide +kernel) ?_
    refine x_trvB ?_
    walk_at "sx"
    refine x_at List.mem_cons_self ha rfl ?_
    refine x_inT ht rfl (flat_kind _) ?_
    rw [show kindV k = (kindL k).map atV from rfl, inV_other _ hz]
    exact q
  · refine x_isi ty kb ?_
    refine x_trvB ?_
    walk_at "sx"
    exact q
end Nv

namespace Nv
open PySem PySem.Spec PyProof.Rows L2 ClX TL
local macro_rules | `(tactic| walk_at "sx") => `(tactic| repeat (first
  | with_reducible refine x_seq ?_ | with_reducible refine x_asg ?_ | with_reducible refine x_name ?_ | ((with_reducible show tVar _ _ _ _); refine x_var rfl ?_) | with_reducible refine x_c ?_ | with_reducible refine x_op ?_
  | with_reducible refine x_un ?_ | with_reducible refine x_drop ?_ | with_reducible refine x_ret ?_ | with_reducible refine x_retN ?_ | with_reducible refine x_next ?_ | with_reducible refine x_ifS ?_ | with_reducible refine x_if ?_
  | with_reducible refine x_test ?_ | with_reducible refine x_blk ?_ | with_reducible refine x_and ?_ | with_reducible refine x_or ?_ | with_reducible refine x_not ?_ | with_reducible refine x_nil ?_ | with_reducible refine x_cons ?_
  | with_reducible refine x_cb ?_ | with_reducible refine x_call ?_ | with_reducible refine x_lst ?_ | with_reducible refine x_tup ?_ | with_reducible refine x_sub ?_ | with_reducible refine x_bm ?_ | with_reducible refine x_bm0 ?_
  | with_reducible refine x_sl ?_ | with_reducible refine x_noPart ?_ | with_reducible refine x_part ?_ | with_reducible refine x_intk ?_ | with_reducible refine x_tru ?_ | with_reducible refine x_truB ?_ | with_reducible refine x_truN ?_ | with_reducible refine x_truI ?_
  | with_reducible refine x_addI ?_ | with_reducible refine x_subI ?_ | with_reducible refine x_ltI ?_ | with_reducible refine x_leI ?_ | with_reducible refine x_gtI ?_ | with_reducible refine x_geI ?_ | with_reducible refine x_eqI ?_ | with_reducible refine x_neI ?_
  | with_reducible refine x_eqS ?_ | with_reducible refine x_neS ?_ | with_reducible refine x_intI ?_ | with_reducible refine x_abs ?_ | with_reducible refine x_inS ?_ | with_reducible refine x_notInS ?_
  | with_reducible refine x_true ?_ | with_reducible refine x_false ?_ | with_reducible refine x_ntrue ?_ | with_reducible refine x_nfalse ?_
  | with_reducible refine x_mulR (by first | decide | omega) (by first | decide | omega) ?_
  | with_reducible refine x_mulL (by first | decide | omega) (by first | decide | omega) ?_
  | with_reducible refine x_modI (by first | decide | assumption | omega) ?_
  | with_reducible refine x_fdivI (by first | decide | assumption | omega) (by first | decide | assumption | omega) ?_
  | with_reducible refine x_powL (k := 1000000000000000000) (by decide) (by decide) (by decide) (by decide) ?_
  | with_reducible refine x_powL (k := 1000000000) (by decide) (by decide) (by decide) (by decide) ?_
  | with_reducible refine x_for ?_ | with_reducible refine x_rng1 ?_ | with_reducible refine x_rng2 ?_ | with_reducible refine x_rng3 ?_ | with_reducible refine x_iList ?_ | with_reducible refine x_iTup ?_
  | with_reducible refine x_rngk1 (by first | decide | omega) (by first | decide | omega) ?_
  | with_reducible refine x_rngk2 (by first | decide | omega) (by first | decide | omega) (by first | decide | omega) (by first | decide | omega) ?_
  | with_reducible refine x_gcons ?_ | with_reducible refine x_gnil ?_ | with_reducible refine x_revL ?_ | with_reducible refine x_isN ?_ | with_reducible refine x_notN ?_ | with_reducible refine x_unNeg ?_
  | with_reducible refine x_bms tyV_str ?_
  | with_reducible refine x_try ?_ | with_reducible refine x_andT ?_ | with_reducible refine x_orT ?_
  | with_reducible refine x_fldN ?_ | with_reducible refine x_sFldN ?_ | with_reducible refine x_dnewK ?_ | with_reducible refine x_methW ?_ | with_reducible refine x_makeW ?_ | with_reducible refine x_propW ?_ | with_reducible refine x_kmeth ?_
  | with_reducible refine x_lc ?_ | with_reducible refine x_yes ?_ | with_reducible refine x_enumA ?_ | with_reducible refine x_boolB ?_ | with_reducible refine x_boolI ?_ | with_reducible refine x_raise1 ?_ | with_reducible refine x_raise2 ?_))
section
variable {X : Cx} {H : Hp} {Q : VK}
/-- x is True, x is False -/
def rIsB : R2 := fun x y H Q => ∃ b, y = .bl b ∧ Q (.bl (decide (x = .bl b))) H
theorem op_isB : OpR X (compareOp .Is) rIsB := by
  intro pins s σ H x y v u Q I rx ry h
  obtain ⟨b, rfl, q⟩ := h
  cases (show u = Value.bool b from ry)
  have key : ∀ c : Bool, c = decide (x = .bl b) → EP X pins σ Q (.bool c) s := fun c e => fin_bl I q e.symm
  cases x with
  | non => cases (show v = Value.none from rx); exact wpAny_is_plain rfl (key _ (by cases b <;> rfl))
  | bl d => cases (show v = Value.bool d from rx); exact wpAny_is_plain rfl (key _ (by cases b <;> cases d <;> rfl))
  | int i => obtain ⟨t, e⟩ := (show ∃ t, v = Value.int i t from rx); cases e; exact wpAny_is_plain rfl (key _ (by cases b <;> rfl))
  | str z => obtain ⟨t, e⟩ := (show ∃ t, v = Value.str z t from rx); cases e; exact wpAny_is_plain rfl (key _ (by cases b <;> rfl))
  | byt z => obtain ⟨t, e⟩ := (show ∃ t, v = Value.bytes z t from rx); cases e; exact wpAny_is_plain rfl (key _ (by cases b <;> rfl))
  | flt z => obtain ⟨t, e⟩ := (show ∃ t, v = Value.float z t from rx); cases e; exact wpAny_is_plain rfl (key _ (by cases b <;> rfl))
  | ref a => cases (show v = Value.ref a from rx); exact wpAny_is_plain rfl (key _ (by cases b <;> rfl))
  | ty n => cases (show v = Value.type n from rx); exact wpAny_is_plain rfl (key _ (by cases b <;> rfl))
theorem x_isB {x : V} {b : Bool} (h : Q (.bl (decide (x = .bl b))) H) : rIsB x (.bl b) H Q := ⟨b, rfl, h⟩
end
/-- a value of the little language -/
inductive Pv | non | bl (b : Bool) | int (i : Int) | str (z : Str)
def Pv.v : Pv → V
  | .non => .non | .bl b => .bl b | .int i => .int i | .str z => .str z
def Pv.atom : Pv → Atom
  | .non => .null | .bl false => .fals | .bl true => .tru | .int _ => .int | .str _ => .text
def Pv.truth : Pv → Bool
  | .non => false | .bl b => b | .int i => i != 0 | .str z => (z.length : Int) != 0
def oneK (c : Atom) : Kd := fun a => decide (a = c)
def truK (k : Kd) : Kd := fun a => k a && !decide (a ∈ [Atom.null, Atom.fals])
def falK (k : Kd) : Kd := fun a => k a && !decide (a = .tru)
def sp_atom_of (K : PySem.W.Frag) (κ : Kap) : Sp := fun vs H Q _ => ∃ x : Pv, vs = [x.v] ∧ Q (atV x.atom) H
def sp_Kind_of (K : PySem.W.Frag) (κ : Kap) : Sp := fun vs H Q _ => ∃ x : Pv, vs = [x.v] ∧ ∀ c H', Same H H' → IsKind K κ H' c (oneK x.atom) → Q (.ref c) H'
def spK1 (f : Kd → Kd) (K : PySem.W.Frag) (κ : Kap) : Sp := fun vs H Q _ => ∃ (a : Addr) (k : Kd), vs = [.ref a] ∧ IsKind K κ H a k ∧ ∀ c H', Same H H' → IsKind K κ H' c (f k) → Q (.ref c) H'
def sp_Kind_truthy (K : PySem.W.Frag) (κ : Kap) : Sp := spK1 truK K κ
def sp_Kind_falsy (K : PySem.W.Frag) (κ : Kap) : Sp := spK1 falK K κ
/-- atom_of, slots ['value'] -/
def t_atom_of (K : PySem.W.Frag) (κ : Kap) (E : XK) : TS :=
  (tSeq (tIfS (tTest (tOp rIsN (tVar 0) (tC .non))) (tRet (tC (.str "null"))) tNext)
  (tSeq (tIfS (tTest (tOp rIsB (tVar 0) (tC (.bl false)))) (tRet (tC (.str "false"))) tNext)
  (tSeq (tIfS (tTest (tOp rIsB (tVar 0) (tC (.bl true)))) (tRet (tC (.str "true"))) tNext)
  (tRet (tIf (tTruU K (tCB (rIsiU K) (tCons (tVar 0) (tCons (tC (.ty "int")) tNil)))) (tC (.str "int")) (tC (.str "text")))))))
abbrev N_atom_of : List Str := ["value"]
/-- Kind_of, slots ['value'] -/
def t_Kind_of (K : PySem.W.Frag) (κ : Kap) (E : XK) : TS :=
  (tRet (tMakeW (κ "Kind") (sp_Kind___init__ K κ) [] (WE (fun cls d _ H => E cls d H)) (tCons (tTup (tCons (tCallS (sp_atom_of K κ) (WE (fun cls d _ H => E cls d H)) (tCons (tVar 0) tNil)) tNil)) tNil)))
abbrev N_Kind_of : List Str := ["value"]
/-- Kind_truthy, slots ['self', 'atom'] -/
def t_Kind_truthy (K : PySem.W.Frag) (κ : Kap) (E : XK) : TS :=
  (tRet (tMakeW (κ "Kind") (sp_Kind___init__ K κ) [] (WE (fun cls d _ H => E cls d H)) (tCons (tLc (iTup K (tFldN [κ "Kind"] (tVar 0) "kept")) (gName 1) (tTest (tOp (rNotInU K) (tVar 1) (tTup (tCons (tC (.str "null")) (tCons (tC (.str "false")) tNil))))) (tVar 1) [1]) tNil)))
abbrev N_Kind_truthy : List Str := ["self", "atom"]
/-- Kind_falsy, slots ['self', 'atom'] -/
def t_Kind_falsy (K : PySem.W.Frag) (κ : Kap) (E : XK) : TS :=
  (tRet (tMakeW (κ "Kind") (sp_Kind___init__ K κ) [] (WE (fun cls d _ H => E cls d H)) (tCons (tLc (iTup K (tFldN [κ "Kind"] (tVar 0) "kept")) (gName 1) (tTest (tOp rNe (tVar 1) (tC (.str "true")))) (tVar 1) [1]) tNil)))
abbrev N_Kind_falsy : List Str := ["self", "atom"]
theorem l_atom_of {K : PySem.W.Frag} {κ : Kap} {vs : List V} {H : Hp} {Q : VK} {E : XK} (h : sp_atom_of K κ vs H Q E) : vs.length = 1 := by obtain ⟨_, rfl, _⟩ := h; rfl
theorem l_Kind_of {K : PySem.W.Frag} {κ : Kap} {vs : List V} {H : Hp} {Q : VK} {E : XK} (h : sp_Kind_of K κ vs H Q E) : vs.length = 1 := by obtain ⟨_, rfl, _⟩ := h; rfl
theorem l_Kind_truthy {K : PySem.W.Frag} {κ : Kap} {vs : List V} {H : Hp} {Q : VK} {E : XK} (h : sp_Kind_truthy K κ vs H Q E) : vs.length = 1 := by obtain ⟨_, _, rfl, _⟩ := h; rfl
theorem l_Kind_falsy {K : PySem.W.Frag} {κ : Kap} {vs : List V} {H : Hp} {Q : VK} {E : XK} (h : sp_Kind_falsy K κ vs H Q E) : vs.length = 1 := by obtain ⟨_, _, rfl, _⟩ := h; rfl
theorem r_atom_of (K : PySem.W.Frag) (κ : Kap) (vs : List V) (H : Hp) (Q : VK) (E : XK) (h : sp_atom_of K κ vs H Q E) :
    t_atom_of K κ E { nx := fun _ H' => Q .non H', rt := Q } (L2.start N_atom_of vs) H := by
  obtain ⟨x, rfl, q⟩ := h
  show t_atom_of K κ E _ [some x.v] H
  unfold t_atom_of
  cases x with
  | non =>
    walk_at "sx"
    exact q
  | bl b =>
    walk_at "sx"
    refine x_decF (fun z => by cases z) ?_
    walk_at "sx"
    refine x_isB ?_
    cases b with
    | false =>
      walk_at "sx"
      exact q
    | true =>
      rw [decide_eq_false (show ¬ (Pv.bl true).v = V.bl false from fun z => by cases z)]
      walk_at "sx"
      refine x_isB ?_
      walk_at "sx"
      exact q
  | int i =>
    walk_at "sx"
    refine x_decF (fun z => by cases z) ?_
    walk_at "sx"
    refine x_isB ?_
    rw [decide_eq_false (show ¬ (Pv.int i).v = V.bl false from fun z => by cases z)]
    walk_at "sx"
    refine x_isB ?_
    rw [decide_eq_false (show ¬ (Pv.int i).v = V.bl true from fun z => by cases z)]
    walk_at "sx"
    refine x_isi (b := true) (.base (.int i)) (by decide +kernel) ?_
    walk_at "sx"
    exact q
  | str z =>
    walk_at "sx"
    refine x_decF (fun z => by cases z) ?_
    walk_at "sx"
    refine x_isB ?_
    rw [decide_eq_false (show ¬ (Pv.str z).v = V.bl false from fun z => by cases z)]
    walk_at "sx"
    refine x_isB ?_
    rw [decide_eq_false (show ¬ (Pv.str z).v = V.bl true from fun z => by cases z)]
    walk_at "sx"
    refine x_isi (b := false) (.base (.str z)) (by decide +kernel) ?_
    walk_at "sx"
    exact q
theorem r_Kind_of (K : PySem.W.Frag) (κ : Kap) (vs : List V) (H : Hp) (Q : VK) (E : XK) (h : sp_Kind_of K κ vs H Q E) :
    t_Kind_of K κ E { nx := fun _ H' => Q .non H', rt := Q } (L2.start N_Kind_of vs) H := by
  obtain ⟨x, rfl, q⟩ := h
  show t_Kind_of K κ E _ [some x.v] H
  unfold t_Kind_of
  walk_at "sx"
  refine ⟨x, rfl, ?_⟩
  walk_at "sx"
  refine ⟨szL rfl, fun p hp => ?_⟩
  walk_at "sx"
  exact mk_kind (as := [x.atom]) (.inr (SqT.of upd_same)) (by show 1 ≤ 1000000; decide) (fun a => by unfold oneK; rw [Bool.eq_iff_iff]; simp) fun c H' s i => q c H' ((same_new hp).trans s) i
theorem r_Kind_truthy (K : PySem.W.Frag) (κ : Kap) (vs : List V) (H : Hp) (Q : VK) (E : XK) (h : sp_Kind_truthy K κ vs H Q E) :
    t_Kind_truthy K κ E { nx := fun _ H' => Q .non H', rt := Q } (L2.start N_Kind_truthy vs) H := by
  obtain ⟨a, k, rfl, ⟨dx, t, ha, ht⟩, q⟩ := h
  show t_Kind_truthy K κ E _ [some (.ref a), none] H
  unfold t_Kind_truthy
  walk_at "sx"
  refine x_at List.mem_cons_self ha rfl ?_
  refine x_iTupk ht ?_
  intro D hD
  refine lc_pure (K := K) walk_tup (fun v => if (!inV v ([Atom.null, Atom.fals].map atV)) = true then some v else none) hD (by have := kindV_len k; rw [sizeLine_eq]; omega) (fun H' s => Nv.Same.seqT s ht) (fun i v H' hv sm R R0 h1 h0 => ?_) fun H' sm hD' => ?_
  · obtain ⟨c, _, rfl⟩ := atoms_get hv
    walk_at "sx"
    refine ⟨rfl, ?_⟩
    walk_at "sx"
    refine ⟨szL rfl, fun u hu => ?_⟩
    refine x_notInT (xs := [Atom.null, Atom.fals].map atV) (SqT.of upd_same) rfl (flat_atoms _) ?_
    cases e : inV (atV c) ([Atom.null, Atom.fals].map atV) with
    | true =>
      walk_at "sx"
      exact h0 (by rw [e]; rfl) _ (same_new hu)
    | false =>
      walk_at "sx"
      exact h1 _ (by rw [e]; rfl) _ (same_new hu)
  · have ef : (kindV k).filterMap (fun v => if (!inV v ([Atom.null, Atom.fals].map atV)) = true then some v else none) = ((kindL k).filter fun c => !decide (c ∈ [Atom.null, Atom.fals])).map atV := by
      unfold kindV
      exact filterMap_atoms (k := fun c => !decide (c ∈ [Atom.null, Atom.fals])) (fun c => by rw [inV_atoms]) _
    rw [ef] at hD'
    walk_at "sx"
    refine mk_kind (as := (kindL k).filter fun c => !decide (c ∈ [Atom.null, Atom.fals])) (.inl (SqL.of hD')) (Nat.le_trans (List.length_filter_le _ _) (by have := kindL_len k; omega)) (fun c => ?_) fun c H2 s i => q c H2 (sm.trans s) i
    show (k c && !decide (c ∈ [Atom.null, Atom.fals])) = _
    rw [Bool.eq_iff_iff, decide_eq_true_eq, List.mem_filter, mem_kindL, Bool.and_eq_true]
theorem r_Kind_falsy (K : PySem.W.Frag) (κ : Kap) (vs : List V) (H : Hp) (Q : VK) (E : XK) (h : sp_Kind_falsy K κ vs H Q E) :
    t_Kind_falsy K κ E { nx := fun _ H' => Q .non H', rt := Q } (L2.start N_Kind_falsy vs) H := by
  obtain ⟨a, k, rfl, ⟨dx, t, ha, ht⟩, q⟩ := h
  show t_Kind_falsy K κ E _ [some (.ref a), none] H
  unfold t_Kind_falsy
  walk_at "sx"
  refine x_at List.mem_cons_self ha rfl ?_
  refine x_iTupk ht ?_
  intro D hD
  refine lc_pure (K := K) walk_tup (fun v => if (!decide (v = atV .tru)) = true then some v else none) hD (by have := kindV_len k; rw [sizeLine_eq]; omega) (fun H' s => Nv.Same.seqT s ht) (fun i v H' hv sm R R0 h1 h0 => ?_) fun H' sm hD' => ?_
  · obtain ⟨c, _, rfl⟩ := atoms_get hv
    walk_at "sx"
    refine ⟨rfl, ?_⟩
    walk_at "sx"
    refine x_ne rfl ?_
    walk_at "sx"
    refine x_decN (fun (e : ¬ atV c = atV .tru) => ?_) (fun (e : atV c = atV .tru) => ?_)
    · walk_at "sx"
      exact h1 _ (by rw [decide_eq_false e]; rfl) _ (Same.refl _)
    · exact h0 (by rw [decide_eq_true e]; rfl) _ (Same.refl _)
  · have ef : (kindV k).filterMap (fun v => if (!decide (v = atV .tru)) = true then some v else none) = ((kindL k).filter fun c => !decide (c = .tru)).map atV := by
      unfold kindV
      exact filterMap_atoms (k := fun c => !decide (c = .tru)) (fun c => by
        have : decide (atV c = atV .tru) = decide (c = .tru) := by rw [Bool.eq_iff_iff, decide_eq_true_eq, decide_eq_true_eq]; exact ⟨atV_inj, fun e => by rw [e]⟩
        rw [this]) _
    rw [ef] at hD'
    walk_at "sx"
    refine mk_kind (as := (kindL k).filter fun c => !decide (c = .tru)) (.inl (SqL.of hD')) (Nat.le_trans (List.length_filter_le _ _) (by have := kindL_len k; omega)) (fun c => ?_) fun c H2 s i => q c H2 (sm.trans s) i
    show (k c && !decide (c = .tru)) = _
    rw [Bool.eq_iff_iff, decide_eq_true_eq, List.mem_filter, mem_kindL, Bool.and_eq_true]
end Nv

namespace PySem
open PySem.SeqAt
open AutoSeq1 (wpAny_loadPart')
open AutoSeq1
theorem nv_extend_tuple (l : Addr) (items : Array Value) (n : Nat) (b : Addr) (items2 : Array Value) (n2 : Nat) (dd : Option Addr) (sl : Array (Option Value)) (hs0 : ¬(!items.isEmpty && Builtin.List.listTooLong (items.size + items2.size)) = true) (hs1 : items.size ≤ sizeLine) (hs2 : items.size + items2.size ≤ sizeLine + 1) :
    Meets (Builtin.«list.extend» ⟨[.ref l, .ref b], []⟩) (fun _ R s => s.heap.get? l = some { cls := .type "list", dict := none, data := .seq items n, slots := #[] } ∧ s.heap.get? b = some { cls := .type "tuple", dict := dd, data := .seq items2 n2, slots := sl } ∧ R (.ok (.ret Value.none)) { s with heap := s.heap.update l (Obj.mapSeq fun x => x ++ items2), toks := s.toks }) :=
  .of_wp fun prog w A R s h => by
    obtain ⟨hp, g, d, tk, os⟩ := s; obtain ⟨hl, hb, h⟩ := h; have f1 := idx_int; have f2 := sub_tuple_tuple; have f3 := sub_list_list; have f4 := sub_tuple_list; have f5 := sub_list_tuple;
    have hz' : (items ++ items2).size ≤ sizeLine + 1 := by rw [Array.size_append]; exact hs2
    wp_walk using (wpAny_updateSeq hl rfl (hz := hs1) (_hz' := hz')), wpAny_loadPart' hl, wpAny_loadPart' hb; exact ⟨_, rfl, h⟩
end PySem
namespace Nv
open PySem PySem.Spec PyProof.Rows L2 ClX TL
/-! ### list.extend of a list or a tuple; str.split -/
section
variable {X : Cx} {K : PySem.W.Frag} {H : Hp} {Q : VK}
def rExtendU (K : PySem.W.Frag) : V → List V → Hp → VK → Prop := fun x vs H Q => ∃ l b xs zs, x = .ref l ∧ vs = [.ref b] ∧ H l = some (.lst xs) ∧ (H b = some (.lst zs) ∨ SqT K H b zs) ∧ xs.length + zs.length ≤ sizeLine ∧ Q .non (upd H l (.lst (xs ++ zs)))
theorem mt_extendU : MtM X "list.extend" (rExtendU X.K) := by
  intro pins s σ H x vs v us Q I rx rv h
  obtain ⟨l, b, xs, zs, rfl, rfl, hH, hB, hz, q⟩ := h
  rcases hB with hB | hB
  · exact mt_extend pins s σ H _ _ v us Q I rx rv ⟨l, b, xs, zs, rfl, rfl, hH, hB, hz, q⟩
  · cases rx
    obtain ⟨u, rfl, ru⟩ := rv.one
    cases ru
    obtain ⟨z, its, n, r, hl, e⟩ := I.lstM hH
    obtain ⟨its2, r2, ⟨⟨oc, od, oda, osl⟩, ho, hc, n2, hd⟩, _⟩ := I.tuple hB
    dsimp only at hc hd
    subst hc hd
    have hl2 := r2.length
    have hsz : its.toArray.size + its2.toArray.size ≤ sizeLine := by rw [List.size_toArray, List.size_toArray]; omega
    have hlong : ¬ (!its.toArray.isEmpty && Builtin.List.listTooLong (its.toArray.size + its2.toArray.size)) = true := by
      rw [notLongL hsz, Bool.and_false]
      exact Bool.false_ne_true
    refine call_meets F.slot_list_extend ⟨_, e, rfl⟩ F.entry_list_extend (F.args_list_extend_2 _ _)
      (nv_extend_tuple l its.toArray n b its2.toArray n2 od osl hlong (by rw [List.size_toArray]; omega) (by omega)) ⟨e, ho, ?_⟩
    refine ⟨.non, _, I.lset (its' := its ++ its2) hH e (by simp) (r.append r2) ?_, rfl, q⟩
    rw [List.length_append]
    omega
theorem x_extendT {l b : Addr} {xs zs : List V} (h1 : H l = some (.lst xs)) (h2 : SqT K H b zs) (z : xs.length + zs.length ≤ sizeLine) (h : Q .non (upd H l (.lst (xs ++ zs)))) : rExtendU K (.ref l) [.ref b] H Q := ⟨l, b, xs, zs, rfl, rfl, h1, .inr h2, z, h⟩
theorem x_extendL {l b : Addr} {xs zs : List V} (h1 : H l = some (.lst xs)) (h2 : H b = some (.lst zs)) (z : xs.length + zs.length ≤ sizeLine) (h : Q .non (upd H l (.lst (xs ++ zs)))) : rExtendU K (.ref l) [.ref b] H Q := ⟨l, b, xs, zs, rfl, rfl, h1, .inl h2, z, h⟩
def rSplitU : V → List V → Hp → VK → Prop := fun x xs H Q => ∃ a b, x = .str a ∧ xs = [.str b] ∧ (b.length == 0) = false ∧ a.length + 2 ≤ sizeLine ∧ rNewStrs (Txt.split a b) H Q
theorem mt_splitU : MtR X "str.split" rSplitU := mt_split
theorem x_split {a b : Str} (h1 : (b.length == 0) = false) (h2 : a.length + 2 ≤ sizeLine) (h : ∀ p, H p = none → Q (.ref p) (upd H p (.lst ((Txt.split a b).map V.str)))) : rSplitU (.str a) [.str b] H Q := ⟨a, b, rfl, rfl, h1, h2, h⟩
end
/-! ### a dict of the module with text keys -/
section
variable {X : Cx} {d : Addr} {es : Array DictEntry} {n : Nat} {K : PySem.W.Frag} {H : Hp} {Q : VK}
def rInKd (K : PySem.W.Frag) (d : Addr) : R2 := fun x y H Q => ∃ (z : Str) (r : Option Value), x = .str z ∧ y = .ref d ∧ PySem.W.nsIn K d z = some r ∧ Q (.bl r.isSome) H
def rNotInKd (K : PySem.W.Frag) (d : Addr) : R2 := fun x y H Q => ∃ (z : Str) (r : Option Value), x = .str z ∧ y = .ref d ∧ PySem.W.nsIn K d z = some r ∧ Q (.bl (!r.isSome)) H
theorem op_inKd {w : World} (hw : w = X.w) (D : ∃ es n, KDict X.K w d es n) : OpR X (compareOp .In) (rInKd X.K d) := by
  subst hw; obtain ⟨es, n, D⟩ := D; exact op_in_kd D
theorem op_notInKd {w : World} (hw : w = X.w) (D : ∃ es n, KDict X.K w d es n) : OpR X (compareOp .NotIn) (rNotInKd X.K d) := by
  subst hw; obtain ⟨es, n, D⟩ := D; exact op_notIn_kd D
def rIxKd (K : PySem.W.Frag) (d : Addr) : R2 := fun x y H Q => ∃ (z : Str) (u0 : Value) (v0 : V), x = .ref d ∧ y = .str z ∧ PySem.W.nsIn K d z = some (some u0) ∧ RelV v0 u0 ∧ Q v0 H
theorem ix_Kd {w : World} (hw : w = X.w) (D : ∃ es n, KDict X.K w d es n) : IxR X (rIxKd X.K d) := by
  subst hw
  obtain ⟨es, n, D⟩ := D
  intro value slice pins s σ H x y v u Q I rx ry h hs
  obtain ⟨z, u0, v0, rfl, rfl, e, ru, q⟩ := h
  exact ix_kdict value slice pins s σ H _ _ v u Q I rx ry ⟨d, z, v0, rfl, rfl, ⟨es, n, u0, D.at_, D.lit, e, ru⟩, q⟩ hs
/-- an entry as the written heap holds it -/
def kEnt (P : Params) (e : Str × Tok × Value) : DictEntry := ⟨PyData.keyHash P e.1, .str e.1 e.2.1, e.2.2⟩
theorem keysLit_ent (P : Params) : ∀ l : List (Str × Tok × Value), PySem.W.KeysLit P (l.map (kEnt P))
  | [] => trivial
  | e :: r => ⟨⟨e.1, e.2.1, rfl, rfl⟩, keysLit_ent P r⟩
theorem kdict_of {w : World} {l : List (Str × Tok × Value)} {n : Nat} (h : K.lookup d = some ⟨.type "dict", none, .dict (l.map (kEnt w.params)).toArray n, #[]⟩) (hl : (d == sysModules) = false) : ∃ es n, KDict K w d es n :=
  ⟨_, n, h, keysLit_ent _ _, hl⟩
theorem nsIn_ent {P : Params} {l : List (Str × Tok × Value)} {n : Nat} (h : K.lookup d = some ⟨.type "dict", none, .dict (l.map (kEnt P)).toArray n, #[]⟩) (z : Str) :
    PySem.W.nsIn K d z = some ((l.find? fun e => decide (e.1 = z)).map fun e => e.2.2) := by
  unfold PySem.W.nsIn
  rw [h]
  dsimp only
  have e1 : ∀ l : List (Str × Tok × Value), (l.map (kEnt P)).find? (·.key.isStr z) = (l.find? fun e => decide (e.1 = z)).map (kEnt P) := by
    intro l
    induction l with
    | nil => rfl
    | cons e r ih =>
      have e2 : (kEnt P e).key.isStr z = decide (e.1 = z) := by
        show (Value.str e.1 e.2.1).isStr z = _
        rw [PySem.W.isStr_of]
        show (e.1 == z) = _
        rw [Bool.eq_iff_iff, beq_iff_eq, decide_eq_true_eq]
      rw [List.map_cons, List.find?_cons, e2, List.find?_cons]
      cases decide (e.1 = z) with
      | true => rfl
      | false => exact ih
  have e3 : ∀ l : List (Str × Tok × Value), (l.map (kEnt P)).any (·.refKey) = false := by
    intro l
    induction l with
    | nil => rfl
    | cons e r ih => rw [List.map_cons, List.any_cons, ih]; rfl
  rw [e1, e3]
  cases l.find? fun e => decide (e.1 = z) <;> rfl
end
/-! ### the class in a slot is called -/
def tMakeL (i : Nat) (C : Addr) (sp : Sp) (dvs : List V) (E : L2.St → XK) (t : TA) : TE := fun σ H Q => σ[i]? = some (some (.ref C)) ∧ t σ H fun vs H1 => ∀ x dx, H1 x = none → H1 dx = none → dx ≠ x →
  sp (.ref x :: (vs ++ dvs)) (upd (upd H1 dx (.own x)) x (.ins C dx [])) (fun v H2 => v = .non ∧ Q (.ref x) H2) (E σ)
theorem pe_icalL {X : Cx} {k i : Nat} {C : Addr} {ps : List Str} {sp : Sp} {dvs : List V} {W : WX} {x : Str} {p pos : Pos} {e : Expr} {es : List Expr} {t : TA} (M : ICal X.prog X.w X.K X.mg X.base k C ps dvs sp) (hr : Room (k + 1) X.A) (tk : Takes X W) (ha : PA X (e :: es) t)
    (hN : X.N[i]? = some x := by rfl) (hv : Vis X.env.scope x := by first | exact Or.inl rfl | exact Or.inr (Or.inl rfl) | exact Or.inr (Or.inr rfl)) (hdb : (x == ("__debug__" : Str)) = false := by decide) (hcd : (x == ("__classdict__" : Str)) = false := by decide)
    (he : starEach (e :: es) X.env = (false, eval e X.env) :: starEach es X.env := by rfl) (hpl : (backTo pos (starEach es X.env)).any (·.1) = false := by rfl) :
    PE X (.Call (.Name x p) (e :: es) [] pos) (tMakeL i C sp dvs (WE W) t) := by
  obtain ⟨f, fd, ds, F, hM, hb, hd⟩ := M.ex
  refine ⟨fun pins s σ H Q I h => ?_⟩
  obtain ⟨hs, ht⟩ := h
  refine wpAny_Call_Name_kw (thn ((pe_var (pos := p) hN hv hdb hcd).run pins s σ H (fun v H1 => v = .ref C ∧ H1 = H) I ⟨.ref C, hs, rfl, rfl⟩) fun u s1 ⟨v, H1, I1, r1, q1⟩ => ?_)
  obtain ⟨rfl, rfl⟩ := q1
  cases r1
  refine PySem.W.callWith_K (h₀ := X.base) I.ok.mod.kin hM.kp (thn (ha.run pos pins s1 σ _ _ I1 ht) fun us s2 ⟨vs, H2, I2, r, q⟩ => ⟨I2.kIn, ?_⟩) he hpl
  exact run_makeW hM F hr hb hd (passAt tk σ) I2 r q
end Nv
namespace Nv
open PySem
theorem find_pairs (z : Str) : ∀ l : List (Str × Tok × Value), ((l.find? fun e => decide (e.1 = z)).map fun e => e.2.2) = ((l.map fun e => (e.1, e.2.2)).find? fun e => decide (e.1 = z)).map (·.2)
  | [] => rfl
  | e :: r => by
    have ih := find_pairs z r
    rw [List.find?_cons, List.map_cons, List.find?_cons]
    cases hd : decide (e.1 = z) with
    | true => rfl
    | false => exact ih
theorem nsIn_ent2 {K : PySem.W.Frag} {d : Addr} {P : Params} {l : List (Str × Tok × Value)} {n : Nat} (h : K.lookup d = some ⟨.type "dict", none, .dict (l.map (kEnt P)).toArray n, #[]⟩) (z : Str) :
    PySem.W.nsIn K d z = some (((l.map fun e => (e.1, e.2.2)).find? fun e => decide (e.1 = z)).map (·.2)) := by
  rw [nsIn_ent h z, find_pairs]
end Nv

namespace Nv
open PySem PySem.Spec PyProof.Rows L2 ClX TL
local macro_rules | `(tactic| walk_at "sx") => `(tactic| repeat (first
  | with_reducible refine x_seq ?_ | with_reducible refine x_asg ?_ | with_reducible refine x_name ?_ | ((with_reducible show tVar _ _ _ _); refine x_var rfl ?_) | with_reducible refine x_c ?_ | with_reducible refine x_op ?_
  | with_reducible refine x_un ?_ | with_reducible refine x_drop ?_ | with_reducible refine x_ret ?_ | with_reducible refine x_retN ?_ | with_reducible refine x_next ?_ | with_reducible refine x_ifS ?_ | with_reducible refine x_if ?_
  | with_reducible refine x_test ?_ | with_reducible refine x_blk ?_ | with_reducible refine x_and ?_ | with_reducible refine x_or ?_ | with_reducible refine x_not ?_ | with_reducible refine x_nil ?_ | with_reducible refine x_cons ?_
  | with_reducible refine x_cb ?_ | with_reducible refine x_call ?_ | with_reducible refine x_lst ?_ | with_reducible refine x_tup ?_ | with_reducible refine x_sub ?_ | with_reducible refine x_bm ?_ | with_reducible refine x_bm0 ?_
  | with_reducible refine x_sl ?_ | with_reducible refine x_noPart ?_ | with_reducible refine x_part ?_ | with_reducible refine x_intk ?_ | with_reducible refine x_tru ?_ | with_reducible refine x_truB ?_ | with_reducible refine x_truN ?_ | with_reducible refine x_truI ?_
  | with_reducible refine x_addI ?_ | with_reducible refine x_subI ?_ | with_reducible refine x_ltI ?_ | with_reducible refine x_leI ?_ | with_reducible refine x_gtI ?_ | with_reducible refine x_geI ?_ | with_reducible refine x_eqI ?_ | with_reducible refine x_neI ?_
  | with_reducible refine x_eqS ?_ | with_reducible refine x_neS ?_ | with_reducible refine x_intI ?_ | with_reducible refine x_abs ?_ | with_reducible refine x_inS ?_ | with_reducible refine x_notInS ?_
  | with_reducible refine x_true ?_ | with_reducible refine x_false ?_ | with_reducible refine x_ntrue ?_ | with_reducible refine x_nfalse ?_
  | with_reducible refine x_mulR (by first | decide | omega) (by first | decide | omega) ?_
  | with_reducible refine x_mulL (by first | decide | omega) (by first | decide | omega) ?_
  | with_reducible refine x_modI (by first | decide | assumption | omega) ?_
  | with_reducible refine x_fdivI (by first | decide | assumption | omega) (by first | decide | assumption | omega) ?_
  | with_reducible refine x_powL (k := 1000000000000000000) (by decide) (by decide) (by decide) (by decide) ?_
  | with_reducible refine x_powL (k := 1000000000) (by decide) (by decide) (by decide) (by decide) ?_
  | with_reducible refine x_for ?_ | with_reducible refine x_rng1 ?_ | with_reducible refine x_rng2 ?_ | with_reducible refine x_rng3 ?_ | with_reducible refine x_iList ?_ | with_reducible refine x_iTup ?_
  | with_reducible refine x_rngk1 (by first | decide | omega) (by first | decide | omega) ?_
  | with_reducible refine x_rngk2 (by first | decide | omega) (by first | decide | omega) (by first | decide | omega) (by first | decide | omega) ?_
  | with_reducible refine x_gcons ?_ | with_reducible refine x_gnil ?_ | with_reducible refine x_revL ?_ | with_reducible refine x_isN ?_ | with_reducible refine x_notN ?_ | with_reducible refine x_unNeg ?_
  | with_reducible refine x_bms tyV_str ?_
  | with_reducible refine x_try ?_ | with_reducible refine x_andT ?_ | with_reducible refine x_orT ?_
  | with_reducible refine x_fldN ?_ | with_reducible refine x_sFldN ?_ | with_reducible refine x_dnewK ?_ | with_reducible refine x_methW ?_ | with_reducible refine x_makeW ?_ | with_reducible refine x_propW ?_ | with_reducible refine x_kmeth ?_
  | with_reducible refine x_lc ?_ | with_reducible refine x_yes ?_ | with_reducible refine x_enumA ?_ | with_reducible refine x_boolB ?_ | with_reducible refine x_boolI ?_ | with_reducible refine x_raise1 ?_ | with_reducible refine x_raise2 ?_))
/-! ### words of kinds -/
def wordAtoms (w : Str) : Option (List Atom) :=
  if w = "null" then some [.null] else if w = "false" then some [.fals] else if w = "true" then some [.tru] else if w = "bool" then some [.fals, .tru] else if w = "int" then some [.int] else if w = "text" then some [.text] else none
/-- the atoms of all words, or the number of the first wrong one -/
def readWords : List Str → Except Nat (List Atom)
  | [] => .ok []
  | w :: r => match wordAtoms w with
    | none => .error 1
    | some as => match readWords r with
      | .ok bs => .ok (as ++ bs)
      | .error n => .error (n + 1)
def readKind (z : Str) : Except Nat Kd := if z = "never" then .ok (fun _ => false) else match readWords (Txt.split z "|") with
  | .ok as => .ok fun a => decide (a ∈ as)
  | .error n => .error n
def WordsOk (K : PySem.W.Frag) (κ : Kap) : Prop := ∀ w : Str, (∃ a as, wordAtoms w = some as ∧ PySem.W.nsIn K (κ "WORDS") w = some (some (.ref a)) ∧ ∀ H, SqT K H a (as.map atV)) ∨ (wordAtoms w = none ∧ PySem.W.nsIn K (κ "WORDS") w = some none)
theorem words_ok {K : PySem.W.Frag} {κ : Kap} (h : ∀ z, PySem.W.nsIn K (κ "WORDS") z = some ((([("null", .ref (κ "WORDS.null")), ("false", .ref (κ "WORDS.false")), ("true", .ref (κ "WORDS.true")), ("bool", .ref (κ "WORDS.bool")), ("int", .ref (κ "WORDS.int")), ("text", .ref (κ "WORDS.text"))] : List (Str × Value)).find? fun e => decide (e.1 = z)).map (·.2)))
    (q1 : ∀ H, SqT K H (κ "WORDS.null") [.str "null"]) (q2 : ∀ H, SqT K H (κ "WORDS.false") [.str "false"]) (q3 : ∀ H, SqT K H (κ "WORDS.true") [.str "true"]) (q4 : ∀ H, SqT K H (κ "WORDS.bool") [.str "false", .str "true"])
    (q5 : ∀ H, SqT K H (κ "WORDS.int") [.str "int"]) (q6 : ∀ H, SqT K H (κ "WORDS.text") [.str "text"]) : WordsOk K κ := by
  intro w
  have hw := h w
  unfold wordAtoms
  by_cases e1 : w = "null"
  · subst e1
    exact .inl ⟨_, [.null], if_pos rfl, hw, q1⟩
  by_cases e2 : w = "false"
  · subst e2
    exact .inl ⟨_, [.fals], by rw [if_neg e1, if_pos rfl], hw, q2⟩
  by_cases e3 : w = "true"
  · subst e3
    exact .inl ⟨_, [.tru], by rw [if_neg e1, if_neg e2, if_pos rfl], hw, q3⟩
  by_cases e4 : w = "bool"
  · subst e4
    exact .inl ⟨_, [.fals, .tru], by rw [if_neg e1, if_neg e2, if_neg e3, if_pos rfl], hw, q4⟩
  by_cases e5 : w = "int"
  · subst e5
    exact .inl ⟨_, [.int], by rw [if_neg e1, if_neg e2, if_neg e3, if_neg e4, if_pos rfl], hw, q5⟩
  by_cases e6 : w = "text"
  · subst e6
    exact .inl ⟨_, [.text], by rw [if_neg e1, if_neg e2, if_neg e3, if_neg e4, if_neg e5, if_pos rfl], hw, q6⟩
  refine .inr ⟨by rw [if_neg e1, if_neg e2, if_neg e3, if_neg e4, if_neg e5, if_neg e6], ?_⟩
  rw [hw]
  simp only [List.find?_cons, List.find?_nil, decide_eq_false (Ne.symm e1), decide_eq_false (Ne.symm e2), decide_eq_false (Ne.symm e3), decide_eq_false (Ne.symm e4), decide_eq_false (Ne.symm e5), decide_eq_false (Ne.symm e6), Option.map_none]
def sp_Kind_parse (K : PySem.W.Frag) (κ : Kap) : Sp := fun vs H Q E => ∃ y, vs = [.ref (κ "Kind"), y] ∧
  ((∃ z : Str, y = .str z ∧ z.length ≤ 100000 ∧ (∀ k, readKind z = .ok k → ∀ c H', Same H H' → IsKind K κ H' c k → Q (.ref c) H') ∧
    (∀ n : Nat, readKind z = .error n → ∀ H' d, Same H H' → H' d = none → E (.ref (κ "InvalidKind")) (some d) (upd H' d (.xd [("number", .int (n : Nat))])))) ∨
   ((∃ m, TyX K H y (.type m) ∧ kitB m "str" = some false) ∧ ∀ H' d, Same H H' → H' d = none → E (.ref (κ "InvalidKind")) (some d) (upd H' d (.xd [("number", .int 0)]))))
/-- Kind_parse, slots ['cls', 'text', 'found', 'index', 'word'] -/
def t_Kind_parse (K : PySem.W.Frag) (κ : Kap) (E : XK) : TS :=
  (tSeq (tIfS (tNot (tTruU K (tCB (rIsiU K) (tCons (tVar 1) (tCons (tC (.ty "str")) tNil))))) (tRaise1 (κ "InvalidKind") "number" (fun cls d _ H => E cls d H) (tCons (tC (.int 0)) tNil)) tNext)
  (tSeq (tAsg (tLst tNil) (gName 2))
  (tSeq (tIfS (tTest (tOp rNe (tVar 1) (tC (.str "never")))) (tFor (iEnumA K (tCons (tBM K "str" rSplitU (tVar 1) (tCons (tC (.str "|")) tNil)) tNil)) (gTup K 2 (gCons (gName 3) (gCons (gName 4) gNil))) (tSeq (tIfS (tTest (tOp (rNotInKd K (κ "WORDS")) (tVar 4) (tC (.ref (κ "WORDS"))))) (tRaise1 (κ "InvalidKind") "number" (fun cls d _ H => E cls d H) (tCons (tOp (rAddU K) (tVar 3) (tC (.int 1))) tNil)) tNext)
  (tDrop (tBM K "list" (rExtendU K) (tVar 2) (tCons (tOp (rIxKd K (κ "WORDS")) (tC (.ref (κ "WORDS"))) (tVar 4)) tNil))))) tNext)
  (tRet (tMakeL 0 (κ "Kind") (sp_Kind___init__ K κ) [] (WE (fun cls d _ H => E cls d H)) (tCons (tVar 2) tNil))))))
abbrev N_Kind_parse : List Str := ["cls", "text", "found", "index", "word"]
theorem l_Kind_parse {K : PySem.W.Frag} {κ : Kap} {vs : List V} {H : Hp} {Q : VK} {E : XK} (h : sp_Kind_parse K κ vs H Q E) : vs.length = 2 := by obtain ⟨_, rfl, _⟩ := h; rfl
theorem readWords_cons (w : Str) (r : List Str) : readWords (w :: r) = match wordAtoms w with | none => .error 1 | some as => match readWords r with | .ok bs => .ok (as ++ bs) | .error n => .error (n + 1) := rfl
theorem readWords_app : ∀ (ws r : List Str) (as : List Atom), readWords ws = .ok as → readWords (ws ++ r) = match readWords r with | .ok bs => .ok (as ++ bs) | .error n => .error (n + ws.length)
  | [], r, as, h => by
    cases h
    show readWords r = _
    cases readWords r <;> rfl
  | w :: ws, r, as, h => by
    rw [readWords_cons] at h
    show readWords (w :: (ws ++ r)) = _
    rw [readWords_cons]
    cases hw : wordAtoms w with
    | none => rw [hw] at h; cases h
    | some bs =>
      rw [hw] at h
      dsimp only at h ⊢
      cases hr : readWords ws with
      | error n => rw [hr] at h; cases h
      | ok cs =>
        rw [hr] at h
        cases h
        rw [readWords_app ws r cs hr]
        cases readWords r with
        | ok ds => simp
        | error n => simp [Nat.add_assoc]
theorem readWords_len : ∀ (ws : List Str) (as : List Atom), readWords ws = .ok as → as.length ≤ 2 * ws.length
  | [], as, h => by cases h; exact Nat.le_refl _
  | w :: ws, as, h => by
    rw [readWords_cons] at h
    cases hw : wordAtoms w with
    | none => rw [hw] at h; cases h
    | some bs =>
      rw [hw] at h
      dsimp only at h
      cases hr : readWords ws with
      | error n => rw [hr] at h; cases h
      | ok cs =>
        rw [hr] at h
        cases h
        have h1 := readWords_len ws cs hr
        have h2 : bs.length ≤ 2 := by
          unfold wordAtoms at hw
          repeat (first | (split at hw; (cases hw; decide)) | cases hw)
        rw [List.length_append, List.length_cons]
        omega
theorem r_Kind_parse (K : PySem.W.Frag) (κ : Kap) (hW : WordsOk K κ) (vs : List V) (H : Hp) (Q : VK) (E : XK) (h : sp_Kind_parse K κ vs H Q E) :
    t_Kind_parse K κ E { nx := fun _ H' => Q .non H', rt := Q } (L2.start N_Kind_parse vs) H := by
  obtain ⟨y, rfl, h⟩ := h
  show t_Kind_parse K κ E _ [some (.ref (κ "Kind")), some y, none, none, none] H
  unfold t_Kind_parse
  walk_at "sx"
  rcases h with ⟨z, rfl, hz, good, bad⟩ | ⟨⟨m, ty, kb⟩, bad⟩
  · refine x_isi (b := true) (.base (.str _)) (by decide +kernel) ?_
    walk_at "sx"
    refine ⟨szL rfl, fun p hp => ?_⟩
    walk_at "sx"
    refine x_decN (fun c => ?_) (fun c => ?_)
    · walk_at "sx"
      refine x_split rfl (by rw [sizeLine_eq]; omega) fun l hl => ?_
      walk_at "sx"
      generalize hws : Txt.split z "|" = ws at hl ⊢
      have hlen : ws.length ≤ z.length + 2 := by rw [← hws]; exact PyProof.Rows.split_le z "|"
      have s1 : Same H (upd H p (.lst [])) := same_new hp
      have s2 : Same H (upd (upd H p (.lst [])) l (.lst (ws.map V.str))) := s1.trans (same_new hl)
      have hlH : H l = none := same_none s1 hl
      have hlp : l ≠ p := fun e => by rw [e, upd_same] at hl; cases hl
      refine ⟨l, ws.map V.str, rfl, .inl (SqL.of upd_same), fun J G wk hG => ?_⟩
      refine for_it wk (fun i σ H' => ∃ (z3 z4 : Option V) (as : List Atom), σ = [some (.ref (κ "Kind")), some (.str z), some (.ref p), z3, z4] ∧ readWords (ws.take i) = .ok as ∧ H' p = some (.lst (as.map atV)) ∧ H' l = some (.lst (ws.map V.str)) ∧ Same H H')
        ⟨none, none, [], rfl, rfl, by rw [upd_ne (Ne.symm hlp), upd_same]; rfl, upd_same, s2⟩ (fun i σ H' _ ⟨_, _, _, _, _, _, e, _⟩ => hG H' (fun o h1 h2 => by rw [upd_same] at h1; rw [e]; exact h1)) ?_ ?_
      · rintro i v σ H1 H2 hlt ⟨z3, z4, as, rfl, hrd, hp1, hl1, sm⟩ ⟨T, a, y, rfl, hT, rfl, ha, hy⟩
        cases ha
        obtain ⟨w, hw, rfl⟩ : ∃ w, ws[i]? = some w ∧ y = .str w := by
          have hy' : (ws.map V.str)[i]? = some y := hy
          rw [List.getElem?_map] at hy'
          cases e : ws[i]? with
          | none => rw [e] at hy'; cases hy'
          | some w => rw [e] at hy'; exact ⟨w, rfl, (Option.some.inj hy').symm⟩
        have hi : i < ws.length := (List.getElem?_eq_some_iff.mp hw).1
        refine x_gtup sqT_new rfl ?_
        walk_at "sx"
        have hpT : p ≠ T := fun e => by rw [← e, hp1] at hT; cases hT
        have hlT : l ≠ T := fun e => by rw [← e, hl1] at hT; cases hT
        have sm2 : Same H (upd H1 T (.tup [.int (i : Nat), .str w])) := sm.trans (same_new hT)
        have hlas : as.length ≤ 2 * ws.length := Nat.le_trans (readWords_len _ _ hrd) (by rw [List.length_take]; omega)
        rcases hW w with ⟨b, bs, e1, e2, e3⟩ | ⟨e1, e2⟩
        · refine ⟨w, _, rfl, rfl, e2, ?_⟩
          walk_at "sx"
          rw [show (!(some (Value.ref b)).isSome) = false from rfl, if_neg Bool.false_ne_true]
          walk_at "sx"
          have hp2 : (upd H1 T (.tup [.int (i : Nat), .str w])) p = some (.lst (as.map atV)) := by rw [upd_ne hpT]; exact hp1
          refine x_bms (tyV_lst hp2) ?_
          walk_at "sx"
          refine ⟨w, _, .ref b, rfl, rfl, e2, rfl, ?_⟩
          walk_at "sx"
          have hbs : bs.length ≤ 2 := by
            have := readWords_len [w] bs (by unfold readWords; rw [e1]; show Except.ok (bs ++ []) = _; rw [List.append_nil])
            simpa using this
          refine x_extendT hp2 (e3 _) (by rw [List.length_map, List.length_map, sizeLine_eq]; omega) ?_
          walk_at "sx"
          refine ⟨_, _, as ++ bs, rfl, ?_, ?_, ?_, same_mut sm2 hp⟩
          · rw [List.take_add_one, hw]
            show readWords (ws.take i ++ [w]) = _
            rw [readWords_app _ _ _ hrd]
            unfold readWords
            rw [e1]
            show Except.ok (as ++ (bs ++ [])) = _
            rw [List.append_nil]
          · rw [upd_same, List.map_append]
          · rw [upd_ne hlp, upd_ne hlT]; exact hl1
        · refine ⟨w, _, rfl, rfl, e2, ?_⟩
          walk_at "sx"
          rw [show (!(none : Option Value).isSome) = true from rfl, if_pos rfl]
          walk_at "sx"
          refine ⟨_, rfl, fun d hd => ?_⟩
          have herr : readKind z = .error (i + 1) := by
            unfold readKind
            rw [if_neg c, hws]
            have : readWords ws = .error (i + 1) := by
              have e4 : ws = ws.take i ++ w :: ws.drop (i + 1) := by
                have h1 := List.getElem_cons_drop (as := ws) (i := i) hi
                rw [(List.getElem?_eq_some_iff.mp hw).2] at h1
                rw [h1, List.take_append_drop]
              rw [e4, readWords_app _ _ _ hrd]
              unfold readWords
              rw [e1]
              show Except.error (1 + (ws.take i).length) = _
              rw [List.length_take, Nat.min_eq_left (Nat.le_of_lt hi), Nat.add_comm]
            rw [this]
          exact bad _ herr _ d sm2 hd
      · rintro σ H1 ⟨z3, z4, as, rfl, hrd, hp1, hl1, sm⟩
        rw [List.length_map, List.take_length] at hrd
        dsimp only
        walk_at "sx"
        refine ⟨rfl, ?_⟩
        walk_at "sx"
        have hlas : as.length ≤ 2 * ws.length := readWords_len _ _ hrd
        refine mk_kind (as := as) (k := fun a => decide (a ∈ as)) (.inl (SqL.of hp1)) (by omega) (fun a => rfl) fun k H2 s k1 => ?_
        refine good _ ?_ k H2 (sm.trans s) k1
        unfold readKind
        rw [if_neg c, hws, hrd]
    · walk_at "sx"
      refine ⟨rfl, ?_⟩
      walk_at "sx"
      refine mk_kind (as := []) (k := fun _ => false) (.inl (SqL.of upd_same)) (by decide) (fun a => by simp) fun k H2 s k1 => ?_
      refine good _ ?_ k H2 ((same_new hp).trans s) k1
      unfold readKind
      rw [if_pos c]
  · refine x_isi ty kb ?_
    walk_at "sx"
    exact ⟨_, rfl, fun d hd => bad H d (Same.refl _) hd⟩
end Nv

namespace Nv
open PySem PySem.Spec PyProof.Rows L2 ClX TL
section
variable {K : PySem.W.Frag} {κ : Kap} {H : Hp} {Q : VK} {E : XK}
theorem use_atoms {a dx t : Addr} (ha : H a = some (.ins (κ "Kind") dx [("kept", .ref t)])) (q : Q (.ref t) H) : ∃ a' dx fs, V.ref a = .ref a' ∧ H a' = some (.ins (κ "Kind") dx fs) ∧ sp_Kind_atoms K κ [.ref a'] H Q nE := ⟨a, dx, _, rfl, ha, a, dx, t, rfl, ha, q⟩
theorem use_ktext {a : Addr} {k : Kd} (h : IsKind K κ H a k) (q : ∀ H', Same H H' → Q (.str (kindText k)) H') : ∃ a' dx fs, V.ref a = .ref a' ∧ H a' = some (.ins (κ "Kind") dx fs) ∧ sp_Kind_text K κ [.ref a'] H Q nE := by
  obtain ⟨dx, t, ha, ht⟩ := id h
  exact ⟨a, dx, _, rfl, ha, a, k, rfl, h, q⟩
theorem use_klen {a : Addr} {k : Kd} (h : IsKind K κ H a k) (q : Q (.int ((kindL k).length : Nat)) H) : rOwnLen (κ "Kind") (sp_Kind___len__ K κ) [.ref a] H Q := by
  obtain ⟨dx, t, ha, ht⟩ := id h
  exact ⟨a, dx, _, rfl, ha, a, k, rfl, h, _, rfl, Nat.lt_of_le_of_lt (kindL_len k) (by decide), q⟩
theorem use_kbool {a : Addr} {k : Kd} (h : IsKind K κ H a k) (q : Q (.bl (decide (kindL k ≠ []))) H) : rOwnBool (κ "Kind") (sp_Kind___bool__ K κ) [.ref a] H Q := by
  obtain ⟨dx, t, ha, ht⟩ := id h
  exact ⟨a, dx, _, rfl, ha, a, k, rfl, h, _, rfl, q⟩
theorem use_kin {a : Addr} {k : Kd} {y : V} {b : Bool} (h : IsKind K κ H a k) (hy : (∃ c : Atom, y = atV c ∧ b = k c) ∨ ((∃ z, y = .str z ∧ ∀ a : Atom, z ≠ a.s) ∧ b = false) ∨ ((∃ m, TyX K H y (.type m) ∧ kitB m "str" = some false) ∧ b = false)) (q : Q (.bl b) H) : rOwnIn (κ "Kind") (sp_Kind___contains__ K κ) y (.ref a) H Q := by
  obtain ⟨dx, t, ha, ht⟩ := id h
  refine ⟨a, dx, _, rfl, ha, a, y, k, rfl, h, ?_⟩
  rcases hy with ⟨c, rfl, rfl⟩ | ⟨hz, rfl⟩ | ⟨hm, rfl⟩
  · exact .inl ⟨c, rfl, _, rfl, q⟩
  · exact .inr (.inl ⟨hz, _, rfl, q⟩)
  · exact .inr (.inr ⟨hm, _, rfl, q⟩)
theorem use_keq {a b : Addr} {k l : Kd} (h : IsKind K κ H a k) (h' : IsKind K κ H b l) {mg : Str → Option Value} (o : OCls K mg "Kind" (κ "Kind")) (q : Q (.bl (decide (kindL k = kindL l))) H) : rOwnEq K (κ "Kind") (sp_Kind___eq__ K κ) (.ref a) (.ref b) H Q := by
  obtain ⟨dx, t, ha, ht⟩ := id h
  obtain ⟨dy, u, hb, hu⟩ := id h'
  exact ⟨a, dx, _, _, rfl, ha, o.ty hb, .inl rfl, a, .ref b, k, rfl, h, .inl ⟨b, l, rfl, h', q⟩⟩
theorem use_keqT {a : Addr} {k : Kd} {y : V} {T : String} (h : IsKind K κ H a k) (hT : T ∈ flatT) (ty : TyX K H y (.type T)) (q : Q (.bl false) H) : rOwnEq K (κ "Kind") (sp_Kind___eq__ K κ) (.ref a) y H Q := by
  obtain ⟨dx, t, ha, ht⟩ := id h
  exact ⟨a, dx, _, _, rfl, ha, ty, .inr ⟨T, hT, rfl⟩, a, y, k, rfl, h, .inr ⟨T, hT, ty, q⟩⟩
theorem use_kne {a b : Addr} {k l : Kd} (h : IsKind K κ H a k) (h' : IsKind K κ H b l) (q : Q (.bl (!decide (kindL k = kindL l))) H) : rOwnNe (κ "Kind") (sp_Kind___eq__ K κ) (.ref a) (.ref b) H Q := by
  obtain ⟨dx, t, ha, ht⟩ := id h
  obtain ⟨dy, u, hb, hu⟩ := id h'
  exact ⟨a, dx, _, b, dy, _, rfl, rfl, ha, hb, a, .ref b, k, rfl, h, .inl ⟨b, l, rfl, h', _, rfl, q⟩⟩
theorem use_kk {f : Kd → Kd → Kd} {a b : Addr} {k l : Kd} (h : IsKind K κ H a k) (h' : IsKind K κ H b l) (q : ∀ c H', Same H H' → IsKind K κ H' c (f k l) → Q (.ref c) H') : rOwnB (κ "Kind") (spKK f K κ) (.ref a) (.ref b) H Q := by
  obtain ⟨dx, t, ha, ht⟩ := id h
  obtain ⟨dy, u, hb, hu⟩ := id h'
  exact ⟨a, dx, _, b, dy, _, rfl, rfl, ha, hb, a, b, k, l, rfl, h, h', q⟩
theorem x_catL {p q : Addr} {xs ys : List V} (h1 : H p = some (.lst xs)) (h2 : H q = some (.lst ys)) (z : xs.length + ys.length ≤ sizeLine) (h : ∀ l, H l = none → Q (.ref l) (upd H l (.lst (xs ++ ys)))) : rAddU K (.ref p) (.ref q) H Q := ⟨p, q, xs, ys, rfl, rfl, h1, h2, z, h⟩
theorem IsKind.lst {a p : Addr} {k : Kd} {xs : List V} {o : HO} (h : IsKind K κ H a k) (hp : H p = some (.lst xs)) : IsKind K κ (upd H p o) a k := by
  obtain ⟨dx, t, ha, ht⟩ := h
  refine ⟨dx, t, by rw [upd_ne (fun e => by rw [e, hp] at ha; cases ha)]; exact ha, ?_⟩
  rcases ht with (ht | ⟨u, ht⟩) | ht
  · exact .inl (.inl (by rw [upd_ne (fun e => by rw [e, hp] at ht; cases ht)]; exact ht))
  · exact .inl (.inr ⟨u, by rw [upd_ne (fun e => by rw [e, hp] at ht; cases ht)]; exact ht⟩)
  · exact .inr ht
end
/-- a Python list of atoms, tracked -/
def IsAL (H : Hp) (p : Addr) (as : List Atom) : Prop := H p = some (.lst (as.map atV))
theorem IsAL.same {H H' : Hp} {p : Addr} {as : List Atom} (h : IsAL H p as) (s : Same H H') : IsAL H' p as := s _ _ h
theorem use_kp1 {K : PySem.W.Frag} {κ : Kap} {H : Hp} {Q : VK} {f : Kd → Kd} {a : Addr} {k : Kd} (h : IsKind K κ H a k) (q : ∀ c H', Same H H' → IsKind K κ H' c (f k) → Q (.ref c) H') : ∃ a' dx fs, V.ref a = .ref a' ∧ H a' = some (.ins (κ "Kind") dx fs) ∧ spK1 f K κ [.ref a'] H Q nE := by
  obtain ⟨dx, t, ha, ht⟩ := id h
  exact ⟨a, dx, _, rfl, ha, a, k, rfl, h, q⟩
/-- .atoms -/
theorem use_ats {K : PySem.W.Frag} {κ : Kap} {H : Hp} {Q : VK} {a : Addr} {k : Kd} (h : IsKind K κ H a k) (q : ∀ t, SqT K H t (kindV k) → Q (.ref t) H) : ∃ a' dx fs, V.ref a = .ref a' ∧ H a' = some (.ins (κ "Kind") dx fs) ∧ sp_Kind_atoms K κ [.ref a'] H Q nE := by
  obtain ⟨dx, t, ha, ht⟩ := id h
  exact ⟨a, dx, _, rfl, ha, a, dx, t, rfl, ha, q t ht⟩
def Pv.short : Pv → Prop
  | .str z => z.length ≤ 100000
  | _ => True
theorem kindL_one (c : Atom) : kindL (oneK c) = [c] := by cases c <;> rfl
theorem kindL_oneAnd (c : Atom) (k : Kd) : kindL (fun a => oneK c a && k a) = if k c = true then [c] else [] := by
  by_cases h : k c = true
  · rw [if_pos h, ← kindL_one c]
    exact kindL_ext fun a => by
      unfold oneK
      by_cases e : a = c
      · subst e; simp [h]
      · simp [e]
  · rw [if_neg h, show ([] : List Atom) = kindL (fun _ => false) from rfl]
    exact kindL_ext fun a => by
      unfold oneK
      by_cases e : a = c
      · subst e; simpa using h
      · simp [e]
theorem kindL_oneSub (c : Atom) (k : Kd) : kindL (fun a => oneK c a && !k a) = if k c = true then [] else [c] := by
  have := kindL_oneAnd c fun a => !k a
  rw [this]
  cases k c <;> rfl
theorem kindL_zero : kindL (fun _ => false) = [] := rfl
/-- the truth of a value of the little language -/
theorem pv_tru {K : PySem.W.Frag} {H : Hp} {x : Pv} (h : x.short) {R : Bool → Hp → Prop} (q : R x.truth H) : truU K x.v H R := by
  cases x with
  | non => exact q
  | bl b => exact q
  | int i => exact q
  | str z => exact ⟨Nat.le_trans h (by decide), q⟩
theorem part_one (x : Pv) : kindL (if x.truth = true then truK (oneK x.atom) else falK (oneK x.atom)) = kindL (oneK x.atom) := by
  cases x with
  | non => rfl
  | bl b => cases b <;> rfl
  | int i =>
    show kindL (if (i != 0) = true then _ else _) = _
    cases i != 0 <;> rfl
  | str z =>
    show kindL (if ((z.length : Int) != 0) = true then _ else _) = _
    cases (z.length : Int) != 0 <;> rfl
end Nv

namespace Nv
open PySem PySem.Spec PyProof.Rows L2 ClX TL
/-! ### words of kinds, in plain Lean -/
def sixW : List Str := ["null", "false", "true", "bool", "int", "text"]
theorem mem_wordAtoms (w : Str) (a : Atom) : a ∈ (wordAtoms w).getD [] ↔ w = a.s ∨ (w = "bool" ∧ (a = .fals ∨ a = .tru)) := by
  unfold wordAtoms
  by_cases e1 : w = "null"
  · subst e1; rw [if_pos rfl]; cases a <;> decide
  rw [if_neg e1]
  by_cases e2 : w = "false"
  · subst e2; rw [if_pos rfl]; cases a <;> decide
  rw [if_neg e2]
  by_cases e3 : w = "true"
  · subst e3; rw [if_pos rfl]; cases a <;> decide
  rw [if_neg e3]
  by_cases e4 : w = "bool"
  · subst e4; rw [if_pos rfl]; cases a <;> decide
  rw [if_neg e4]
  by_cases e5 : w = "int"
  · subst e5; rw [if_pos rfl]; cases a <;> decide
  rw [if_neg e5]
  by_cases e6 : w = "text"
  · subst e6; rw [if_pos rfl]; cases a <;> decide
  rw [if_neg e6]
  constructor
  · intro h; cases h
  · rintro (h | h)
    · cases a <;> first | exact absurd h e1 | exact absurd h e2 | exact absurd h e3 | exact absurd h e5 | exact absurd h e6
    · exact absurd h.1 e4
def flatA (ws : List Str) : List Atom := ws.flatMap fun w => (wordAtoms w).getD []
theorem mem_flatA (ws : List Str) (a : Atom) : a ∈ flatA ws ↔ a.s ∈ ws ∨ (("bool" : Str) ∈ ws ∧ (a = .fals ∨ a = .tru)) := by
  unfold flatA
  rw [List.mem_flatMap]
  constructor
  · rintro ⟨w, hw, h⟩
    rcases (mem_wordAtoms w a).mp h with rfl | ⟨rfl, h2⟩
    · exact .inl hw
    · exact .inr ⟨hw, h2⟩
  · rintro (h | ⟨h, h2⟩)
    · exact ⟨_, h, (mem_wordAtoms _ a).mpr (.inl rfl)⟩
    · exact ⟨_, h, (mem_wordAtoms _ a).mpr (.inr ⟨rfl, h2⟩)⟩
theorem six_atoms {w : Str} (h : w ∈ sixW) : ∃ as, wordAtoms w = some as := by
  simp only [sixW, List.mem_cons, List.not_mem_nil, or_false] at h
  rcases h with rfl | rfl | rfl | rfl | rfl | rfl <;> exact ⟨_, rfl⟩
theorem readWords_ok : ∀ ws : List Str, (∀ w ∈ ws, w ∈ sixW) → readWords ws = .ok (flatA ws)
  | [], _ => rfl
  | w :: r, h => by
    obtain ⟨as, e⟩ := six_atoms (h w List.mem_cons_self)
    rw [readWords_cons, e, readWords_ok r fun v hv => h v (List.mem_cons_of_mem _ hv)]
    show Except.ok (as ++ flatA r) = .ok (flatA (w :: r))
    unfold flatA
    rw [List.flatMap_cons, e]
    rfl
theorem readWords_bad {ws r : List Str} {w : Str} (h : ∀ v ∈ ws, v ∈ sixW) (hw : wordAtoms w = none) : readWords (ws ++ w :: r) = .error (ws.length + 1) := by
  rw [readWords_app _ _ _ (readWords_ok ws h), readWords_cons, hw]
  show Except.error (1 + ws.length) = _
  rw [Nat.add_comm]
theorem six_124 {w : Str} (h : w ∈ sixW) : 124 ∉ TL.tl w := by
  simp only [sixW, List.mem_cons, List.not_mem_nil, or_false] at h
  rcases h with rfl | rfl | rfl | rfl | rfl | rfl <;> decide +kernel
theorem readKind_join {ws : List Str} (h0 : ws ≠ []) (h1 : ∀ w ∈ ws, 124 ∉ TL.tl w) (hn : ws ≠ [("never" : Str)]) : readKind (Txt.join "|" ws) = match readWords ws with
    | .ok as => .ok fun a => decide (a ∈ as)
    | .error n => .error n := by
  have sj : ∀ {vs : List Str}, vs ≠ [] → (∀ w ∈ vs, 124 ∉ TL.tl w) → Txt.split (Txt.join "|" vs) "|" = vs := fun a b => TL.split_join (s := 124) (S := []) rfl (by decide +kernel) a b
  have e1 := sj h0 h1
  have e2 : Txt.split "never" "|" = [("never" : Str)] := sj (vs := [("never" : Str)]) (by simp) (fun w hw => by
    have : w = "never" := by simpa using hw
    rw [this]; decide +kernel)
  have ne : Txt.join "|" ws ≠ "never" := fun e => hn (by rw [← e1, e, e2])
  unfold readKind
  rw [if_neg ne, e1]
  all_goals (cases readWords ws <;> rfl)
theorem joinL_len (S : List Nat) : ∀ ps : List (List Nat), (TL.joinL S ps).length ≤ (ps.map (·.length)).sum + ps.length * S.length
  | [] => by simp [TL.joinL]
  | [p] => by simp [TL.joinL]
  | p :: q :: r => by
    have ih := joinL_len S (q :: r)
    show (p ++ (S ++ TL.joinL S (q :: r))).length ≤ _
    rw [List.length_append, List.length_append, List.map_cons, List.sum_cons, List.length_cons, Nat.add_mul]
    omega
theorem tl_len (x : Str) : (TL.tl x).length = x.length := Array.length_toList
theorem join_len (ws : List Str) (n : Nat) (h : ∀ w ∈ ws, w.length ≤ n) : (Txt.join "|" ws).length ≤ ws.length * n + ws.length := by
  rw [← tl_len, TL.join_eq, TL.tl_join]
  have h1 := joinL_len (TL.tl "|") (ws.map TL.tl)
  have h2 := sum_len_le ws n h
  have e : (ws.map TL.tl).map (·.length) = ws.map (·.length) := by rw [List.map_map]; exact List.map_congr_left fun w _ => tl_len w
  rw [e, List.length_map] at h1
  have e2 : (TL.tl "|").length = 1 := rfl
  rw [e2] at h1
  omega
theorem joinL_pipe (S a : List Nat) : ∀ xs ys : List (List Nat), TL.joinL S (xs ++ (a ++ S) :: ys) = TL.joinL S (xs ++ a :: [] :: ys)
  | [], [] => by
    show a ++ S = a ++ (S ++ [])
    rw [List.append_nil]
  | [], y :: r => by
    show (a ++ S) ++ (S ++ TL.joinL S (y :: r)) = a ++ (S ++ ([] ++ (S ++ TL.joinL S (y :: r))))
    rw [List.nil_append, List.append_assoc]
  | [x], ys => by
    show x ++ (S ++ TL.joinL S ([] ++ (a ++ S) :: ys)) = x ++ (S ++ TL.joinL S ([] ++ a :: [] :: ys))
    rw [joinL_pipe S a [] ys]
  | x :: z :: r, ys => by
    show x ++ (S ++ TL.joinL S ((z :: r) ++ (a ++ S) :: ys)) = x ++ (S ++ TL.joinL S ((z :: r) ++ a :: [] :: ys))
    rw [joinL_pipe S a (z :: r) ys]
theorem tl_inj {x y : Str} (h : TL.tl x = TL.tl y) : x = y := by
  have := TL.map_tl_inj (l := [x]) (m := [y]) (by rw [List.map_cons, List.map_cons, h])
  simpa using this
theorem join_pipe (xs ys : List Str) : Txt.join "|" (xs ++ ("text|" : Str) :: ys) = Txt.join "|" (xs ++ ("text" : Str) :: ("" : Str) :: ys) := by
  apply tl_inj
  rw [TL.join_eq, TL.tl_join, TL.join_eq, TL.tl_join, List.map_append, List.map_append]
  exact joinL_pipe (TL.tl "|") (TL.tl "text") (xs.map TL.tl) (ys.map TL.tl)
/-- the nine wrong words -/
def nineW : List Str := ["", "never", "Int", " int", "int ", "boolean", "none", "text|", "str"]
theorem wrong_number {xs ys : List Str} {w : Str} (hx : ∀ v ∈ xs, v ∈ sixW) (hy : ∀ v ∈ ys, v ∈ sixW) (hw : w ∈ nineW) (h0 : xs ++ ys ≠ []) :
    readKind (Txt.join "|" (xs ++ w :: ys)) = .error (if w = "text|" then xs.length + 2 else xs.length + 1) := by
  have n1 : ∀ (zs : List Str) (v : Str), 2 ≤ zs.length → zs ≠ [v] := fun zs v h e => by rw [e] at h; simp at h
  have l1 : 1 ≤ xs.length + ys.length := by
    have : (xs ++ ys).length ≠ 0 := fun e => h0 (List.length_eq_zero_iff.mp e)
    rw [List.length_append] at this
    omega
  by_cases ht : w = "text|"
  · subst ht
    rw [if_pos rfl, join_pipe, readKind_join (by simp) (fun v hv => ?_) (n1 _ _ (by rw [List.length_append, List.length_cons, List.length_cons]; omega))]
    · have e : xs ++ ("text" : Str) :: ("" : Str) :: ys = (xs ++ [("text" : Str)]) ++ ("" : Str) :: ys := by simp
      rw [e, readWords_bad (fun v hv => ?_) (by decide +kernel)]
      · simp
      · rcases List.mem_append.mp hv with h | h
        · exact hx v h
        · have : v = "text" := by simpa using h
          rw [this]; decide
    · rcases List.mem_append.mp hv with h | h
      · exact six_124 (hx v h)
      · rcases List.mem_cons.mp h with rfl | h
        · decide +kernel
        · rcases List.mem_cons.mp h with rfl | h
          · decide +kernel
          · exact six_124 (hy v h)
  · rw [if_neg ht]
    have hw' : wordAtoms w = none ∧ 124 ∉ TL.tl w := by
      simp only [nineW, List.mem_cons, List.not_mem_nil, or_false] at hw
      rcases hw with rfl | rfl | rfl | rfl | rfl | rfl | rfl | rfl | rfl <;> first | exact absurd rfl ht | exact ⟨by decide +kernel, by decide +kernel⟩
    have nn : xs ++ w :: ys ≠ [] := by simp
    rw [readKind_join nn (fun v hv => ?_) (n1 _ _ (by rw [List.length_append, List.length_cons]; omega)), readWords_bad hx hw'.1]
    rcases List.mem_append.mp hv with h | h
    · exact six_124 (hx v h)
    · rcases List.mem_cons.mp h with rfl | h
      · exact hw'.2
      · exact six_124 (hy v h)
theorem readKind_words {ws : List Str} (h0 : ws ≠ []) (h : ∀ w ∈ ws, w ∈ sixW) : readKind (Txt.join "|" ws) = .ok fun a => decide (a ∈ flatA ws) := by
  rw [readKind_join h0 (fun w hw => six_124 (h w hw)) (fun e => by rw [e] at h; exact absurd (h "never" List.mem_cons_self) (by decide)), readWords_ok ws h]
end Nv

namespace Nv
open PySem PySem.Spec PyProof.Rows L2 TL
local macro_rules | `(tactic| walk_at "sx") => `(tactic| repeat (first
  | with_reducible refine x_seq ?_ | with_reducible refine x_asg ?_ | with_reducible refine x_name ?_ | ((with_reducible show tVar _ _ _ _); refine x_var rfl ?_) | with_reducible refine x_c ?_ | with_reducible refine x_op ?_
  | with_reducible refine x_un ?_ | with_reducible refine x_drop ?_ | with_reducible refine x_ret ?_ | with_reducible refine x_retN ?_ | with_reducible refine x_next ?_ | with_reducible refine x_ifS ?_ | with_reducible refine x_if ?_
  | with_reducible refine x_test ?_ | with_reducible refine x_blk ?_ | with_reducible refine x_and ?_ | with_reducible refine x_or ?_ | with_reducible refine x_not ?_ | with_reducible refine x_nil ?_ | with_reducible refine x_cons ?_
  | with_reducible refine x_cb ?_ | with_reducible refine x_call ?_ | with_reducible refine x_lst ?_ | with_reducible refine x_tup ?_ | with_reducible refine x_sub ?_ | with_reducible refine x_bm ?_ | with_reducible refine x_bm0 ?_
  | with_reducible refine x_sl ?_ | with_reducible refine x_noPart ?_ | with_reducible refine x_part ?_ | with_reducible refine x_intk ?_ | with_reducible refine x_tru ?_ | with_reducible refine x_truB ?_ | with_reducible refine x_truN ?_ | with_reducible refine x_truI ?_
  | with_reducible refine x_addI ?_ | with_reducible refine x_subI ?_ | with_reducible refine x_ltI ?_ | with_reducible refine x_leI ?_ | with_reducible refine x_gtI ?_ | with_reducible refine x_geI ?_ | with_reducible refine x_eqI ?_ | with_reducible refine x_neI ?_
  | with_reducible refine x_eqS ?_ | with_reducible refine x_neS ?_ | with_reducible refine x_intI ?_ | with_reducible refine x_abs ?_ | with_reducible refine x_inS ?_ | with_reducible refine x_notInS ?_
  | with_reducible refine x_true ?_ | with_reducible refine x_false ?_ | with_reducible refine x_ntrue ?_ | with_reducible refine x_nfalse ?_
  | with_reducible refine x_mulR (by first | decide | omega) (by first | decide | omega) ?_
  | with_reducible refine x_mulL (by first | decide | omega) (by first | decide | omega) ?_
  | with_reducible refine x_modI (by first | decide | assumption | omega) ?_
  | with_reducible refine x_fdivI (by first | decide | assumption | omega) (by first | decide | assumption | omega) ?_
  | with_reducible refine x_powL (k := 1000000000000000000) (by decide) (by decide) (by decide) (by decide) ?_
  | with_reducible refine x_powL (k := 1000000000) (by decide) (by decide) (by decide) (by decide) ?_
  | with_reducible refine x_for ?_ | with_reducible refine x_rng1 ?_ | with_reducible refine x_rng2 ?_ | with_reducible refine x_rng3 ?_ | with_reducible refine x_iList ?_ | with_reducible refine x_iTup ?_
  | with_reducible refine x_rngk1 (by first | decide | omega) (by first | decide | omega) ?_
  | with_reducible refine x_rngk2 (by first | decide | omega) (by first | decide | omega) (by first | decide | omega) (by first | decide | omega) ?_
  | with_reducible refine x_gcons ?_ | with_reducible refine x_gnil ?_ | with_reducible refine x_revL ?_ | with_reducible refine x_isN ?_ | with_reducible refine x_notN ?_ | with_reducible refine x_unNeg ?_
  | with_reducible refine x_bms tyV_str ?_
  | with_reducible refine x_try ?_ | with_reducible refine x_andT ?_ | with_reducible refine x_orT ?_))
/-- _law_taken, slots ['_law_row', '_law_many', '_law_found', '_law_cell'] -/
def t__law_taken (K : PySem.W.Frag) (κ : Kap) (E : XK) : TS :=
  (tSeq (tIfS (tTest (tOp rGtU (tOp (rIx K) (tVar 0) (tC (.int 3))) (tC (.int 0)))) (tSeq (tAsg (tOp rModU (tCB rIntU (tCons (tOp (rIx K) (tVar 0) (tC (.int 3))) tNil)) (tVar 1)) (gName 2))
  (tSeq (tAsg (tOp rFdivU (tOp (rIx K) (tVar 0) (tC (.int 3))) (tVar 1)) (gSub (tVar 0) (tC (.int 3)) rSetL))
  (tRet (tVar 2)))) tNext)
  (tSeq (tAsg (tOp (rAddU K) (tOp (rIx K) (tVar 0) (tC (.int 1))) (tC (.int 1))) (gSub (tVar 0) (tC (.int 1)) rSetL))
  (tSeq (tIfS (tTest (tOp rGtU (tOp (rIx K) (tVar 0) (tC (.int 1))) (tCB (rLenU K) (tCons (tOp (rIx K) (tVar 0) (tC (.int 0))) tNil)))) (tSeq (tAsg (tOp rModU (tCB rIntU (tCons (tOp (rAddU K) (tOp rMulU (tOp (rIx K) (tVar 0) (tC (.int 2))) (tC (.int 48271))) (tC (.int 11))) tNil)) (tC (.int 2147483647))) (gSub (tVar 0) (tC (.int 2)) rSetL))
  (tRet (tOp rModU (tCB rIntU (tCons (tOp rFdivU (tOp (rIx K) (tVar 0) (tC (.int 2))) (tC (.int 7))) tNil)) (tVar 1)))) tNext)
  (tSeq (tAsg (tOp (rIx K) (tOp (rIx K) (tVar 0) (tC (.int 0))) (tOp rSubU (tOp (rIx K) (tVar 0) (tC (.int 1))) (tC (.int 1)))) (gName 3))
  (tSeq (tAsg (tOp rModU (tCB rIntU (tCons (tOp (rAddU K) (tOp (rAddU K) (tOp rMulU (tOp (rIx K) (tVar 0) (tC (.int 2))) (tC (.int 48271))) (tVar 3)) (tC (.int 11))) tNil)) (tC (.int 2147483647))) (gSub (tVar 0) (tC (.int 2)) rSetL))
  (tSeq (tIfS (tTest (tOp rGeU (tVar 3) (tOp rPowU (tC (.int 10)) (tC (.int 18))))) (tAsg (tOp rFdivU (tVar 3) (tVar 1)) (gSub (tVar 0) (tC (.int 3)) rSetL)) tNext)
  (tRet (tOp rModU (tCB rIntU (tCons (tVar 3) tNil)) (tVar 1)))))))))
abbrev N__law_taken : List Str := ["_law_row", "_law_many", "_law_found", "_law_cell"]
/-- all but the row stays -/
def SameR (r : Addr) (H H' : Hp) : Prop := ∀ b o, b ≠ r → H b = some o → H' b = some o
theorem SameR.refl {r : Addr} {H : Hp} : SameR r H H := fun _ _ _ e => e
theorem SameR.trans {r : Addr} {H H1 H2 : Hp} (a : SameR r H H1) (b : SameR r H1 H2) : SameR r H H2 := fun c o n h => b c o n (a c o n h)
theorem SameR.of {r : Addr} {H H' : Hp} (s : Same H H') : SameR r H H' := fun b o _ h => s b o h
theorem SameR.eq {r : Addr} {H H' : Hp} (h : ∀ b, b ≠ r → H' b = H b) : SameR r H H' := fun b o n e => (h b n).trans e
theorem SameR.mut {r p : Addr} {H0 H : Hp} {o : HO} (s : SameR r H0 H) (n : H0 p = none) : SameR r H0 (upd H p o) := fun b x m e => by rw [upd_ne (ne_of_none e n)]; exact s b x m e
theorem SameR.none {r p : Addr} {H H' : Hp} (s : SameR r H H') (h : p ≠ r) (n : H' p = none) : H p = none := by
  cases e : H p with
  | none => rfl
  | some o => rw [s _ _ h e] at n; cases n
/-- the law's row of draws over the script at a -/
def RowAt (H : Hp) (r a : Addr) : Prop := ∃ i x d : Int, H r = some (.lst [.ref a, .int i, .int x, .int d]) ∧ 0 ≤ i ∧ 0 ≤ d
def RowOk (K : PySem.W.Frag) (H : Hp) (r a : Addr) : Prop := RowAt H r a ∧ ∃ ns : List Int, SqL K H a (ns.map V.int)
theorem RowAt.upd {H : Hp} {r a p : Addr} {o : HO} (h : RowAt H r a) (n : p ≠ r) : RowAt (upd H p o) r a := by
  obtain ⟨i, x, d, h1, h2⟩ := h
  exact ⟨i, x, d, by rw [upd_ne (Ne.symm n)]; exact h1, h2⟩
theorem row_seq {K : PySem.W.Frag} {H : Hp} {r a b : Addr} {ns : List Int} {vs : List V} {o : HO} (h : H r = some (.lst (.ref b :: vs))) (l : SqL K H a (ns.map V.int)) : SqL K (upd H r o) a (ns.map V.int) := by
  rcases l with (l | ⟨u, l⟩) | l
  · have ne : a ≠ r := fun e => by
      rw [e, h] at l
      cases ns with
      | nil => cases l
      | cons n ns => cases l
    exact .inl (.inl (by rw [upd_ne ne]; exact l))
  · have ne : a ≠ r := fun e => by
      rw [e, h] at l
      cases l
    exact .inl (.inr ⟨u, by rw [upd_ne ne]; exact l⟩)
  · exact .inr l
theorem RowOk.frame {K : PySem.W.Frag} {H H' : Hp} {r a : Addr} (h : RowOk K H r a) (s : SameR r H H') (w : RowAt H' r a) : RowOk K H' r a := by
  obtain ⟨⟨i, x, d, h1, h2⟩, ns, l⟩ := h
  refine ⟨w, ns, ?_⟩
  rcases l with (l | ⟨u, l⟩) | l
  · have ne : a ≠ r := fun e => by
      rw [e, h1] at l
      cases ns with
      | nil => cases l
      | cons n ns => cases l
    exact .inl (.inl (s _ _ ne l))
  · have ne : a ≠ r := fun e => by
      rw [e, h1] at l
      cases l
    exact .inl (.inr ⟨u, s _ _ ne l⟩)
  · exact .inr l
def sp__law_taken (K : PySem.W.Frag) (κ : Kap) : Sp := fun vs H Q _ => ∃ (r a : Addr) (m : Int), vs = [.ref r, .int m] ∧ RowOk K H r a ∧ 0 < m ∧ m < 1073741824 ∧
  ∀ (v : Int) (o : HO), 0 ≤ v → v < m → RowOk K (upd H r o) r a → Q (.int v) (upd H r o)
theorem r__law_taken (K : PySem.W.Frag) (κ : Kap) (vs : List V) (H : Hp) (Q : VK) (E : XK) (h : sp__law_taken K κ vs H Q E) :
    t__law_taken K κ E { nx := fun _ H' => Q .non H', rt := Q } (start N__law_taken vs) H := by
  obtain ⟨r, a, m, rfl, ⟨⟨i, x, d, hr, hi, hd⟩, ns, hs⟩, hm, hm2, q⟩ := h
  have ix0 : ∀ {i x d : Int}, atI [V.ref a, .int i, .int x, .int d] 0 = some (.ref a) := fun {_ _ _} => rfl
  have ix1 : ∀ {i x d : Int}, atI [V.ref a, .int i, .int x, .int d] 1 = some (.int i) := fun {_ _ _} => rfl
  have ix2 : ∀ {i x d : Int}, atI [V.ref a, .int i, .int x, .int d] 2 = some (.int x) := fun {_ _ _} => rfl
  have ix3 : ∀ {i x d : Int}, atI [V.ref a, .int i, .int x, .int d] 3 = some (.int d) := fun {_ _ _} => rfl
  show t__law_taken K κ E _ [some (.ref r), some (.int m), none, none] H
  unfold t__law_taken
  walk_at "sx"
  refine x_ixL (SqL.of hr) ix3 ?_
  walk_at "sx"
  refine x_dec (fun c => ?_) (fun c => ?_)
  · walk_at "sx"
    refine x_ixL (SqL.of hr) ix3 ?_
    walk_at "sx"
    refine x_ixL (SqL.of hr) ix3 ?_
    walk_at "sx"
    refine x_set4_3 hr ?_
    walk_at "sx"
    exact q _ _ (Int.emod_nonneg _ (by omega)) (Int.emod_lt_of_pos _ hm) ⟨⟨i, x, d / m, upd_same, hi, Int.ediv_nonneg hd (by omega)⟩, ns, row_seq hr hs⟩
  · walk_at "sx"
    refine x_ixL (SqL.of hr) ix1 ?_
    walk_at "sx"
    refine x_set4_1 hr ?_
    walk_at "sx"
    have h1 : (upd H r (.lst [.ref a, .int (i + 1), .int x, .int d])) r = some (.lst [.ref a, .int (i + 1), .int x, .int d]) := upd_same
    have s1 := row_seq (o := .lst [.ref a, .int (i + 1), .int x, .int d]) hr hs
    generalize hH : upd H r (.lst [.ref a, .int (i + 1), .int x, .int d]) = H1 at h1 s1 ⊢
    refine x_ixL (SqL.of h1) ix1 ?_
    walk_at "sx"
    refine x_ixL (SqL.of h1) ix0 ?_
    walk_at "sx"
    refine x_lenL s1 ?_
    walk_at "sx"
    refine x_dec (fun c2 => ?_) (fun c2 => ?_)
    · walk_at "sx"
      refine x_ixL (SqL.of h1) ix2 ?_
      walk_at "sx"
      refine x_set4_2 h1 ?_
      walk_at "sx"
      refine x_ixL (SqL.of upd_same) ix2 ?_
      walk_at "sx"
      rw [← hH, upd_upd]
      exact q _ _ (Int.emod_nonneg _ (by omega)) (Int.emod_lt_of_pos _ hm) ⟨⟨_, _, d, upd_same, by omega, hd⟩, ns, row_seq hr hs⟩
    · walk_at "sx"
      refine x_ixL (SqL.of h1) ix0 ?_
      walk_at "sx"
      refine x_ixL (SqL.of h1) ix1 ?_
      walk_at "sx"
      have hl : (i + 1 - 1).toNat < ns.length := by
        rw [List.length_map] at c2
        omega
      refine x_ixL s1 (at_of (j := (i + 1 - 1).toNat) (by omega) (by rw [List.getElem?_map, List.getElem?_eq_getElem hl]; rfl)) ?_
      walk_at "sx"
      refine x_ixL (SqL.of h1) ix2 ?_
      walk_at "sx"
      refine x_set4_2 h1 ?_
      walk_at "sx"
      refine x_dec (fun c3 => ?_) (fun c3 => ?_)
      · walk_at "sx"
        refine x_set4_3 upd_same ?_
        walk_at "sx"
        rw [← hH, upd_upd, upd_upd]
        exact q _ _ (Int.emod_nonneg _ (by omega)) (Int.emod_lt_of_pos _ hm) ⟨⟨_, _, _, upd_same, by omega, Int.ediv_nonneg (by omega) (by omega)⟩, ns, row_seq hr hs⟩
      · walk_at "sx"
        rw [← hH, upd_upd]
        exact q _ _ (Int.emod_nonneg _ (by omega)) (Int.emod_lt_of_pos _ hm) ⟨⟨_, _, d, upd_same, by omega, hd⟩, ns, row_seq hr hs⟩

theorem use_taken {K : PySem.W.Frag} {κ : Kap} {H : Hp} {r a : Addr} {m : Int} {Q : VK} {E : XK} (hr : RowOk K H r a) (h1 : 0 < m) (h2 : m < 1073741824)
    (h : ∀ (v : Int) (H' : Hp), 0 ≤ v → v < m → RowOk K H' r a → (∀ b, b ≠ r → H' b = H b) → Q (.int v) H') : sp__law_taken K κ [.ref r, .int m] H Q E :=
  ⟨r, a, m, rfl, hr, h1, h2, fun v o a b c => h v _ a b c fun _ n => upd_ne n⟩
theorem RowOk.same {K : PySem.W.Frag} {H H' : Hp} {r a : Addr} (h : RowOk K H r a) (s : Same H H') : RowOk K H' r a := by
  obtain ⟨⟨i, x, d, h1, h3, h4⟩, ns, h2⟩ := h
  exact ⟨⟨i, x, d, s _ _ h1, h3, h4⟩, ns, s.seq h2⟩
theorem RowOk.new {K : PySem.W.Frag} {H : Hp} {r a p : Addr} {o : HO} (h : RowOk K H r a) (n : H p = none) : RowOk K (upd H p o) r a := h.same (same_new n)
theorem RowOk.ne {K : PySem.W.Frag} {H : Hp} {r a p : Addr} (h : RowOk K H r a) (n : H p = none) : p ≠ r := fun e => by
  obtain ⟨⟨i, x, d, h1, _⟩, _⟩ := h
  rw [e, h1] at n
  cases n
theorem at_mem {α : Type} {xs : List α} {v : Int} (h1 : 0 ≤ v) (h2 : v < xs.length) : ∃ x, atI xs v = some x ∧ x ∈ xs := by
  have hl : v.toNat < xs.length := by omega
  exact ⟨xs[v.toNat], at_g v.toNat (by omega) (List.getElem?_eq_getElem hl), List.getElem_mem hl⟩
theorem l__law_taken {K : PySem.W.Frag} {κ : Kap} {vs : List V} {H : Hp} {Q : VK} {E : XK} (h : sp__law_taken K κ vs H Q E) : vs.length = 2 := by obtain ⟨_, _, _, rfl, _⟩ := h; rfl
end Nv

namespace Nv
open PySem PySem.Spec PyProof.Rows L2 ClX TL
local macro_rules | `(tactic| walk_at "sx") => `(tactic| repeat (first
  | with_reducible refine x_seq ?_ | with_reducible refine x_asg ?_ | with_reducible refine x_name ?_ | ((with_reducible show tVar _ _ _ _); refine x_var rfl ?_) | with_reducible refine x_c ?_ | with_reducible refine x_op ?_
  | with_reducible refine x_un ?_ | with_reducible refine x_drop ?_ | with_reducible refine x_ret ?_ | with_reducible refine x_retN ?_ | with_reducible refine x_next ?_ | with_reducible refine x_ifS ?_ | with_reducible refine x_if ?_
  | with_reducible refine x_test ?_ | with_reducible refine x_blk ?_ | with_reducible refine x_and ?_ | with_reducible refine x_or ?_ | with_reducible refine x_not ?_ | with_reducible refine x_nil ?_ | with_reducible refine x_cons ?_
  | with_reducible refine x_cb ?_ | with_reducible refine x_call ?_ | with_reducible refine x_lst ?_ | with_reducible refine x_tup ?_ | with_reducible refine x_sub ?_ | with_reducible refine x_bm ?_ | with_reducible refine x_bm0 ?_
  | with_reducible refine x_sl ?_ | with_reducible refine x_noPart ?_ | with_reducible refine x_part ?_ | with_reducible refine x_intk ?_ | with_reducible refine x_tru ?_ | with_reducible refine x_truB ?_ | with_reducible refine x_truN ?_ | with_reducible refine x_truI ?_
  | with_reducible refine x_addI ?_ | with_reducible refine x_subI ?_ | with_reducible refine x_ltI ?_ | with_reducible refine x_leI ?_ | with_reducible refine x_gtI ?_ | with_reducible refine x_geI ?_ | with_reducible refine x_eqI ?_ | with_reducible refine x_neI ?_
  | with_reducible refine x_eqS ?_ | with_reducible refine x_neS ?_ | with_reducible refine x_intI ?_ | with_reducible refine x_abs ?_ | with_reducible refine x_inS ?_ | with_reducible refine x_notInS ?_
  | with_reducible refine x_true ?_ | with_reducible refine x_false ?_ | with_reducible refine x_ntrue ?_ | with_reducible refine x_nfalse ?_
  | with_reducible refine x_mulR (by first | decide | omega) (by first | decide | omega) ?_
  | with_reducible refine x_mulL (by first | decide | omega) (by first | decide | omega) ?_
  | with_reducible refine x_modI (by first | decide | assumption | omega) ?_
  | with_reducible refine x_fdivI (by first | decide | assumption | omega) (by first | decide | assumption | omega) ?_
  | with_reducible refine x_powL (k := 1000000000000000000) (by decide) (by decide) (by decide) (by decide) ?_
  | with_reducible refine x_powL (k := 1000000000) (by decide) (by decide) (by decide) (by decide) ?_
  | with_reducible refine x_for ?_ | with_reducible refine x_rng1 ?_ | with_reducible refine x_rng2 ?_ | with_reducible refine x_rng3 ?_ | with_reducible refine x_iList ?_ | with_reducible refine x_iTup ?_
  | with_reducible refine x_rngk1 (by first | decide | omega) (by first | decide | omega) ?_
  | with_reducible refine x_rngk2 (by first | decide | omega) (by first | decide | omega) (by first | decide | omega) (by first | decide | omega) ?_
  | with_reducible refine x_gcons ?_ | with_reducible refine x_gnil ?_ | with_reducible refine x_revL ?_ | with_reducible refine x_isN ?_ | with_reducible refine x_notN ?_ | with_reducible refine x_unNeg ?_
  | with_reducible refine x_bms tyV_str ?_
  | with_reducible refine x_try ?_ | with_reducible refine x_andT ?_ | with_reducible refine x_orT ?_
  | with_reducible refine x_fldN ?_ | with_reducible refine x_sFldN ?_ | with_reducible refine x_dnewK ?_ | with_reducible refine x_methW ?_ | with_reducible refine x_makeW ?_ | with_reducible refine x_propW ?_ | with_reducible refine x_kmeth ?_
  | with_reducible refine x_lc ?_ | with_reducible refine x_yes ?_ | with_reducible refine x_enumA ?_ | with_reducible refine x_boolB ?_ | with_reducible refine x_boolI ?_ | with_reducible refine x_raise1 ?_ | with_reducible refine x_raise2 ?_))
/-- not x of an own __bool__, as a value -/
def tNotOwn (C : Addr) (sp : Sp) (te : TE) : TE := fun σ H Q => te σ H fun x H1 => ∃ a dx fs, x = .ref a ∧ H1 a = some (.ins C dx fs) ∧ sp [.ref a] H1 (fun z H' => ∃ c, z = .bl c ∧ Q (.bl (!c)) H') nE
theorem pe_notOwn {X : Cx} {k : Nat} {C : Addr} {ps : List Str} {sp : Sp} {e : Expr} {ta : TE} {pos : Pos} (M : MCal X.prog X.w X.K X.mg X.base k C "__bool__" ps [] sp) (hr : Room k X.A) (ha : PE X e ta) : PE X (.UnaryOp .Not e pos) (tNotOwn C sp ta) := by
  obtain ⟨f, fd, ds, F, hM, hB, hd⟩ := M.ex
  cases hd
  refine ⟨fun pins s σ H Q I q => ?_⟩
  refine UnaryOp_ (thn (ha.run pins s σ H _ I q) fun v s1 ⟨x, H1, I1, r1, a, dx, fs, ex, hx, q1⟩ => ?_)
  subst ex
  cases (show v = Value.ref a from r1)
  obtain ⟨od, J⟩ := ins_look I1 hx
  obtain ⟨m', hF⟩ := I1.fr
  refine not_of (PySem.W.truthy_K hF I1.ok.mod.kin J hM.at_ hM.fn ?_)
  refine wpAny_mono (run_own (us := [.ref a]) (vs := [.ref a]) F hr I1.env0 hB I1 (.cons rfl .nil) q1) (fun w s' z => ?_) fun _ _ x => x
  obtain ⟨z', H', I', rz, c, ez, qz⟩ := z
  subst ez
  cases (show w = Value.bool c from rz)
  exact ⟨.bl (!c), H', I', rfl, qz⟩
def numV : Except Nat Kd → V
  | .ok _ => .non
  | .error n => .int (n : Nat)
def sp__law_kind_text (K : PySem.W.Frag) (κ : Kap) : Sp := fun vs H Q _ => ∃ (p : Addr) (k : Kd), vs = [.ref p] ∧ IsAL H p (kindL k) ∧ ∀ H', Same H H' → Q (.str (kindText k)) H'
def sp__law_number (K : PySem.W.Frag) (κ : Kap) : Sp := fun vs H Q _ => ∃ (y : V) (b : Bool), vs = [y, .bl b] ∧
  ((b = true ∧ ((∃ z : Str, y = .str z ∧ z.length ≤ 100000 ∧ ∀ H', Same H H' → Q (numV (readKind z)) H') ∨ ((∃ m, TyX K H y (.type m) ∧ kitB m "str" = some false) ∧ ∀ H', Same H H' → Q (.int 0) H'))) ∨
   (b = false ∧ ∃ (p : Addr) (xs : List V), y = .ref p ∧ SqA K H p xs ∧ xs.length ≤ 1000 ∧ (∀ y ∈ xs, ItemOk K H y) ∧ (∀ as : List Atom, xs = as.map atV → ∀ H', Same H H' → Q .non H') ∧
     (∀ (as : List Atom) (y : V) (r : List V), xs = as.map atV ++ y :: r → notAtom y → ∀ H', Same H H' → Q (.int (as.length + 1)) H')))
def sp_law (K : PySem.W.Frag) (κ : Kap) : Sp := fun vs H Q _ => ∃ (a : Addr) (ns : List Int), vs = [.ref a] ∧ SqL K H a (ns.map V.int) ∧ ∀ H', Q (.bl true) H'
/-- xs[:n] + [y] + xs[n:] -/
def e_splice (K : PySem.W.Frag) (i j m : Nat) : TE := tOp (rAddU K) (tOp (rAddU K) (tSl (rSlU K) (tVar i) tNoPart (tPart (tVar j))) (tLst (tCons (tVar m) tNil))) (tSl (rSlU K) (tVar i) (tPart (tVar j)) tNoPart)
/-- _law_kind_text, slots ['_law_atoms', '_law_atom'] -/
def t__law_kind_text (K : PySem.W.Frag) (κ : Kap) (E : XK) : TS :=
  (tSeq (tIfS (tTest (tOp (rEqD K) (tVar 0) (tLst tNil))) (tRet (tC (.str "never"))) tNext)
  (tSeq (tIfS (tAnd (tTest (tOp (rInU K) (tC (.str "false")) (tVar 0))) (tTest (tOp (rInU K) (tC (.str "true")) (tVar 0)))) (tRet (tBM K "str" (rJoinU K) (tC (.str "|")) (tCons (tLc (iList K (tVar 0)) (gName 1) (tTest (tOp rNe (tVar 1) (tC (.str "true")))) (tIf (tTest (tOp rEq (tVar 1) (tC (.str "false")))) (tC (.str "bool")) (tVar 1)) [1]) tNil))) tNext)
  (tRet (tBM K "str" (rJoinU K) (tC (.str "|")) (tCons (tVar 0) tNil)))))
abbrev N__law_kind_text : List Str := ["_law_atoms", "_law_atom"]
def t__law_number_fin (K : PySem.W.Frag) (κ : Kap) (E : XK) : TS :=
  (tSeq (tIfS (tOr (tNot (tTruU K (tOp (rIx K) (tVar 2) (tC (.int 2))))) (tTruU K (tCB (rIsiU K) (tCons (tOp (rIx K) (tVar 2) (tC (.int 1))) (tCons (tC (.ty "bool")) tNil))))) (tRet (tC (.str "other"))) tNext)
  (tRet (tOp (rIx K) (tVar 2) (tC (.int 1)))))
def t_law_items (K : PySem.W.Frag) (κ : Kap) (E : XK) : TS :=
  (tSeq (tAsg (tLc (iList K (tVar 4)) (gName 16) (tTest (tOp rNe (tVar 16) (tC (.str "bool")))) (tVar 16) [16]) (gName 11))
  (tSeq (tAsg (tCallS (sp__law_taken K κ) (WE (fun cls d _ H => E cls d H)) (tCons (tVar 1) (tCons (tOp (rAddU K) (tCB (rLenU K) (tCons (tVar 11) tNil)) (tC (.int 1))) tNil))) (gName 8))
  (tSeq (tAsg (tOp (rIx K) (tLst (tCons (tC (.str "bool")) (tCons (tC (.str "")) (tCons (tC .non) (tCons (tC (.bl true)) (tCons (tC (.int 0)) (tCons (tLst (tCons (tC (.str "int")) tNil)) (tCons (tC (.str "INT")) (tCons (tC (.str "never")) (tCons (tTup (tCons (tC (.str "int")) tNil)) tNil)))))))))) (tCallS (sp__law_taken K κ) (WE (fun cls d _ H => E cls d H)) (tCons (tVar 1) (tCons (tC (.int 9)) tNil)))) (gName 12))
  (tSeq (tIfS (tTest (tOp rNe (tCallS (sp__law_number K κ) (WE (fun cls d _ H => E cls d H)) (tCons (e_splice K 11 8 12) (tCons (tC (.bl false)) tNil))) (tOp (rAddU K) (tVar 8) (tC (.int 1))))) (tRet (tC (.bl false))) tNext)
  (tIfS (tOr (tTest (tOp rNe (tCallS (sp__law_number K κ) (WE (fun cls d _ H => E cls d H)) (tCons (tCB (rTupleU K) (tCons (tOp (rAddU K) (tSl (rSlU K) (tVar 11) tNoPart (tPart (tVar 8))) (tLst (tCons (tVar 12) (tCons (tVar 12) tNil)))) tNil)) (tCons (tC (.bl false)) tNil))) (tOp (rAddU K) (tVar 8) (tC (.int 1))))) (tTest (tOp rNotN (tCallS (sp__law_number K κ) (WE (fun cls d _ H => E cls d H)) (tCons (tVar 11) (tCons (tC (.bl false)) tNil))) (tC .non)))) (tRet (tC (.bl false))) tNext)))))
/-- _law_number, slots ['_law_thing', '_law_is_text', '_law_found', 'e'] -/
def t__law_number (K : PySem.W.Frag) (κ : Kap) (E : XK) : TS :=
  (tSeq (tAsg (tTup (tCons (tC (.str "none")) (tCons (tC .non) (tCons (tC (.bl true)) tNil)))) (gName 2))
  (tSeq (tTryMix K (fun W => (tIfS (tTruU K (tVar 1)) (tDrop (tKMeth (κ "Kind") (sp_Kind_parse K κ) (WE W) (tCons (tVar 0) tNil))) (tDrop (tMakeW (κ "Kind") (sp_Kind___init__ K κ) [] (WE W) (tCons (tVar 0) tNil))))) (fun cls d _ H => E cls d H) [(.ref (κ "InvalidNumber"), none, fun a cls d => (tAsg (tTup (tCons (tC (.str "other")) (tCons (tC .non) (tCons (tC (.bl false)) tNil)))) (gName 2))), (.ref (κ "InvalidKind"), some 3, fun a cls d => (tAsg (tTup (tCons (tC (.str "wrong")) (tCons (tXf a cls d (κ "InvalidKind") "number" (tVar 3)) (tCons (tAndT K (tCB (rIsX K a cls d) (tCons (tVar 3) (tCons (tC (.ref (κ "NarrowingError"))) tNil))) (tCB (rIsX K a cls d) (tCons (tVar 3) (tCons (tC (.ty "ValueError")) tNil)))) tNil)))) (gName 2)))])
  (t__law_number_fin K κ E)))
abbrev N__law_number : List Str := ["_law_thing", "_law_is_text", "_law_found", "e"]
def t_law_again (K : PySem.W.Frag) (κ : Kap) (E : XK) : TS :=
  (tFor (iRng1 (tCons (tC (.int 2)) tNil)) (gName 6) (tSeq (tAsg (tKMeth (κ "Kind") (sp_Kind_parse K κ) (WE (fun cls d _ H => E cls d H)) (tCons (tBM K "str" (rJoinU K) (tC (.str "|")) (tCons (tVar 4) tNil)) tNil)) (gName 7))
  (tSeq (tIfS (tOr (tTest (tOp (rNeD K) (tCB (rListU K) (tCons (tPropW (κ "Kind") (sp_Kind_atoms K κ) (tVar 7)) tNil)) (tVar 5))) (tOr (tTest (tOp rNe (tPropW (κ "Kind") (sp_Kind_text K κ) (tVar 7)) (tCallS (sp__law_kind_text K κ) (WE (fun cls d _ H => E cls d H)) (tCons (tVar 5) tNil)))) (tNot (tTruU K (tCB (rIsiU K) (tCons (tPropW (κ "Kind") (sp_Kind_text K κ) (tVar 7)) (tCons (tC (.ty "str")) tNil))))))) (tRet (tC (.bl false))) tNext)
  (tIfS (tOr (tTest (tOp (rOwnNe (κ "Kind") (sp_Kind___eq__ K κ)) (tKMeth (κ "Kind") (sp_Kind_parse K κ) (WE (fun cls d _ H => E cls d H)) (tCons (tPropW (κ "Kind") (sp_Kind_text K κ) (tVar 7)) tNil)) (tVar 7))) (tOr (tTest (tOp rNe (tPropW (κ "Kind") (sp_Kind_text K κ) (tMakeW (κ "Kind") (sp_Kind___init__ K κ) [] (WE (fun cls d _ H => E cls d H)) (tCons (tVar 5) tNil))) (tPropW (κ "Kind") (sp_Kind_text K κ) (tVar 7)))) (tTest (tOp rNe (tCB (rOwnLen (κ "Kind") (sp_Kind___len__ K κ)) (tCons (tVar 7) tNil)) (tCB (rLenU K) (tCons (tVar 5) tNil)))))) (tRet (tC (.bl false))) tNext))))
def t_law_wrong (K : PySem.W.Frag) (κ : Kap) (E : XK) : TS :=
  (tSeq (tAsg (tCallS (sp__law_taken K κ) (WE (fun cls d _ H => E cls d H)) (tCons (tVar 1) (tCons (tOp (rAddU K) (tCB (rLenU K) (tCons (tVar 4) tNil)) (tC (.int 1))) tNil))) (gName 8))
  (tSeq (tAsg (tOp (rIx K) (tLst (tCons (tC (.str "")) (tCons (tC (.str "never")) (tCons (tC (.str "Int")) (tCons (tC (.str " int")) (tCons (tC (.str "int ")) (tCons (tC (.str "boolean")) (tCons (tC (.str "none")) (tCons (tC (.str "text|")) (tCons (tC (.str "str")) tNil)))))))))) (tCallS (sp__law_taken K κ) (WE (fun cls d _ H => E cls d H)) (tCons (tVar 1) (tCons (tC (.int 9)) tNil)))) (gName 9))
  (tSeq (tAsg (tIf (tTest (tOp rEq (tVar 9) (tC (.str "text|")))) (tOp (rAddU K) (tVar 8) (tC (.int 2))) (tOp (rAddU K) (tVar 8) (tC (.int 1)))) (gName 10))
  (tSeq (tIfS (tTest (tOp rNe (tCallS (sp__law_number K κ) (WE (fun cls d _ H => E cls d H)) (tCons (tBM K "str" (rJoinU K) (tC (.str "|")) (tCons (e_splice K 4 8 9) tNil)) (tCons (tC (.bl true)) tNil))) (tVar 10))) (tRet (tC (.bl false))) tNext)
  (t_law_items K κ E)))))
def t_law_end (K : PySem.W.Frag) (κ : Kap) (E : XK) : TS :=
  (tSeq (tFor (iList K (tLst (tCons (tC .non) (tCons (tC (.int 5)) (tCons (tC (.bl true)) (tCons (tLst (tCons (tC (.str "int")) tNil)) (tCons (tTup (tCons (tC (.str "int")) tNil)) tNil))))))) (gName 12) (tIfS (tTest (tOp rNe (tCallS (sp__law_number K κ) (WE (fun cls d _ H => E cls d H)) (tCons (tVar 12) (tCons (tC (.bl true)) tNil))) (tC (.int 0)))) (tRet (tC (.bl false))) tNext))
  (tSeq (tAsg (tKMeth (κ "Kind") (sp_Kind_parse K κ) (WE (fun cls d _ H => E cls d H)) (tCons (tC (.str "never")) tNil)) (gName 13))
  (tRet (tAndT K (tOp (rEqD K) (tPropW (κ "Kind") (sp_Kind_atoms K κ) (tVar 13)) (tTup tNil)) (tAndT K (tOp rEq (tPropW (κ "Kind") (sp_Kind_text K κ) (tVar 13)) (tC (.str "never"))) (tAndT K (tOp rEq (tCallS (sp__law_number K κ) (WE (fun cls d _ H => E cls d H)) (tCons (tC (.str "")) (tCons (tC (.bl true)) tNil))) (tC (.int 1))) (tNotOwn (κ "Kind") (sp_Kind___bool__ K κ) (tVar 13))))))))
/-- law, slots ['_law_script', '_law_row', '_law_words', '_law_turn', '_law_some', '_law_atoms', '_law_again', '_law_kind', '_law_at', '_law_wrong', '_law_due', '_law_items', '_law_thing', '_law_empty', '_law_k', '_law_atom', '_law_word'] -/
def t_law (K : PySem.W.Frag) (κ : Kap) (E : XK) : TS :=
  (tSeq (tAsg (tLst (tCons (tVar 0) (tCons (tC (.int 0)) (tCons (tC (.int 0)) (tCons (tC (.int 0)) tNil))))) (gName 1))
  (tSeq (tAsg (tLst (tCons (tC (.str "null")) (tCons (tC (.str "false")) (tCons (tC (.str "true")) (tCons (tC (.str "bool")) (tCons (tC (.str "int")) (tCons (tC (.str "text")) tNil))))))) (gName 2))
  (tSeq (tFor (iRng1 (tCons (tC (.int 4)) tNil)) (gName 3) (tSeq (tAsg (tLc (iRng1 (tCons (tOp (rAddU K) (tC (.int 1)) (tCallS (sp__law_taken K κ) (WE (fun cls d _ H => E cls d H)) (tCons (tVar 1) (tCons (tC (.int 7)) tNil)))) tNil)) (gName 14) tYes (tOp (rIx K) (tVar 2) (tCallS (sp__law_taken K κ) (WE noW) (tCons (tVar 1) (tCons (tC (.int 6)) tNil)))) [14]) (gName 4))
  (tSeq (tAsg (tLc (iList K (tLst (tCons (tC (.str "null")) (tCons (tC (.str "false")) (tCons (tC (.str "true")) (tCons (tC (.str "int")) (tCons (tC (.str "text")) tNil))))))) (gName 15) (tTest (tOp (rInU K) (tVar 15) (tVar 4))) (tVar 15) [15]) (gName 5))
  (tSeq (tIfS (tTest (tOp (rInU K) (tC (.str "bool")) (tVar 4))) (tAsg (tLc (iList K (tLst (tCons (tC (.str "null")) (tCons (tC (.str "false")) (tCons (tC (.str "true")) (tCons (tC (.str "int")) (tCons (tC (.str "text")) tNil))))))) (gName 15) (tTest (tOp (rInU K) (tVar 15) (tOp (rAddU K) (tVar 4) (tLst (tCons (tC (.str "false")) (tCons (tC (.str "true")) tNil)))))) (tVar 15) [15]) (gName 5)) tNext)
  (tSeq (t_law_again K κ E)
  (t_law_wrong K κ E))))))
  (t_law_end K κ E))))
abbrev N_law : List Str := ["_law_script", "_law_row", "_law_words", "_law_turn", "_law_some", "_law_atoms", "_law_again", "_law_kind", "_law_at", "_law_wrong", "_law_due", "_law_items", "_law_thing", "_law_empty", "_law_k", "_law_atom", "_law_word"]
theorem l_law {K : PySem.W.Frag} {κ : Kap} {vs : List V} {H : Hp} {Q : VK} {E : XK} (h : sp_law K κ vs H Q E) : vs.length = 1 := by obtain ⟨_, _, rfl, _⟩ := h; rfl
theorem law_pre {K : PySem.W.Frag} {κ : Kap} {H : Hp} {a : Addr} {ns : List Int} (hS : SqL K H a (ns.map V.int)) (hl : ns.length ≤ 63) : sp_law K κ [.ref a] H (fun v _ => v = .bl true) fun _ _ _ => False := ⟨a, ns, rfl, hS, fun _ => rfl⟩
theorem l__law_kind_text {K : PySem.W.Frag} {κ : Kap} {vs : List V} {H : Hp} {Q : VK} {E : XK} (h : sp__law_kind_text K κ vs H Q E) : vs.length = 1 := by obtain ⟨_, _, rfl, _⟩ := h; rfl
theorem l__law_number {K : PySem.W.Frag} {κ : Kap} {vs : List V} {H : Hp} {Q : VK} {E : XK} (h : sp__law_number K κ vs H Q E) : vs.length = 2 := by obtain ⟨_, _, rfl, _⟩ := h; rfl
theorem fin_ok {K : PySem.W.Frag} {κ : Kap} {Q : VK} {E : XK} {t0 t1 : V} {p : Addr} {H1 : Hp} {w y : V} {z2 : Option V} (hp : H1 p = some (.tup [w, y, .bl true])) (ht : ∃ m, TyX K H1 y (.type m) ∧ kitB m "bool" = some false) (q : Q y H1) :
    t__law_number_fin K κ E { nx := fun _ H' => Q .non H', rt := Q } [some t0, some t1, some (.ref p), z2] H1 := by
  obtain ⟨m, ty, kb⟩ := ht
  unfold t__law_number_fin
  walk_at "sx"
  refine x_ixT (SqT.of hp) (v := .bl true) rfl ?_
  walk_at "sx"
  refine x_ixT (SqT.of hp) (v := y) rfl ?_
  walk_at "sx"
  refine x_isi ty kb ?_
  walk_at "sx"
  refine x_ixT (SqT.of hp) (v := y) rfl ?_
  exact q
theorem r__law_number (K : PySem.W.Frag) (κ : Kap) (x1 : PySem.W.exmOne K (.ref (κ "InvalidKind")) (.ref (κ "InvalidNumber")) = some false) (x2 : PySem.W.exmOne K (.ref (κ "InvalidKind")) (.ref (κ "InvalidKind")) = some true)
    (ic : ExcC K (κ "InvalidKind")) (k1 : PySem.W.kitOne K (.ref (κ "InvalidKind")) (.ref (κ "NarrowingError")) = some true) (k2 : PySem.W.kitOne K (.ref (κ "InvalidKind")) (.type "ValueError") = some true)
    (vs : List V) (H : Hp) (Q : VK) (E : XK) (h : sp__law_number K κ vs H Q E) :
    t__law_number K κ E { nx := fun _ H' => Q .non H', rt := Q } (L2.start N__law_number vs) H := by
  have raised : ∀ (v0 v1 : V) (p : Int) (H1 : Hp) (z : Addr) (D : Ends), (∀ (H2 : Hp) (u : Addr), Same H1 H2 → H2 u = some (.tup [.str "wrong", .int p, .bl true]) → D.nx [some v0, some v1, some (.ref u), none] H2) → ∀ d, H1 d = none →
      wMix K (fun cls d _ H => E cls d H) D [(.ref (κ "InvalidNumber"), none, fun a cls d => (tAsg (tTup (tCons (tC (.str "other")) (tCons (tC .non) (tCons (tC (.bl false)) tNil)))) (gName 2))), (.ref (κ "InvalidKind"), some 3, fun a cls d => (tAsg (tTup (tCons (tC (.str "wrong")) (tCons (tXf a cls d (κ "InvalidKind") "number" (tVar 3)) (tCons (tAndT K (tCB (rIsX K a cls d) (tCons (tVar 3) (tCons (tC (.ref (κ "NarrowingError"))) tNil))) (tCB (rIsX K a cls d) (tCons (tVar 3) (tCons (tC (.ty "ValueError")) tNil)))) tNil)))) (gName 2)))]
        (.ref (κ "InvalidKind")) (some d) [some v0, some v1, some (.ref z), none] (upd H1 d (.xd [("number", .int p)])) := by
    intro v0 v1 p H1 z D hD d hd
    refine w_no x1 (w_named x2 fun a ha => ?_)
    walk_at "sx"
    refine x_xf rfl upd_same (v := .int p) (by simp [List.lookup]) ?_
    walk_at "sx"
    refine x_isX ic upd_same (.own _) k1 ?_
    refine x_trvB ?_
    walk_at "sx"
    refine x_isX ic upd_same (.ty _) k2 ?_
    walk_at "sx"
    refine ⟨szL rfl, fun u hu => ?_⟩
    exact hD _ u (Same.trans (same_new hd) (same_new hu)) upd_same
  obtain ⟨y, b, rfl, h⟩ := h
  show t__law_number K κ E _ [some y, some (.bl b), none, none] H
  unfold t__law_number
  walk_at "sx"
  refine ⟨szL rfl, fun z hz => ?_⟩
  walk_at "sx"
  have s0 : Same H (upd H z (.tup [.str "none", .non, .bl true])) := same_new hz
  have hz1 : (upd H z (.tup [.str "none", .non, .bl true])) z = some (.tup [.str "none", .non, .bl true]) := upd_same
  have int : ∀ (i : Int) (H2 : Hp), ∃ m, TyX K H2 (.int i) (.type m) ∧ kitB m "bool" = some false := fun i H2 => ⟨"int", .base (.int _), by decide +kernel⟩
  have non : ∀ H2 : Hp, ∃ m, TyX K H2 .non (.type m) ∧ kitB m "bool" = some false := fun H2 => ⟨"NoneType", .base .non, by decide +kernel⟩
  rcases h with ⟨rfl, h⟩ | ⟨rfl, p, xs, rfl, hp, hl, hi, good, bad⟩
  · walk_at "sx"
    rcases h with ⟨w, rfl, hw, q⟩ | ⟨⟨m, ty, kb⟩, q⟩
    · refine ⟨_, rfl, .inl ⟨w, rfl, hw, fun k hk c H2 s _ => ?_, fun n hn H2 d s hd => ?_⟩⟩
      · have := q H2 (s0.trans s)
        rw [hk] at this
        exact fin_ok (κ := κ) (E := E) (s _ _ hz1) (non _) this
      · refine raised _ _ _ _ _ _ (fun H3 u s3 hu => ?_) d hd
        have := q H3 ((s0.trans s).trans s3)
        rw [hn] at this
        exact fin_ok (κ := κ) (E := E) hu (int _ _) this
    · refine ⟨_, rfl, .inr ⟨⟨m, tyX_same ty s0, kb⟩, fun H2 d s hd => ?_⟩⟩
      refine raised _ _ 0 _ _ _ (fun H3 u s3 hu => ?_) d hd
      exact fin_ok (κ := κ) (E := E) hu (int _ _) (q H3 ((s0.trans s).trans s3))
  · walk_at "sx"
    intro x dx hx hdx hne
    have s1 : Same (upd H z (.tup [.str "none", .non, .bl true])) (upd (upd (upd H z (.tup [.str "none", .non, .bl true])) dx (.own x)) x (.ins (κ "Kind") dx [])) := (same_new hdx).trans (same_new (by rw [upd_ne (Ne.symm hne)]; exact hx))
    have s01 := s0.trans s1
    refine ⟨x, dx, p, xs, rfl, upd_same, Nv.Same.seqA s01 hp, by omega, fun y hy => (hi y hy).same s01, fun as e H' t fr hx' ht => ⟨rfl, ?_⟩, fun as y r e n H' d s hd => ?_⟩
    · have s2 : Same (upd H z (.tup [.str "none", .non, .bl true])) H' := fun b o hb => fr b o (fun q => by rw [q, hx] at hb; cases hb) (s1 _ _ hb)
      exact fin_ok (κ := κ) (E := E) (s2 _ _ hz1) (non _) (good as e H' (s0.trans s2))
    · refine raised _ _ _ _ _ _ (fun H3 u s3 hu => ?_) d hd
      exact fin_ok (κ := κ) (E := E) hu (int _ _) (bad as y r e n H3 ((s01.trans s).trans s3))
/-- the words of a kind, by its atoms -/
def kwords (k : Kd) : List Str := if k .fals = true ∧ k .tru = true then ((kindL k).filter fun a => !decide (a = .tru)).map (fun a => if a = .fals then ("bool" : Str) else a.s) else (kindL k).map Atom.s
theorem Kd.cases {p : Kd → Prop} (h : ∀ a b c d e : Bool, p (fun x => match x with | .null => a | .fals => b | .tru => c | .int => d | .text => e)) (k : Kd) : p k := by
  have := h (k .null) (k .fals) (k .tru) (k .int) (k .text)
  have e : (fun x => match x with | .null => k .null | .fals => k .fals | .tru => k .tru | .int => k .int | .text => k .text : Kd) = k := by
    funext x; cases x <;> rfl
  rw [e] at this
  exact this
theorem kwords_eq (k : Kd) : kindWords (kindL k) = kwords k := by
  refine Kd.cases (p := fun k => kindWords (kindL k) = kwords k) (fun a b c d e => ?_) k
  cases a <;> cases b <;> cases c <;> cases d <;> cases e <;> decide +kernel
theorem IsAL.sq {K : PySem.W.Frag} {H : Hp} {p : Addr} {as : List Atom} (h : IsAL H p as) : SqL K H p (as.map atV) := SqL.of h
theorem r__law_kind_text (K : PySem.W.Frag) (κ : Kap) (vs : List V) (H : Hp) (Q : VK) (E : XK) (h : sp__law_kind_text K κ vs H Q E) :
    t__law_kind_text K κ E { nx := fun _ H' => Q .non H', rt := Q } (L2.start N__law_kind_text vs) H := by
  obtain ⟨p, k, rfl, hp, q⟩ := h
  show t__law_kind_text K κ E _ [some (.ref p), none] H
  unfold t__law_kind_text
  have hl5 := kindL_len k
  have kw5 : ∀ w ∈ kwords k, w.length ≤ 5 := by rw [← kwords_eq]; exact (kindWords_ok _).2
  have kwl : (kwords k).length ≤ 5 := by rw [← kwords_eq]; exact Nat.le_trans (kindWords_ok _).1 hl5
  have jz : ((kwords k).map (·.length)).sum + (kwords k).length * (("|" : Str)).length ≤ 16777216 := by
    have := sum_len_le _ 5 kw5
    rw [show (("|" : Str)).length = 1 from rfl]
    omega
  walk_at "sx"
  refine ⟨szL rfl, fun e he => ?_⟩
  have s1 : Same H (upd H e (.lst [])) := same_new he
  refine x_eqLA (as := kindL k) (bs := []) (hp.same s1).sq (SqL.of upd_same) ?_
  generalize upd H e (.lst []) = H1 at s1 ⊢
  have hp1 := hp.same s1
  walk_at "sx"
  refine x_dec (fun c => ?_) (fun c => ?_)
  · walk_at "sx"
    have := q H1 s1
    unfold kindText at this
    rw [if_pos c] at this
    exact this
  · have tx : kindText k = Txt.join "|" (kwords k) := by unfold kindText; rw [if_neg c, kwords_eq]
    rw [tx] at q
    walk_at "sx"
    refine x_inL hp1.sq rfl (flat_atoms _) ?_
    have inA : ∀ a : Atom, inV (atV a) ((kindL k).map atV) = k a := fun a => by
      rw [inV_atoms, Bool.eq_iff_iff, decide_eq_true_eq]; exact mem_kindL
    rw [show inV (V.str "false") ((kindL k).map atV) = k .fals from inA .fals]
    cases hf : k .fals with
    | false =>
      walk_at "sx"
      have ek : kwords k = (kindL k).map Atom.s := by unfold kwords; rw [if_neg (by rw [hf]; simp)]
      refine x_join (ys := kwords k) (SqL.of (by rw [hp1, ek, List.map_map]; rfl)) jz (q H1 s1)
    | true =>
      walk_at "sx"
      refine x_inL hp1.sq rfl (flat_atoms _) ?_
      rw [show inV (V.str "true") ((kindL k).map atV) = k .tru from inA .tru]
      cases ht : k .tru with
      | false =>
        walk_at "sx"
        have ek : kwords k = (kindL k).map Atom.s := by unfold kwords; rw [if_neg (by rw [ht]; simp)]
        refine x_join (ys := kwords k) (SqL.of (by rw [hp1, ek, List.map_map]; rfl)) jz (q H1 s1)
      | true =>
        walk_at "sx"
        refine x_iListk hp1.sq ?_
        intro D hD
        refine lc_pure (K := K) walk_list (fun v => if (!decide (v = atV .tru)) = true then some (if v = atV .fals then V.str "bool" else v) else none) hD (by rw [List.length_map, sizeLine_eq]; omega) (fun H' s => SqL.of (s _ _ hp1)) (fun i v H' hv sm R R0 h1 h0 => ?_) fun H2 s2 hD' => ?_
        · obtain ⟨a, _, rfl⟩ := atoms_get hv
          walk_at "sx"
          refine ⟨rfl, ?_⟩
          walk_at "sx"
          refine x_ne rfl ?_
          walk_at "sx"
          refine x_decN (fun (e : ¬ atV a = atV .tru) => ?_) (fun (e : atV a = atV .tru) => ?_)
          · walk_at "sx"
            refine x_eq rfl ?_
            walk_at "sx"
            refine x_dec (fun (e2 : atV a = atV .fals) => ?_) (fun (e2 : ¬ atV a = atV .fals) => ?_)
            · walk_at "sx"
              exact h1 _ (by rw [decide_eq_false e, if_pos (show (!false) = true from rfl), if_pos e2]) _ (Same.refl _)
            · walk_at "sx"
              exact h1 _ (by rw [decide_eq_false e, if_pos (show (!false) = true from rfl), if_neg e2]) _ (Same.refl _)
          · exact h0 (by rw [decide_eq_true e]; rfl) _ (Same.refl _)
        · have ek : ((kindL k).map atV).filterMap (fun v => if (!decide (v = atV .tru)) = true then some (if v = atV .fals then V.str "bool" else v) else none) = (kwords k).map V.str := by
            unfold kwords
            rw [if_pos ⟨hf, ht⟩]
            have gen : ∀ as : List Atom, (as.map atV).filterMap (fun v => if (!decide (v = atV .tru)) = true then some (if v = atV .fals then V.str "bool" else v) else none) = ((as.filter fun a => !decide (a = .tru)).map (fun a => if a = .fals then ("bool" : Str) else a.s)).map V.str := by
              intro as
              induction as with
              | nil => rfl
              | cons a r ih =>
                rw [List.map_cons, List.filterMap_cons, List.filter_cons]
                cases a <;> first
                  | (rw [ih]; rfl)
                  | (rw [show (if (!decide (atV Atom.tru = atV .tru)) = true then some (if atV Atom.tru = atV .fals then V.str "bool" else atV Atom.tru) else none) = none from by rw [decide_eq_true rfl]; rfl]; rw [ih]; rfl)
            exact gen _
          rw [ek] at hD'
          walk_at "sx"
          exact x_join (ys := kwords k) (SqL.of hD') jz (q H2 (s1.trans s2))
theorem use_parse {K : PySem.W.Frag} {κ : Kap} {H : Hp} {Q : VK} {E : XK} {z : Str} {k : Kd} (e : readKind z = .ok k) (hz : z.length ≤ 100000) (h : ∀ c H', Same H H' → IsKind K κ H' c k → Q (.ref c) H') : sp_Kind_parse K κ [.ref (κ "Kind"), .str z] H Q E :=
  ⟨_, rfl, .inl ⟨z, rfl, hz, fun k' hk c H' s i => by rw [e] at hk; cases hk; exact h c H' s i, fun n hn => by rw [e] at hn; cases hn⟩⟩
theorem kwords_six (k : Kd) : ∀ w ∈ kwords k, w ∈ sixW := by
  intro w hw
  unfold kwords at hw
  split at hw
  · obtain ⟨a, _, rfl⟩ := List.mem_map.mp hw
    cases a <;> decide
  · obtain ⟨a, _, rfl⟩ := List.mem_map.mp hw
    cases a <;> decide
theorem flat_kwords (k : Kd) : kindL (fun a => decide (a ∈ flatA (kwords k))) = kindL k := by
  refine Kd.cases (p := fun k => kindL (fun a => decide (a ∈ flatA (kwords k))) = kindL k) (fun a b c d e => ?_) k
  cases a <;> cases b <;> cases c <;> cases d <;> cases e <;> decide +kernel
theorem kwords_nil (k : Kd) (h : kindL k ≠ []) : kwords k ≠ [] := by
  intro e
  have := flat_kwords k
  rw [e] at this
  exact h this.symm
theorem kindText_len (k : Kd) : (kindText k).length ≤ 100000 := by
  unfold kindText
  split
  · decide
  · rw [kwords_eq]
    have h5 : ∀ w ∈ kwords k, w.length ≤ 5 := by rw [← kwords_eq]; exact (kindWords_ok _).2
    have hl : (kwords k).length ≤ 5 := by rw [← kwords_eq]; exact Nat.le_trans (kindWords_ok _).1 (kindL_len k)
    have := join_len (kwords k) 5 h5
    omega
theorem readKind_text (k : Kd) : ∃ k', readKind (kindText k) = .ok k' ∧ kindL k' = kindL k := by
  unfold kindText
  by_cases h : kindL k = []
  · rw [if_pos h]
    exact ⟨fun _ => false, rfl, h.symm⟩
  · rw [if_neg h, kwords_eq]
    exact ⟨_, readKind_words (kwords_nil k h) (kwords_six k), flat_kwords k⟩
/-- a Python list of texts -/
def IsSL (H : Hp) (p : Addr) (ws : List Str) : Prop := H p = some (.lst (ws.map V.str))
theorem IsSL.same {H H' : Hp} {p : Addr} {ws : List Str} (h : IsSL H p ws) (s : Same H H') : IsSL H' p ws := s _ _ h
theorem six_len {w : Str} (h : w ∈ sixW) : w.length ≤ 5 := by
  simp only [sixW, List.mem_cons, List.not_mem_nil, or_false] at h
  rcases h with rfl | rfl | rfl | rfl | rfl | rfl <;> decide
section
variable {K : PySem.W.Frag} {κ : Kap} {E : XK} {D : Ends} {H : Hp} {r a p4 p5 : Addr} {ws : List Str} {z0 z1 z2 z3 z6 z7 z8 z9 z10 z11 z12 z13 z14 z15 z16 : Option V}
theorem again4_ok (hs : IsSL H p4 ws) (h6 : ∀ w ∈ ws, w ∈ sixW) (h0 : ws ≠ []) (hl : ws.length ≤ 8) (ha : IsAL H p5 (kindL fun a => decide (a ∈ flatA ws)))
    (hn : ∀ (H' : Hp) (z6 z7 : Option V), Same H H' → D.nx [z0, z1, z2, z3, some (.ref p4), some (.ref p5), z6, z7, z8, z9, z10, z11, z12, z13, z14, z15, z16] H') :
    t_law_again K κ E D [z0, z1, z2, z3, some (.ref p4), some (.ref p5), z6, z7, z8, z9, z10, z11, z12, z13, z14, z15, z16] H := by
  have w5 : ∀ w ∈ ws, w.length ≤ 5 := fun w hw => six_len (h6 w hw)
  have jz : (ws.map (·.length)).sum + ws.length * (("|" : Str)).length ≤ 16777216 := by
    have := sum_len_le _ 5 w5
    rw [show (("|" : Str)).length = 1 from rfl]
    omega
  have jl : (Txt.join "|" ws).length ≤ 100000 := by have := join_len ws 5 w5; omega
  unfold t_law_again
  walk_at "sx"
  refine for_range (fun i σ' H' => Same H H' ∧ ∃ z6 z7 : Option V, σ' = [z0, z1, z2, z3, some (.ref p4), some (.ref p5), z6, z7, z8, z9, z10, z11, z12, z13, z14, z15, z16]) ⟨Same.refl _, _, _, rfl⟩ ?_ ?_
  · rintro j σ' J0 hj ⟨t0, y6, y7, rfl⟩
    walk_at "sx"
    refine x_join (SqL.of (hs.same t0)) jz ?_
    walk_at "sx"
    refine use_parse (readKind_words h0 h6) jl fun c J1 t1 kc => ?_
    walk_at "sx"
    have u1 := t0.trans t1
    generalize hk : (fun a => decide (a ∈ flatA ws) : Kd) = k at ha kc
    refine use_ats kc fun t ht => ?_
    walk_at "sx"
    refine x_listT ht fun l hl => ?_
    walk_at "sx"
    have u2 : Same H (upd J1 l (.lst (kindV k))) := u1.trans (same_new hl)
    have kc2 := kc.same (same_new (o := .lst (kindV k)) hl)
    refine x_neLA (as := kindL k) (bs := kindL k) (SqL.of upd_same) (SqL.of (ha.same u2)) ?_
    rw [decide_eq_true rfl]
    generalize (upd J1 l (.lst (kindV k))) = J2 at u2 kc2 ⊢
    walk_at "sx"
    refine use_ktext kc2 fun J3 t3 => ?_
    walk_at "sx"
    have u3 := u2.trans t3
    refine ⟨p5, k, rfl, ha.same u3, fun J4 t4 => ?_⟩
    walk_at "sx"
    rw [decide_eq_true rfl]
    walk_at "sx"
    have v4 := t3.trans t4
    refine use_ktext (kc2.same v4) fun J5 t5 => ?_
    walk_at "sx"
    refine x_isi (b := true) (.base (.str _)) (by decide +kernel) ?_
    walk_at "sx"
    have v5 := v4.trans t5
    refine use_ktext (kc2.same v5) fun J6 t6 => ?_
    walk_at "sx"
    have v6 := v5.trans t6
    obtain ⟨k', e1, e2⟩ := readKind_text k
    refine use_parse e1 (kindText_len k) fun c2 J7 t7 kc7 => ?_
    walk_at "sx"
    have v7 := v6.trans t7
    refine use_kne kc7 (kc2.same v7) ?_
    rw [decide_eq_true e2]
    walk_at "sx"
    refine mk_kind (as := kindL k) (k := k) (.inl (SqL.of (ha.same (u2.trans v7)))) (by have := kindL_len k; omega) (fun c => by rw [Bool.eq_iff_iff, decide_eq_true_eq]; exact mem_kindL.symm) fun c3 J8 t8 kc8 => ?_
    refine use_ktext kc8 fun J9 t9 => ?_
    walk_at "sx"
    have v9 := (v7.trans t8).trans t9
    refine use_ktext (kc2.same v9) fun J10 t10 => ?_
    walk_at "sx"
    rw [decide_eq_true rfl]
    walk_at "sx"
    have v10 := v9.trans t10
    refine use_klen (kc2.same v10) ?_
    walk_at "sx"
    refine x_lenL (SqL.of (ha.same (u2.trans v10))) ?_
    walk_at "sx"
    rw [List.length_map, decide_eq_true rfl]
    walk_at "sx"
    exact ⟨u2.trans v10, _, _, rfl⟩
  · rintro σ' J0 ⟨t0, y6, y7, rfl⟩
    exact hn J0 _ _ t0
theorem cutV_pre (xs : List V) (n : Nat) (h : n ≤ xs.length) : cutV xs none (some (n : Int)) = xs.take n := by
  show (xs.drop 0).take (HT.sIx xs.length xs.length (some (n : Int)) - 0) = xs.take n
  rw [List.drop_zero, HT.sIx_nat, Nat.sub_zero, Nat.min_eq_left h]
theorem cutV_suf (xs : List V) (n : Nat) (h : n ≤ xs.length) : cutV xs (some (n : Int)) none = xs.drop n := by
  show (xs.drop (HT.sIx xs.length 0 (some (n : Int)))).take (xs.length - HT.sIx xs.length 0 (some (n : Int))) = xs.drop n
  rw [HT.sIx_nat, Nat.min_eq_left h, List.take_of_length_le (by rw [List.length_drop]; exact Nat.le_refl _)]
/-- xs[:n] + [y] + xs[n:] -/
theorem splice_ok {σ : L2.St} {i j m n : Nat} {p : Addr} {y : V} {xs : List V} {Q : VK} (hi : σ[i]? = some (some (.ref p))) (hj : σ[j]? = some (some (.int (n : Nat)))) (hm : σ[m]? = some (some y)) (hp : SqL K H p xs) (hn : n ≤ xs.length) (hz : xs.length ≤ 1000)
    (h : ∀ H' q, Same H H' → H' q = some (.lst (xs.take n ++ y :: xs.drop n)) → Q (.ref q) H') :
    e_splice K i j m σ H Q := by
  unfold e_splice
  walk_at "sx"
  refine x_var hi ?_
  walk_at "sx"
  refine x_var hj ?_
  walk_at "sx"
  refine x_slL hp fun q1 h1 => ?_
  rw [cutV_pre _ _ hn]
  walk_at "sx"
  refine x_var hm ?_
  walk_at "sx"
  refine ⟨szL rfl, fun q2 h2 => ?_⟩
  have s2 : Same H (upd (upd H q1 (.lst (xs.take n))) q2 (.lst [y])) := (same_new h1).trans (same_new h2)
  refine x_catL (upd_new upd_same h2) upd_same (by rw [List.length_take, sizeLine_eq]; simp only [List.length_cons, List.length_nil]; omega) fun q3 h3 => ?_
  walk_at "sx"
  have s3 := s2.trans (same_new (o := .lst (xs.take n ++ [y])) h3)
  refine x_var hi ?_
  walk_at "sx"
  refine x_var hj ?_
  walk_at "sx"
  refine x_slL (s3.seq hp) fun q4 h4 => ?_
  rw [cutV_suf _ _ hn]
  refine x_catL (upd_new upd_same h4) upd_same (by rw [List.length_append, List.length_take, List.length_drop, sizeLine_eq]; simp only [List.length_cons, List.length_nil]; omega) fun q5 h5 => ?_
  refine h _ q5 ((s3.trans (same_new h4)).trans (same_new h5)) ?_
  rw [upd_same, List.append_assoc]
  rfl
theorem wrong4_ok (hr : RowOk K H r a) (n4 : p4 ≠ r) (hs : IsSL H p4 ws) (h6 : ∀ w ∈ ws, w ∈ sixW) (h0 : ws ≠ []) (hl : ws.length ≤ 8)
    (hn : ∀ (H' : Hp) (z8 z9 z10 : Option V), RowOk K H' r a → IsSL H' p4 ws → SameR r H H' → t_law_items K κ E D [z0, some (.ref r), z2, z3, some (.ref p4), some (.ref p5), z6, z7, z8, z9, z10, z11, z12, z13, z14, z15, z16] H') :
    t_law_wrong K κ E D [z0, some (.ref r), z2, z3, some (.ref p4), some (.ref p5), z6, z7, z8, z9, z10, z11, z12, z13, z14, z15, z16] H := by
  have w5 : ∀ w ∈ ws, w.length ≤ 5 := fun w hw => six_len (h6 w hw)
  unfold t_law_wrong
  walk_at "sx"
  refine x_lenL (SqL.of hs) ?_
  walk_at "sx"
  rw [List.length_map]
  refine use_taken hr (by omega) (by omega) fun v H1 v0 v1 hr1 fr1 => ?_
  have hs1 : IsSL H1 p4 ws := (fr1 p4 n4).trans hs
  obtain ⟨n, rfl⟩ : ∃ n : Nat, v = (n : Int) := ⟨v.toNat, by omega⟩
  walk_at "sx"
  refine ⟨szL rfl, fun p hp => ?_⟩
  walk_at "sx"
  refine use_taken (hr1.new hp) (by decide) (by decide) fun u H2 u0 u1 hr2 fr2 => ?_
  have hpr := hr1.ne hp
  obtain ⟨y, hy, hym⟩ := at_mem (xs := nineW.map V.str) u0 u1
  obtain ⟨w, hw, rfl⟩ := List.mem_map.mp hym
  refine x_ixL (xs := nineW.map V.str) (SqL.of (by rw [fr2 p hpr, upd_same]; rfl)) hy ?_
  have hs2 : IsSL H2 p4 ws := (fr2 p4 n4).trans (same_new hp _ _ hs1)
  walk_at "sx"
  refine x_ifE (v := .int (if w = "text|" then (n : Int) + 2 else (n : Int) + 1)) (fun c Q' q' => ?_) (fun c Q' q' => ?_) ?_
  · rw [if_pos c] at q'
    walk_at "sx"
    exact q'
  · rw [if_neg c] at q'
    walk_at "sx"
    exact q'
  walk_at "sx"
  refine splice_ok (n := n) (by rfl) (by rfl) (by rfl) (SqL.of hs2) (by rw [List.length_map]; omega) (by rw [List.length_map]; omega) fun H3 q s3 hq => ?_
  have hq' : H3 q = some (.lst ((ws.take n ++ w :: ws.drop n).map V.str)) := by rw [hq, List.map_append, List.map_cons, List.map_take, List.map_drop]
  have w9 : ∀ v ∈ ws.take n ++ w :: ws.drop n, v.length ≤ 7 := fun v hv => by
    rcases List.mem_append.mp hv with h | h
    · exact Nat.le_trans (w5 v (List.mem_of_mem_take h)) (by decide)
    · rcases List.mem_cons.mp h with rfl | h
      · simp only [nineW, List.mem_cons, List.not_mem_nil, or_false] at hw
        rcases hw with rfl | rfl | rfl | rfl | rfl | rfl | rfl | rfl | rfl <;> decide
      · exact Nat.le_trans (w5 v (List.mem_of_mem_drop h)) (by decide)
  have l9 : (ws.take n ++ w :: ws.drop n).length ≤ 9 := by rw [List.length_append, List.length_cons, List.length_take, List.length_drop]; omega
  walk_at "sx"
  refine x_join (SqL.of hq') (by have := sum_len_le _ 7 w9; rw [show (("|" : Str)).length = 1 from rfl]; omega) ?_
  walk_at "sx"
  refine ⟨_, true, rfl, .inl ⟨rfl, .inl ⟨_, rfl, by have := join_len _ 7 w9; omega, fun H4 s4 => ?_⟩⟩⟩
  rw [wrong_number (fun v hv => h6 v (List.mem_of_mem_take hv)) (fun v hv => h6 v (List.mem_of_mem_drop hv)) hw (by rw [List.take_append_drop]; exact h0)]
  have en : numV (Except.error (if w = "text|" then (ws.take n).length + 2 else (ws.take n).length + 1)) = .int (if w = "text|" then (n : Int) + 2 else (n : Int) + 1) := by
    show V.int _ = _
    rw [List.length_take, Nat.min_eq_left (by omega)]
    split <;> rfl
  rw [en]
  walk_at "sx"
  rw [decide_eq_true rfl]
  walk_at "sx"
  exact hn H4 _ _ _ ((hr2.same s3).same s4) ((hs2.same s3).same s4) (((((SameR.eq fr1).trans (.of (same_new hp))).trans (.eq fr2)).trans (.of s3)).trans (.of s4))
theorem six_as : ∀ {ws : List Str}, (∀ w ∈ ws, w ∈ sixW) → ∃ as : List Atom, (ws.filter fun w : Str => !decide (w = ("bool" : Str))).map V.str = as.map atV ∧ as.length ≤ ws.length
  | [], _ => ⟨[], rfl, Nat.le_refl _⟩
  | w :: r, h => by
    obtain ⟨as, e, l⟩ := six_as fun v hv => h v (List.mem_cons_of_mem _ hv)
    have hw := h w List.mem_cons_self
    simp only [sixW, List.mem_cons, List.not_mem_nil, or_false] at hw
    have add : ∀ a : Atom, w = a.s → ∃ as : List Atom, ((w :: r).filter fun w : Str => !decide (w = ("bool" : Str))).map V.str = as.map atV ∧ as.length ≤ (w :: r).length := fun a ea => by
      refine ⟨a :: as, ?_, by rw [List.length_cons, List.length_cons]; omega⟩
      rw [List.filter_cons, if_pos (by rw [ea]; cases a <;> decide), List.map_cons, e, ea]
      rfl
    rcases hw with rfl | rfl | rfl | rfl | rfl | rfl
    · exact add .null rfl
    · exact add .fals rfl
    · exact add .tru rfl
    · exact ⟨as, by rw [List.filter_cons, if_neg (by decide)]; exact e, by rw [List.length_cons]; omega⟩
    · exact add .int rfl
    · exact add .text rfl
theorem first_unique : ∀ {as bs : List Atom} {y z : V} {r q : List V}, as.map atV ++ y :: r = bs.map atV ++ z :: q → notAtom y → notAtom z → as.length = bs.length
  | [], [], _, _, _, _, _, _, _ => rfl
  | [], b :: bs, y, _, _, _, h, hy, _ => by
    rw [List.map_nil, List.nil_append, List.map_cons, List.cons_append, List.cons.injEq] at h
    exact absurd h.1 (hy b)
  | a :: as, [], _, z, _, _, h, _, hz => by
    rw [List.map_nil, List.nil_append, List.map_cons, List.cons_append, List.cons.injEq] at h
    exact absurd h.1.symm (hz a)
  | a :: as, b :: bs, _, _, _, _, h, hy, hz => by
    rw [List.map_cons, List.cons_append, List.map_cons, List.cons_append, List.cons.injEq] at h
    rw [List.length_cons, List.length_cons, first_unique h.2 hy hz]
/-- the wish of law_number at a list or tuple with a first bad item -/
theorem num_bad {q : Addr} {as : List Atom} {y : V} {r : List V} {Q : VK} (hq : SqA K H q (as.map atV ++ y :: r)) (hl : (as.map atV ++ y :: r).length ≤ 1000) (hi : ∀ v ∈ as.map atV ++ y :: r, ItemOk K H v) (hy : notAtom y) (h : ∀ H', Same H H' → Q (.int (as.length + 1)) H') : sp__law_number K κ [.ref q, .bl false] H Q E :=
  ⟨_, false, rfl, .inr ⟨rfl, q, _, rfl, hq, hl, hi, fun bs e => (by
    exfalso
    have : y ∈ bs.map atV := by rw [← e]; simp
    obtain ⟨b, _, eb⟩ := List.mem_map.mp this
    exact hy b eb.symm), fun bs z q' e hz H' s => by rw [← first_unique e hy hz]; exact h H' s⟩⟩
theorem num_good {q : Addr} {as : List Atom} {Q : VK} (hq : SqA K H q (as.map atV)) (hl : as.length ≤ 1000) (h : ∀ H', Same H H' → Q .non H') : sp__law_number K κ [.ref q, .bl false] H Q E :=
  ⟨_, false, rfl, .inr ⟨rfl, q, _, rfl, hq, by rw [List.length_map]; exact hl, fun v hv => (by obtain ⟨b, _, rfl⟩ := List.mem_map.mp hv; exact .inl ⟨_, rfl⟩), fun _ _ H' s => h H' s, fun bs z q' e hz => (by
    exfalso
    have : z ∈ as.map atV := by rw [e]; simp
    obtain ⟨b, _, eb⟩ := List.mem_map.mp this
    exact hz b eb.symm)⟩⟩
theorem itemOk_atom {a : Atom} : ItemOk K H (atV a) := .inl ⟨_, rfl⟩
theorem items4_ok (hr : RowOk K H r a) (hs : IsSL H p4 ws) (h6 : ∀ w ∈ ws, w ∈ sixW) (hl : ws.length ≤ 8)
    (hn : ∀ (H' : Hp) (z8 z11 z12 : Option V), RowOk K H' r a → SameR r H H' → D.nx [z0, some (.ref r), z2, z3, some (.ref p4), some (.ref p5), z6, z7, z8, z9, z10, z11, z12, z13, z14, z15, z16] H') :
    t_law_items K κ E D [z0, some (.ref r), z2, z3, some (.ref p4), some (.ref p5), z6, z7, z8, z9, z10, z11, z12, z13, z14, z15, z16] H := by
  unfold t_law_items
  walk_at "sx"
  refine x_iListk (SqL.of hs) ?_
  intro F hF
  have hFr := hr.ne hF
  refine lc_pure (K := K) walk_list (fun v => if (!decide (v = .str "bool")) = true then some v else none) hF (by rw [List.length_map, sizeLine_eq]; omega) (fun H' s => SqL.of (s _ _ hs)) (fun i v H' hv sm R R0 h1 h0 => ?_) fun H1 s1 hF1 => ?_
  · obtain ⟨w, hw, rfl⟩ := List.mem_map.mp (List.mem_of_getElem? hv)
    walk_at "sx"
    refine ⟨rfl, ?_⟩
    walk_at "sx"
    refine x_decN (fun e => ?_) (fun e => ?_)
    · walk_at "sx"
      exact h1 _ (by rw [decide_eq_false (fun q => e (V.str.inj q))]; rfl) _ (Same.refl _)
    · exact h0 (by rw [decide_eq_true (by rw [e])]; rfl) _ (Same.refl _)
  · have ef : ∀ ws : List Str, (ws.map V.str).filterMap (fun v => if (!decide (v = .str "bool")) = true then some v else none) = (ws.filter fun w : Str => !decide (w = ("bool" : Str))).map V.str := by
      intro ws
      induction ws with
      | nil => rfl
      | cons w r ih =>
        rw [List.map_cons, List.filterMap_cons, List.filter_cons]
        by_cases e : w = ("bool" : Str)
        · subst e
          rw [decide_eq_true rfl, decide_eq_true rfl, ih]
          rfl
        · rw [decide_eq_false e, decide_eq_false (fun q => e (V.str.inj q)), ih]
          rfl
    obtain ⟨as, eas, las⟩ := six_as h6
    rw [ef, eas] at hF1
    have hr1 := hr.same s1
    walk_at "sx"
    refine x_lenL (SqL.of hF1) ?_
    walk_at "sx"
    rw [List.length_map]
    refine use_taken hr1 (by omega) (by omega) fun v H2 v0 v1 hr2 fr2 => ?_
    have hF2 : H2 F = some (.lst (as.map atV)) := (fr2 F hFr).trans hF1
    obtain ⟨n, rfl⟩ : ∃ n : Nat, v = (n : Int) := ⟨v.toNat, by omega⟩
    walk_at "sx"
    refine ⟨szL rfl, fun l hl' => ?_⟩
    walk_at "sx"
    refine ⟨szL rfl, fun t ht => ?_⟩
    walk_at "sx"
    refine ⟨szL rfl, fun m hm => ?_⟩
    walk_at "sx"
    have hr3 := ((hr2.new (o := .lst [.str "int"]) hl').new (o := .tup [.str "int"]) ht).new (o := .lst [.str "bool", .str "", .non, .bl true, .int 0, .ref l, .str "INT", .str "never", .ref t]) hm
    have s23 : Same H2 (upd (upd (upd H2 l (.lst [.str "int"])) t (.tup [.str "int"])) m (.lst [.str "bool", .str "", .non, .bl true, .int 0, .ref l, .str "INT", .str "never", .ref t])) := ((same_new hl').trans (same_new ht)).trans (same_new hm)
    have hm3 : (upd (upd (upd H2 l (.lst [.str "int"])) t (.tup [.str "int"])) m (.lst [.str "bool", .str "", .non, .bl true, .int 0, .ref l, .str "INT", .str "never", .ref t])) m = some (.lst [.str "bool", .str "", .non, .bl true, .int 0, .ref l, .str "INT", .str "never", .ref t]) := upd_same
    have hl3 : (upd (upd (upd H2 l (.lst [.str "int"])) t (.tup [.str "int"])) m (.lst [.str "bool", .str "", .non, .bl true, .int 0, .ref l, .str "INT", .str "never", .ref t])) l = some (.lst [.str "int"]) := upd_new (upd_new upd_same ht) hm
    have ht3 : (upd (upd (upd H2 l (.lst [.str "int"])) t (.tup [.str "int"])) m (.lst [.str "bool", .str "", .non, .bl true, .int 0, .ref l, .str "INT", .str "never", .ref t])) t = some (.tup [.str "int"]) := upd_new upd_same hm
    generalize (upd (upd (upd H2 l (.lst [.str "int"])) t (.tup [.str "int"])) m (.lst [.str "bool", .str "", .non, .bl true, .int 0, .ref l, .str "INT", .str "never", .ref t])) = H3 at hr3 s23 hm3 hl3 ht3 ⊢
    have hF3 := s23 _ _ hF2
    refine use_taken hr3 (by decide) (by decide) fun u H4 u0 u1 hr4 fr4 => ?_
    have nr : ∀ {b : Addr} {o : HO}, H3 b = some o → (∀ w vs, o ≠ .lst (V.ref w :: vs)) → b ≠ r := fun {b o} hb ho e => by
      obtain ⟨⟨i, x, d, h1, _⟩, _⟩ := hr3
      rw [← e, hb] at h1
      exact ho _ _ (Option.some.inj h1)
    have hm4 : H4 m = _ := (fr4 m (nr hm3 (fun w vs e => by cases e))).trans hm3
    have hl4 : H4 l = _ := (fr4 l (nr hl3 (fun w vs e => by cases e))).trans hl3
    have ht4 : H4 t = _ := (fr4 t (nr ht3 (fun w vs e => by cases e))).trans ht3
    have hF4 : H4 F = _ := (fr4 F hFr).trans hF3
    obtain ⟨y, hy, oky, ny⟩ : ∃ y : V, atI [V.str "bool", .str "", .non, .bl true, .int 0, .ref l, .str "INT", .str "never", .ref t] u = some y ∧ ItemOk K H4 y ∧ notAtom y := by
      have hu : u = 0 ∨ u = 1 ∨ u = 2 ∨ u = 3 ∨ u = 4 ∨ u = 5 ∨ u = 6 ∨ u = 7 ∨ u = 8 := by omega
      rcases hu with rfl | rfl | rfl | rfl | rfl | rfl | rfl | rfl | rfl
      · exact ⟨_, rfl, .inl ⟨_, rfl⟩, fun a e => by cases a <;> exact absurd (V.str.inj e) (by decide)⟩
      · exact ⟨_, rfl, .inl ⟨_, rfl⟩, fun a e => by cases a <;> exact absurd (V.str.inj e) (by decide)⟩
      · exact ⟨_, rfl, .inr ⟨"NoneType", .base .non, by decide +kernel⟩, fun a e => nomatch e⟩
      · exact ⟨_, rfl, .inr ⟨"bool", .base (.bl _), by decide +kernel⟩, fun a e => nomatch e⟩
      · exact ⟨_, rfl, .inr ⟨"int", .base (.int _), by decide +kernel⟩, fun a e => nomatch e⟩
      · exact ⟨_, rfl, .inr ⟨"list", .base (.lst hl4), by decide +kernel⟩, fun a e => nomatch e⟩
      · exact ⟨_, rfl, .inl ⟨_, rfl⟩, fun a e => by cases a <;> exact absurd (V.str.inj e) (by decide)⟩
      · exact ⟨_, rfl, .inl ⟨_, rfl⟩, fun a e => by cases a <;> exact absurd (V.str.inj e) (by decide)⟩
      · exact ⟨_, rfl, .inr ⟨"tuple", .base (.tup ht4), by decide +kernel⟩, fun a e => nomatch e⟩
    refine x_ixL (SqL.of hm4) hy ?_
    walk_at "sx"
    have hnl : n ≤ as.length := by omega
    have okA : ∀ {H' : Hp} (xs : List V), Same H4 H' → (∀ v ∈ xs, (∃ b ∈ as, v = atV b) ∨ v = y) → ∀ v ∈ xs, ItemOk K H' v := fun xs s h v hv => by
      rcases h v hv with ⟨b, _, rfl⟩ | rfl
      · exact itemOk_atom
      · exact oky.same s
    refine splice_ok (n := n) (by rfl) (by rfl) (by rfl) (SqL.of hF4) (by rw [List.length_map]; exact hnl) (by rw [List.length_map]; omega) fun H5 q s5 hq => ?_
    rw [← List.map_take, ← List.map_drop] at hq
    walk_at "sx"
    refine num_bad (as := as.take n) (.inl (SqL.of hq)) (by rw [List.length_append, List.length_cons, List.length_map, List.length_map, List.length_take, List.length_drop]; omega) (okA _ s5 fun v hv => ?_) ny fun H6 s6 => ?_
    · rcases List.mem_append.mp hv with h | h
      · obtain ⟨b, hb, rfl⟩ := List.mem_map.mp h
        exact .inl ⟨b, List.mem_of_mem_take hb, rfl⟩
      · rcases List.mem_cons.mp h with rfl | h
        · exact .inr rfl
        · obtain ⟨b, hb, rfl⟩ := List.mem_map.mp h
          exact .inl ⟨b, List.mem_of_mem_drop hb, rfl⟩
    walk_at "sx"
    rw [List.length_take, Nat.min_eq_left hnl, decide_eq_true rfl]
    walk_at "sx"
    have u6 : Same H4 H6 := s5.trans s6
    refine x_slL (SqL.of (u6 _ _ hF4)) fun q1 hq1 => ?_
    rw [cutV_pre _ _ (by rw [List.length_map]; exact hnl), ← List.map_take]
    walk_at "sx"
    refine ⟨szL rfl, fun q2 hq2 => ?_⟩
    walk_at "sx"
    have u7 := (u6.trans (same_new (o := .lst ((as.take n).map atV)) hq1)).trans (same_new (o := .lst [y, y]) hq2)
    refine x_catL (upd_new upd_same hq2) upd_same (by rw [List.length_map, List.length_take, sizeLine_eq]; simp only [List.length_cons, List.length_nil]; omega) fun q3 hq3 => ?_
    walk_at "sx"
    have u8 := u7.trans (same_new (o := .lst ((as.take n).map atV ++ [y, y])) hq3)
    refine x_tupleL (SqL.of upd_same) fun q4 hq4 => ?_
    walk_at "sx"
    have u9 := u8.trans (same_new (o := .tup ((as.take n).map atV ++ [y, y])) hq4)
    refine num_bad (as := as.take n) (r := [y]) (.inr sqT_new) (by rw [List.length_append, List.length_cons, List.length_map, List.length_take]; simp only [List.length_cons, List.length_nil]; omega) (okA _ u9 fun v hv => ?_) ny fun H10 s10 => ?_
    · rcases List.mem_append.mp hv with h | h
      · obtain ⟨b, hb, rfl⟩ := List.mem_map.mp h
        exact .inl ⟨b, List.mem_of_mem_take hb, rfl⟩
      · have : v = y := by simpa using h
        exact .inr this
    walk_at "sx"
    rw [List.length_take, Nat.min_eq_left hnl, decide_eq_true rfl]
    walk_at "sx"
    have u10 := u9.trans s10
    refine num_good (as := as) (.inl (SqL.of (u10 _ _ hF4))) (by omega) fun H11 s11 => ?_
    walk_at "sx"
    exact hn H11 _ _ _ (hr4.same (u10.trans s11)) (((((SameR.of s1).trans (.eq fr2)).trans (.of s23)).trans (.eq fr4)).trans (.of (u10.trans s11)))
theorem num_str {z : Str} {Q : VK} {n : Nat} (e : readKind z = .error n) (hz : z.length ≤ 100000) (h : ∀ H', Same H H' → Q (.int (n : Nat)) H') : sp__law_number K κ [.str z, .bl true] H Q E := ⟨_, true, rfl, .inl ⟨rfl, .inl ⟨z, rfl, hz, fun H' s => by rw [e]; exact h H' s⟩⟩⟩
theorem num_odd {y : V} {Q : VK} (ty : ∃ m, TyX K H y (.type m) ∧ kitB m "str" = some false) (h : ∀ H', Same H H' → Q (.int 0) H') : sp__law_number K κ [y, .bl true] H Q E := ⟨_, true, rfl, .inl ⟨rfl, .inr ⟨ty, h⟩⟩⟩
theorem x_notOwn {C : Addr} {sp : Sp} {te : TE} {σ : L2.St} {Q : VK} (h : te σ H fun x H1 => ∃ a dx fs, x = .ref a ∧ H1 a = some (.ins C dx fs) ∧ sp [.ref a] H1 (fun z H' => ∃ c, z = .bl c ∧ Q (.bl (!c)) H') nE) : tNotOwn C sp te σ H Q := h
theorem end4_ok {z4 z5 : Option V} (hn : ∀ H', D.rt (.bl true) H') :
    t_law_end K κ E D [z0, z1, z2, z3, z4, z5, z6, z7, z8, z9, z10, z11, z12, z13, z14, z15, z16] H := by
  unfold t_law_end
  walk_at "sx"
  refine ⟨szL rfl, fun l hl => ?_⟩
  walk_at "sx"
  refine ⟨szL rfl, fun t ht => ?_⟩
  walk_at "sx"
  refine ⟨szL rfl, fun m hm => ?_⟩
  refine x_iListk (SqL.of upd_same) ?_
  have hl3 : (upd (upd (upd H l (.lst [.str "int"])) t (.tup [.str "int"])) m (.lst [.non, .int 5, .bl true, .ref l, .ref t])) l = some (.lst [.str "int"]) := upd_new (upd_new upd_same ht) hm
  have ht3 : (upd (upd (upd H l (.lst [.str "int"])) t (.tup [.str "int"])) m (.lst [.non, .int 5, .bl true, .ref l, .ref t])) t = some (.tup [.str "int"]) := upd_new upd_same hm
  have hm3 : (upd (upd (upd H l (.lst [.str "int"])) t (.tup [.str "int"])) m (.lst [.non, .int 5, .bl true, .ref l, .ref t])) m = some (.lst [.non, .int 5, .bl true, .ref l, .ref t]) := upd_same
  generalize (upd (upd (upd H l (.lst [.str "int"])) t (.tup [.str "int"])) m (.lst [.non, .int 5, .bl true, .ref l, .ref t])) = H3 at hm3 hl3 ht3 ⊢
  refine for_it (walk_list (xs := [.non, .int 5, .bl true, .ref l, .ref t])) (fun i σ H' => (∃ z12, σ = [z0, z1, z2, z3, z4, z5, z6, z7, z8, z9, z10, z11, z12, z13, z14, z15, z16]) ∧ Same H3 H') ⟨⟨_, rfl⟩, Same.refl _⟩ (fun i σ H' _ h => SqL.of (h.2 _ _ hm3)) ?_ ?_
  · rintro i v σ H1 H2 hlt ⟨⟨y12, rfl⟩, sm⟩ ⟨rfl, hv⟩
    have hv' := List.mem_of_getElem? hv
    have key : ∃ m, TyX K H2 v (.type m) ∧ kitB m "str" = some false := by
      simp only [List.mem_cons, List.not_mem_nil, or_false] at hv'
      rcases hv' with rfl | rfl | rfl | rfl | rfl
      · exact ⟨"NoneType", .base .non, by decide +kernel⟩
      · exact ⟨"int", .base (.int _), by decide +kernel⟩
      · exact ⟨"bool", .base (.bl _), by decide +kernel⟩
      · exact ⟨"list", .base (.lst (sm _ _ hl3)), by decide +kernel⟩
      · exact ⟨"tuple", .base (.tup (sm _ _ ht3)), by decide +kernel⟩
    walk_at "sx"
    refine num_odd key fun H4 s4 => ?_
    walk_at "sx"
    rw [decide_eq_true rfl]
    walk_at "sx"
    exact ⟨⟨_, rfl⟩, sm.trans s4⟩
  · rintro σ H1 ⟨⟨y12, rfl⟩, sm⟩
    walk_at "sx"
    refine use_parse (k := fun _ => false) rfl (by decide) fun c H2 s2 kc => ?_
    walk_at "sx"
    refine use_ats kc fun t ht => ?_
    walk_at "sx"
    refine ⟨szL rfl, fun u hu => ?_⟩
    have ne := same_new (o := .tup []) hu
    refine x_eqTA (as := kindL fun _ => false) (bs := []) (Nv.Same.seqT ne ht) sqT_new ?_
    rw [show decide ((kindL fun _ => false) = []) = true from decide_eq_true rfl]
    refine x_trvB ?_
    walk_at "sx"
    refine use_ktext (kc.same ne) fun H3 s3 => ?_
    walk_at "sx"
    rw [decide_eq_true (show kindText (fun _ => false) = "never" from rfl)]
    refine x_trvB ?_
    walk_at "sx"
    refine num_str (n := 1) rfl (by decide) fun H4 s4 => ?_
    walk_at "sx"
    rw [show decide ((((1 : Nat) : Int)) = 1) = true from by decide]
    refine x_trvB ?_
    walk_at "sx"
    refine x_notOwn ?_
    walk_at "sx"
    have kc4 := kc.same ((ne.trans s3).trans s4)
    obtain ⟨dx, t, ha, ht⟩ := id kc4
    refine ⟨_, dx, _, rfl, ha, _, _, rfl, kc4, _, rfl, ?_⟩
    rw [show (!decide ((kindL fun _ => false) ≠ [])) = true from by decide +kernel]
    exact hn _
theorem flat_eq (ws : List Str) (f : Atom → Bool) (h : ∀ a, f a = decide (a ∈ flatA ws)) : Atom.all.filter f = kindL fun a => decide (a ∈ flatA ws) := by
  rw [show f = fun a => decide (a ∈ flatA ws) from funext h]
  rfl
theorem fm_atoms (f : Atom → Bool) : ∀ as : List Atom, ∀ F : V → Option V, (∀ a, F (atV a) = if f a = true then some (atV a) else none) → (as.map atV).filterMap F = (as.filter f).map atV
  | [], _, _ => rfl
  | a :: as, F, h => by
    rw [List.map_cons, List.filterMap_cons, h a, List.filter_cons, fm_atoms f as F h]
    cases f a <;> rfl
theorem turn4_ok (hr : RowOk K H r a) (n4 : p4 ≠ r) (hs : IsSL H p4 ws) (h6 : ∀ w ∈ ws, w ∈ sixW) (h0 : ws ≠ []) (hl : ws.length ≤ 8) (ha : IsAL H p5 (kindL fun a => decide (a ∈ flatA ws)))
    (hn : ∀ (H' : Hp) (z5 z6 z7 z8 z9 z10 z11 z12 z13 z14 z15 z16 : Option V), RowOk K H' r a → SameR r H H' → D.nx [z0, some (.ref r), z2, z3, some (.ref p4), z5, z6, z7, z8, z9, z10, z11, z12, z13, z14, z15, z16] H') :
    tSeq (t_law_again K κ E) (t_law_wrong K κ E) D [z0, some (.ref r), z2, z3, some (.ref p4), some (.ref p5), z6, z7, z8, z9, z10, z11, z12, z13, z14, z15, z16] H := by
  refine x_seq ?_
  refine again4_ok hs h6 h0 hl ha fun H1 _ _ s1 => ?_
  refine wrong4_ok (hr.same s1) n4 (hs.same s1) h6 h0 hl fun H2 _ _ _ hr2 hs2 sr2 => ?_
  refine items4_ok hr2 hs2 h6 hl fun H3 _ _ _ hr3 sr3 => ?_
  exact hn H3 _ _ _ _ _ _ _ _ _ _ _ _ hr3 (((SameR.of s1).trans sr2).trans sr3)
theorem atV_s (c : Atom) : atV c = .str c.s := rfl
theorem r_law (K : PySem.W.Frag) (κ : Kap) (vs : List V) (H : Hp) (Q : VK) (E : XK) (h : sp_law K κ vs H Q E) :
    t_law K κ E { nx := fun _ H' => Q .non H', rt := Q } (L2.start N_law vs) H := by
  obtain ⟨a, ns, rfl, hs, q⟩ := h
  show t_law K κ E _ [some (.ref a), none, none, none, none, none, none, none, none, none, none, none, none, none, none, none, none] H
  unfold t_law
  walk_at "sx"
  refine ⟨szL rfl, fun r hp => ?_⟩
  walk_at "sx"
  have hr0 : RowOk K (upd H r (.lst [.ref a, .int 0, .int 0, .int 0])) r a := ⟨⟨0, 0, 0, upd_same, by decide, by decide⟩, ns, (same_new hp).seq hs⟩
  refine ⟨szL rfl, fun W hW => ?_⟩
  walk_at "sx"
  have hWr := hr0.ne hW
  have hr1 := hr0.new (o := .lst (sixW.map V.str)) hW
  have hw1 : IsSL (upd (upd H r (.lst [.ref a, .int 0, .int 0, .int 0])) W (.lst (sixW.map V.str))) W sixW := upd_same
  refine for_range (fun i σ' H' => RowOk K H' r a ∧ IsSL H' W sixW ∧ ∃ z3 z4 z5 z6 z7 z8 z9 z10 z11 z12 z13 z14 z15 z16 : Option V, σ' = [some (.ref a), some (.ref r), some (.ref W), z3, z4, z5, z6, z7, z8, z9, z10, z11, z12, z13, z14, z15, z16]) ⟨hr1, hw1, _, _, _, _, _, _, _, _, _, _, _, _, _, _, rfl⟩ ?_ ?_
  · rintro turn σ' H0 hi ⟨hr2, hw2, z3, z4, z5, z6, z7, z8, z9, z10, z11, z12, z13, z14, z15, z16, rfl⟩
    walk_at "sx"
    refine use_taken hr2 (by decide) (by decide) fun v H1 v0 v1 hr3 fr1 => ?_
    have hw3 : IsSL H1 W sixW := (fr1 W hWr).trans hw2
    walk_at "sx"
    intro F hF
    have hFr := hr3.ne hF
    refine lc_range (fun i H' => RowAt H' r a ∧ SameR r H1 H' ∧ ∃ ws : List Str, ws.length = i ∧ (∀ w ∈ ws, w ∈ sixW) ∧ H' F = some (.lst (ws.map V.str))) ⟨hr3.1.upd hFr, .of (same_new hF), [], rfl, (fun w h => nomatch h), upd_same⟩ ?_ ?_
    · rintro i H2 hi ⟨hr4, sr2, ws, hl, h6, hd2⟩
      walk_at "sx"
      refine ⟨rfl, ?_⟩
      walk_at "sx"
      refine use_taken (hr3.frame sr2 hr4) (by decide) (by decide) fun u H3 u0 u1 hr5 fr3 => ?_
      have sr3 : SameR r H1 H3 := sr2.trans (.eq fr3)
      obtain ⟨x, hx, hm⟩ := at_mem (xs := sixW.map V.str) u0 (by rw [List.length_map]; exact u1)
      refine x_ixL (SqL.of (sr3 _ _ hWr hw3)) hx ?_
      obtain ⟨w, hw, rfl⟩ := List.mem_map.mp hm
      have hd3 : H3 F = some (.lst (ws.map V.str)) := (fr3 F hFr).trans hd2
      exact ⟨_, hd3, by rw [List.length_map, sizeLine_eq]; omega, hr5.1.upd hFr, sr3.mut hF, ws ++ [w], by rw [List.length_append, hl]; rfl, (fun v hv => by
        rcases List.mem_append.mp hv with h | h
        · exact h6 v h
        · rw [List.mem_singleton.mp h]; exact hw), by rw [upd_same, List.map_append]; rfl⟩
    · rintro H2 ⟨hr4, sr2, ws, hl, h6, hd2⟩
      have hr5 := hr3.frame sr2 hr4
      have hw5 : IsSL H2 W sixW := sr2 _ _ hWr hw3
      have l8 : ws.length ≤ 8 := by omega
      have w0 : ws ≠ [] := fun e => by rw [e] at hl; simp at hl; omega
      have hs5 : IsSL H2 F ws := hd2
      walk_at "sx"
      refine ⟨szL rfl, fun l hl' => ?_⟩
      refine x_iListk (xs := Atom.all.map atV) (SqL.of upd_same) ?_
      have n1 := same_new (o := .lst (Atom.all.map atV)) hl'
      intro G hG
      refine lc_pure (K := K) (walk_list (xs := Atom.all.map atV)) (fun v => if inV v (ws.map V.str) = true then some v else none) hG (by decide) (fun H' s => SqL.of (s _ _ upd_same)) (fun i v H' hv sm R R0 h1 h0 => ?_) fun H3 s3 hG3 => ?_
      · obtain ⟨c, _, rfl⟩ := List.mem_map.mp (List.mem_of_getElem? hv)
        walk_at "sx"
        refine ⟨rfl, ?_⟩
        walk_at "sx"
        refine x_inL (SqL.of (hs5.same (n1.trans sm))) rfl (flat_strs _) ?_
        cases e : inV (atV c) (ws.map V.str) with
        | true =>
          walk_at "sx"
          exact h1 _ (by rw [e]; rfl) _ (Same.refl _)
        | false =>
          walk_at "sx"
          exact h0 (by rw [e]; rfl) _ (Same.refl _)
      · have n3 := n1.trans s3
        have hr6 := hr5.same n3
        have hs6 := hs5.same n3
        have hw6 := hw5.same n3
        rw [fm_atoms (fun a => decide (a.s ∈ ws)) _ _ (fun a => by rw [atV_s, inV_strs])] at hG3
        have fin : ∀ (H' : Hp) (p5 : Addr) (D : Ends) (z6 z7 z8 z9 z10 z11 z12 z13 z14 z15 z16 : Option V), RowOk K H' r a → IsSL H' F ws → IsSL H' W sixW → IsAL H' p5 (kindL fun a => decide (a ∈ flatA ws)) →
            (∀ (H'' : Hp) (z3 z4 z5 z6 z7 z8 z9 z10 z11 z12 z13 z14 z15 z16 : Option V), RowOk K H'' r a → IsSL H'' W sixW → D.nx [some (.ref a), some (.ref r), some (.ref W), z3, z4, z5, z6, z7, z8, z9, z10, z11, z12, z13, z14, z15, z16] H'') →
            tSeq (t_law_again K κ E) (t_law_wrong K κ E) D [some (.ref a), some (.ref r), some (.ref W), some (.int (0 + (turn : Nat))), some (.ref F), some (.ref p5), z6, z7, z8, z9, z10, z11, z12, z13, z14, z15, z16] H' := fun H' p5 D z6 z7 z8 z9 z10 z11 z12 z13 z14 z15 z16 a1 a2 a3 a4 hn =>
          turn4_ok a1 hFr a2 h6 w0 l8 a4 fun H'' _ _ _ _ _ _ _ _ _ _ _ _ b1 b2 => hn H'' _ _ _ _ _ _ _ _ _ _ _ _ _ _ b1 (b2 _ _ hWr a3)
        walk_at "sx"
        refine x_inL (SqL.of hs6) rfl (flat_strs _) ?_
        rw [inV_strs]
        cases eb : decide (("bool" : Str) ∈ ws) with
        | false =>
          walk_at "sx"
          refine fin H3 G _ _ _ _ _ _ _ _ _ _ _ _ hr6 hs6 hw6 ?_ fun H'' _ _ _ _ _ _ _ _ _ _ _ _ _ _ b1 b2 => ⟨b1, b2, _, _, _, _, _, _, _, _, _, _, _, _, _, _, rfl⟩
          show H3 G = _
          rw [hG3, flat_eq ws _ fun c => ?_]
          rw [Bool.eq_iff_iff, decide_eq_true_eq, decide_eq_true_eq, mem_flatA]
          have := of_decide_eq_false eb
          simp [this]
        | true =>
          walk_at "sx"
          refine ⟨szL rfl, fun l2 hl2 => ?_⟩
          refine x_iListk (xs := Atom.all.map atV) (SqL.of upd_same) ?_
          have n4 := same_new (o := .lst (Atom.all.map atV)) hl2
          intro G2 hG2
          refine lc_pure (K := K) (walk_list (xs := Atom.all.map atV)) (fun v => if inV v ((ws ++ [("false" : Str), ("true" : Str)]).map V.str) = true then some v else none) hG2 (by decide) (fun H' s => SqL.of (s _ _ upd_same)) (fun i v H' hv sm R R0 h1 h0 => ?_) fun H4 s4 hG4 => ?_
          · obtain ⟨c, _, rfl⟩ := List.mem_map.mp (List.mem_of_getElem? hv)
            walk_at "sx"
            refine ⟨rfl, ?_⟩
            walk_at "sx"
            refine ⟨szL rfl, fun l3 hl3 => ?_⟩
            walk_at "sx"
            have n5 := same_new (o := .lst [.str "false", .str "true"]) hl3
            refine x_catL (hs6.same ((n4.trans sm).trans n5)) upd_same (by rw [List.length_map, sizeLine_eq]; simp only [List.length_cons, List.length_nil]; omega) fun l4 hl4 => ?_
            have n6 := n5.trans (same_new (o := .lst (ws.map V.str ++ [.str "false", .str "true"])) hl4)
            rw [show ws.map V.str ++ [.str "false", .str "true"] = (ws ++ [("false" : Str), ("true" : Str)]).map V.str from by rw [List.map_append]; rfl] at n6 ⊢
            refine x_inL (SqL.of upd_same) rfl (flat_strs _) ?_
            cases e : inV (atV c) ((ws ++ [("false" : Str), ("true" : Str)]).map V.str) with
            | true =>
              walk_at "sx"
              exact h1 _ (by rw [e]; rfl) _ n6
            | false =>
              walk_at "sx"
              exact h0 (by rw [e]; rfl) _ n6
          · have n6 := n4.trans s4
            rw [fm_atoms (fun a => decide (a.s ∈ ws ++ [("false" : Str), ("true" : Str)])) _ _ (fun a => by rw [atV_s, inV_strs])] at hG4
            walk_at "sx"
            refine fin H4 G2 _ _ _ _ _ _ _ _ _ _ _ _ (hr6.same n6) (hs6.same n6) (hw6.same n6) ?_ fun H'' _ _ _ _ _ _ _ _ _ _ _ _ _ _ b1 b2 => ⟨b1, b2, _, _, _, _, _, _, _, _, _, _, _, _, _, _, rfl⟩
            show H4 G2 = _
            rw [hG4, flat_eq ws _ fun c => ?_]
            rw [Bool.eq_iff_iff, decide_eq_true_eq, decide_eq_true_eq, mem_flatA]
            have hb := of_decide_eq_true eb
            have e3 : (c.s = ("false" : Str) ∨ c.s = ("true" : Str)) ↔ (c = .fals ∨ c = .tru) := by cases c <;> decide
            rw [List.mem_append, List.mem_cons, List.mem_cons, ← e3]
            simp [hb]
  · rintro σ' H1 ⟨hr2, hw2, z3, z4, z5, z6, z7, z8, z9, z10, z11, z12, z13, z14, z15, z16, rfl⟩
    exact end4_ok fun H' => q H'
end
end Nv

namespace NvK04
open PySem PySem.Spec PyProof.Rows L2 Nv
def topS (i : Nat) : Stmt := PySem.Challenge.pw_narrowing_k04_kind_texts.main.body.getD i (.Pass ⟨0, 0, 0, 0⟩)
structure Txt (w : World) (K : PySem.W.Frag) (mg : Str → Option Value) (κ : Kap) : Prop where
  n_ValueError : mg "ValueError" = none
  n_bool : mg "bool" = none
  n_enumerate : mg "enumerate" = none
  n_int : mg "int" = none
  n_isinstance : mg "isinstance" = none
  n_len : mg "len" = none
  n_list : mg "list" = none
  n_range : mg "range" = none
  n_str : mg "str" = none
  n_tuple : mg "tuple" = none
  e_NarrowingError : ECls K mg "NarrowingError" (κ "NarrowingError")
  e_InvalidNumber : ECls K mg "InvalidNumber" (κ "InvalidNumber")
  e_InvalidKind : ECls K mg "InvalidKind" (κ "InvalidKind")
  b_NarrowingError : EBase K mg "NarrowingError" (κ "NarrowingError")
  no_InvalidKind_number : PySem.W.findIn K (.ref (κ "InvalidKind")) "number" = some none
  x_InvalidKind_InvalidKind : PySem.W.exmOne K (.ref (κ "InvalidKind")) (.ref (κ "InvalidKind")) = some true
  x_InvalidKind_InvalidNumber : PySem.W.exmOne K (.ref (κ "InvalidKind")) (.ref (κ "InvalidNumber")) = some false
  k_InvalidKind_NarrowingError : PySem.W.kitOne K (.ref (κ "InvalidKind")) (.ref (κ "NarrowingError")) = some true
  k_InvalidKind_ValueError : PySem.W.kitOne K (.ref (κ "InvalidKind")) (.type "ValueError") = some true
  c_Kind : OCls K mg "Kind" (κ "Kind")
  sf_Kind : PySem.W.selfFirst K (κ "Kind") = true
  nf_Kind_kept : NoAttr K (κ "Kind") "kept"
  v_Kind_ATOMS : ClX.CVal K (κ "Kind") (.type "type") "ATOMS" (.ref (κ "Kind.ATOMS")) (.ref (κ "Kind.ATOMS"))
  q_Kind_ATOMS : ∀ H, SqT K H (κ "Kind.ATOMS") [.str "null", .str "false", .str "true", .str "int", .str "text"]
  ni_Kind : ∀ T ∈ flatT, PySem.W.subIn K (.type T) (.ref (κ "Kind")) = some false
  ne_Kind : PySem.W.findIn K (.ref (κ "Kind")) "__ne__" = some (some (.builtin "object.__ne__"))
  ob_Kind : PySem.W.subIn K (.ref (κ "Kind")) (.type "object") = some true
  dq_Kind___init___1 : ∀ H, SqT K H (κ "Kind___init__.1") []
  g_WORDS : ∃ u, mg "WORDS" = some u ∧ RelV (.ref (κ "WORDS")) u
  kd_WORDS : ∃ es n, KDict K w (κ "WORDS") es n
  kv_WORDS : ∀ z, PySem.W.nsIn K (κ "WORDS") z = some ((([("null", .ref (κ "WORDS.null")), ("false", .ref (κ "WORDS.false")), ("true", .ref (κ "WORDS.true")), ("bool", .ref (κ "WORDS.bool")), ("int", .ref (κ "WORDS.int")), ("text", .ref (κ "WORDS.text"))] : List (Str × Value)).find? fun e => decide (e.1 = z)).map (·.2))
  q_WORDS_null : ∀ H, SqT K H (κ "WORDS.null") [.str "null"]
  q_WORDS_false : ∀ H, SqT K H (κ "WORDS.false") [.str "false"]
  q_WORDS_true : ∀ H, SqT K H (κ "WORDS.true") [.str "true"]
  q_WORDS_bool : ∀ H, SqT K H (κ "WORDS.bool") [.str "false", .str "true"]
  q_WORDS_int : ∀ H, SqT K H (κ "WORDS.int") [.str "int"]
  q_WORDS_text : ∀ H, SqT K H (κ "WORDS.text") [.str "text"]
section
variable {P : Program} {w : World} {K : PySem.W.Frag} {mg : Str → Option Value} {κ : Kap} {base : Heap}
abbrev s_Kind___bool__ : Stmt := inClass (topS 9) 14
theorem sc_Kind___bool__ : FnScope N_Kind___bool__ ["self"] (defScope s_Kind___bool__) := ⟨rfl, rfl, rfl, by decide +kernel, rfl, by decide +kernel, by decide +kernel⟩
theorem ok_Kind___bool__ {f : Addr} {fd : FuncData} (F : Fun K "__bool__" "Kind.__bool__" s_Kind___bool__ f fd) (T : Txt w K mg κ)  : FnOk P w K mg base (L2.CX P w) 1 f fd ["self"] (sp_Kind___bool__ K κ) := by
  have sc := sc_Kind___bool__
  refine F.okX sc (fun vs H Q E h => l_Kind___bool__ h) (fun cdv A outer s H vs Q E hr h => ⟨t_Kind___bool__ K κ E, ?_, r_Kind___bool__ K κ  vs H Q E h⟩)
  have tk : Takes (cxOf (L2.CX P w) P w K mg base N_Kind___bool__ "Kind.__bool__" (defScope s_Kind___bool__) f cdv A outer s H E) (fun cls d _ H => E cls d H) := takes_of rfl rfl rfl rfl
  exact (pss_one (ps_ret (pe_callTy call_boolU (by rfl) T.n_bool (by decide +kernel) (pa_cons (pe_cmpR op_gtU (pe_callB call_lenU (by rfl) T.n_len (by decide +kernel) (pa_cons (pe_fldN (fldOk1 T.c_Kind.c T.nf_Kind_kept) (pv 0)) pa_nil)) pe_int (nomark _)) pa_nil))))
abbrev s_Kind___eq__ : Stmt := inClass (topS 9) 11
theorem sc_Kind___eq__ : FnScope N_Kind___eq__ ["self", "other"] (defScope s_Kind___eq__) := ⟨rfl, rfl, rfl, by decide +kernel, rfl, by decide +kernel, by decide +kernel⟩
theorem ok_Kind___eq__ {f : Addr} {fd : FuncData} (F : Fun K "__eq__" "Kind.__eq__" s_Kind___eq__ f fd) (T : Txt w K mg κ)  : FnOk P w K mg base (L2.CX P w) 1 f fd ["self", "other"] (sp_Kind___eq__ K κ) := by
  have sc := sc_Kind___eq__
  refine F.okX sc (fun vs H Q E h => l_Kind___eq__ h) (fun cdv A outer s H vs Q E hr h => ⟨t_Kind___eq__ K κ E, ?_, r_Kind___eq__ K κ  vs H Q E h⟩)
  have tk : Takes (cxOf (L2.CX P w) P w K mg base N_Kind___eq__ "Kind.__eq__" (defScope s_Kind___eq__) f cdv A outer s H E) (fun cls d _ H => E cls d H) := takes_of rfl rfl rfl rfl
  exact (pss_one (ps_ret (pe_andT (pe_callB (call_isiC T.c_Kind T.ni_Kind (fun D h => nomatch h)) (by rfl) T.n_isinstance (by decide +kernel) (pa_cons (pv 1) (pa_cons (pe_glob (by rfl) T.c_Kind.g rfl) pa_nil))) (pe_one (pe_cmpR (op_eqD hr.units) (pe_fldN (fldOk1 T.c_Kind.c T.nf_Kind_kept) (pv 0)) (pe_fldN (fldOk1 T.c_Kind.c T.nf_Kind_kept) (pv 1)) (nomark _))))))
abbrev s_InvalidKind___init__ : Stmt := inClass (topS 4) 0
theorem sc_InvalidKind___init__ : FnScope ["self", "number"] ["self", "number"] (defScope s_InvalidKind___init__) := ⟨rfl, rfl, rfl, by decide +kernel, rfl, by decide +kernel, by decide +kernel⟩
theorem ok_InvalidKind___init__ {f : Addr} {fd : FuncData} (F : Fun K "__init__" "InvalidKind.__init__" s_InvalidKind___init__ f fd) (T : Txt w K mg κ) : FnOk P w K mg base (L2.CX P w) 1 f fd ["self", "number"] (sp_init1 K "number") := by
  have sc := sc_InvalidKind___init__
  refine F.okX sc (fun vs H Q E h => l_init1 h) (fun cdv A outer s H vs Q E hr h => ⟨t_init1 K "not an atom or a word for one" "number", ?_, r_init1 K "not an atom or a word for one" "number" ["self", "number"] rfl vs H Q E h⟩)
  exact pss_cons (ps_expr (pe_binit (by rfl) T.b_NarrowingError.g T.b_NarrowingError.s T.b_NarrowingError.r T.b_NarrowingError.v (pa_cons (pv 0) (pa_cons pe_str pa_nil)))) (pss_one (ps_ost (pv 0) (pv 1)))
abbrev s_Kind___init__ : Stmt := inClass (topS 9) 1
theorem sc_Kind___init__ : FnScope N_Kind___init__ ["self", "atoms"] (defScope s_Kind___init__) := ⟨rfl, rfl, rfl, by decide +kernel, rfl, by decide +kernel, by decide +kernel⟩
theorem ok_Kind___init__ {f : Addr} {fd : FuncData} {dT : Addr} (F : FunG K "__init__" "Kind.__init__" s_Kind___init__ (.ref dT) f fd) (T : Txt w K mg κ) (N_InvalidKind : EIni P w K mg base 1 (κ "InvalidKind") ["self", "number"] (sp_init1 K "number")) : FnOk P w K mg base (L2.CX P w) 3 f fd ["self", "atoms"] (sp_Kind___init__ K κ) := by
  have sc := sc_Kind___init__
  refine F.okX sc (fun vs H Q E h => l_Kind___init__ h) (fun cdv A outer s H vs Q E hr h => ⟨t_Kind___init__ K κ E, ?_, r_Kind___init__ K κ T.q_Kind_ATOMS vs H Q E h⟩)
  have tk : Takes (cxOf (L2.CX P w) P w K mg base N_Kind___init__ "Kind.__init__" (defScope s_Kind___init__) f cdv A outer s H E) (fun cls d _ H => E cls d H) := takes_of rfl rfl rfl rfl
  exact (pss_cons (ps_asg pe_dnewK (pg_name (i := 2) sc.nd rfl (.inr rfl)))
  (pss_cons (ps_for (passes_of rfl) rfl (pi_enumA (by rfl) T.n_enumerate (pa_cons (pv 1) pa_nil)) (pg_tup rfl (pgs_cons (pg_name (i := 3) sc.nd rfl (.inl rfl)) (pgs_cons (pg_name (i := 4) sc.nd rfl (.inl rfl)) pgs_nil))) (pss_cons (ps_if (PW.pt (pw_or (pt_not (pt_truU (pe_callB call_isiU (by rfl) T.n_isinstance (by decide +kernel) (pa_cons (pv 4) (pa_cons (pe_bltn (by rfl) T.n_str (by decide +kernel) rfl) pa_nil))) (by intro _; rfl))) (pw_or1 (pt_cmpR op_notInU (pv 4) (pe_ccon T.c_Kind.rd T.v_Kind_ATOMS T.c_Kind.g (by rfl)) (by rfl))))) (pss_one (ps_raise1 rfl T.e_InvalidKind N_InvalidKind T.no_InvalidKind_number (hr.mono (by decide)) tk (by rfl) (pa_cons (pe_op op_addU (pv 3) pe_int) pa_nil))) pss_nil)
  (pss_one (ps_asg pe_bl (pg_sub (pv 2) (pv 4) (set_dict (hu_of hr)))))))
  (pss_one (ps_fldN (fldOk1 T.c_Kind.c T.nf_Kind_kept) (pv 0) (pe_callTy call_tupleU (by rfl) T.n_tuple (by decide +kernel) (pa_cons (pe_lc (own := [("atom", 4)]) rfl sc.nd (pi_tup (pe_ccon T.c_Kind.rd T.v_Kind_ATOMS T.c_Kind.g (by rfl))) (blkOk_by (N := N_Kind___init__) (sc := defScope s_Kind___init__) (by decide +kernel)) (fun _ _ _ _ _ => (pg_name (i := 4) sc.nd rfl (.inl rfl))) (fun _ _ _ _ _ => (pts_one (pt_cmpR (op_inDct (hu_of hr)) (pv 4) (pv 2) (by rfl)))) (fun _ _ _ _ _ => (pv 4))) pa_nil))))))
abbrev s_Kind___len__ : Stmt := inClass (topS 9) 13
theorem sc_Kind___len__ : FnScope N_Kind___len__ ["self"] (defScope s_Kind___len__) := ⟨rfl, rfl, rfl, by decide +kernel, rfl, by decide +kernel, by decide +kernel⟩
theorem ok_Kind___len__ {f : Addr} {fd : FuncData} (F : Fun K "__len__" "Kind.__len__" s_Kind___len__ f fd) (T : Txt w K mg κ)  : FnOk P w K mg base (L2.CX P w) 1 f fd ["self"] (sp_Kind___len__ K κ) := by
  have sc := sc_Kind___len__
  refine F.okX sc (fun vs H Q E h => l_Kind___len__ h) (fun cdv A outer s H vs Q E hr h => ⟨t_Kind___len__ K κ E, ?_, r_Kind___len__ K κ  vs H Q E h⟩)
  have tk : Takes (cxOf (L2.CX P w) P w K mg base N_Kind___len__ "Kind.__len__" (defScope s_Kind___len__) f cdv A outer s H E) (fun cls d _ H => E cls d H) := takes_of rfl rfl rfl rfl
  exact (pss_one (ps_ret (pe_callB call_lenU (by rfl) T.n_len (by decide +kernel) (pa_cons (pe_fldN (fldOk1 T.c_Kind.c T.nf_Kind_kept) (pv 0)) pa_nil))))
abbrev s_Kind_atoms : Stmt := inClass (topS 9) 4
theorem sc_Kind_atoms : FnScope N_Kind_atoms ["self"] (defScope s_Kind_atoms) := ⟨rfl, rfl, rfl, by decide +kernel, rfl, by decide +kernel, by decide +kernel⟩
theorem ok_Kind_atoms {f : Addr} {fd : FuncData} (F : Fun K "atoms" "Kind.atoms" s_Kind_atoms f fd) (T : Txt w K mg κ)  : FnOk P w K mg base (L2.CX P w) 1 f fd ["self"] (sp_Kind_atoms K κ) := by
  have sc := sc_Kind_atoms
  refine F.okX sc (fun vs H Q E h => l_Kind_atoms h) (fun cdv A outer s H vs Q E hr h => ⟨t_Kind_atoms K κ E, ?_, r_Kind_atoms K κ  vs H Q E h⟩)
  have tk : Takes (cxOf (L2.CX P w) P w K mg base N_Kind_atoms "Kind.atoms" (defScope s_Kind_atoms) f cdv A outer s H E) (fun cls d _ H => E cls d H) := takes_of rfl rfl rfl rfl
  exact (pss_one (ps_ret (pe_fldN (fldOk1 T.c_Kind.c T.nf_Kind_kept) (pv 0))))
abbrev s_Kind_parse : Stmt := inClass (topS 9) 2
theorem sc_Kind_parse : FnScope N_Kind_parse ["cls", "text"] (defScope s_Kind_parse) := ⟨rfl, rfl, rfl, by decide +kernel, rfl, by decide +kernel, by decide +kernel⟩
theorem ok_Kind_parse {f : Addr} {fd : FuncData} (F : Fun K "parse" "Kind.parse" s_Kind_parse f fd) (T : Txt w K mg κ) (N_InvalidKind : EIni P w K mg base 1 (κ "InvalidKind") ["self", "number"] (sp_init1 K "number")) (I_Kind___init__ : ICal P w K mg base 3 (κ "Kind") ["self", "atoms"] [] (sp_Kind___init__ K κ)) : FnOk P w K mg base (L2.CX P w) 5 f fd ["cls", "text"] (sp_Kind_parse K κ) := by
  have sc := sc_Kind_parse
  refine F.okX sc (fun vs H Q E h => l_Kind_parse h) (fun cdv A outer s H vs Q E hr h => ⟨t_Kind_parse K κ E, ?_, r_Kind_parse K κ (words_ok T.kv_WORDS T.q_WORDS_null T.q_WORDS_false T.q_WORDS_true T.q_WORDS_bool T.q_WORDS_int T.q_WORDS_text) vs H Q E h⟩)
  have tk : Takes (cxOf (L2.CX P w) P w K mg base N_Kind_parse "Kind.parse" (defScope s_Kind_parse) f cdv A outer s H E) (fun cls d _ H => E cls d H) := takes_of rfl rfl rfl rfl
  exact (pss_cons (ps_if (pt_not (pt_truU (pe_callB call_isiU (by rfl) T.n_isinstance (by decide +kernel) (pa_cons (pv 1) (pa_cons (pe_bltn (by rfl) T.n_str (by decide +kernel) rfl) pa_nil))) (by intro _; rfl))) (pss_one (ps_raise1 rfl T.e_InvalidKind N_InvalidKind T.no_InvalidKind_number (hr.mono (by decide)) tk (by rfl) (pa_cons pe_int pa_nil))) pss_nil)
  (pss_cons (ps_asg (pe_lst pa_nil) (pg_name (i := 2) sc.nd rfl (.inl rfl)))
  (pss_cons (ps_if (pt_cmpR op_ne (pv 1) pe_str (nomark _)) (pss_one (ps_for (passes_of rfl) rfl (pi_enumA (by rfl) T.n_enumerate (pa_cons (pe_bm PySem.F.plainAttrs_str PySem.F.slot_str_split PySem.F.type_str_split mt_splitU (pv 1) (pa_cons pe_str pa_nil)) pa_nil)) (pg_tup rfl (pgs_cons (pg_name (i := 3) sc.nd rfl (.inl rfl)) (pgs_cons (pg_name (i := 4) sc.nd rfl (.inl rfl)) pgs_nil))) (pss_cons (ps_if (pt_cmpR (op_notInKd (w := w) rfl T.kd_WORDS) (pv 4) (pe_const T.g_WORDS (by rfl)) (by rfl)) (pss_one (ps_raise1 rfl T.e_InvalidKind N_InvalidKind T.no_InvalidKind_number (hr.mono (by decide)) tk (by rfl) (pa_cons (pe_op op_addU (pv 3) pe_int) pa_nil))) pss_nil)
  (pss_one (ps_expr (pe_bm PySem.F.plainAttrs_list PySem.F.slot_list_extend PySem.F.type_list_extend mt_extendU (pv 2) (pa_cons (pe_ix (ix_Kd (w := w) rfl T.kd_WORDS) (pe_const T.g_WORDS (by rfl)) (pv 4) (fun _ _ => rfl)) pa_nil))))))) pss_nil)
  (pss_one (ps_ret (pe_icalL (i := 0) I_Kind___init__ (hr.mono (by decide)) tk (pa_cons (pv 2) pa_nil)))))))
abbrev s_text_of : Stmt := topS 8
theorem sc_text_of : FnScope N_text_of ["atoms"] (defScope s_text_of) := ⟨rfl, rfl, rfl, by decide +kernel, rfl, by decide +kernel, by decide +kernel⟩
theorem ok_text_of {f : Addr} {fd : FuncData} (F : Fun K "text_of" "text_of" s_text_of f fd) (T : Txt w K mg κ)  : FnOk P w K mg base (L2.CX P w) 1 f fd ["atoms"] (sp_text_of K κ) := by
  have sc := sc_text_of
  refine F.okX sc (fun vs H Q E h => l_text_of h) (fun cdv A outer s H vs Q E hr h => ⟨t_text_of K κ E, ?_, r_text_of K κ  vs H Q E h⟩)
  have tk : Takes (cxOf (L2.CX P w) P w K mg base N_text_of "text_of" (defScope s_text_of) f cdv A outer s H E) (fun cls d _ H => E cls d H) := takes_of rfl rfl rfl rfl
  exact (pss_cons (ps_if (pt_cmpR op_eq (pe_callB call_lenU (by rfl) T.n_len (by decide +kernel) (pa_cons (pv 0) pa_nil)) pe_int (nomark _)) (pss_one (ps_ret pe_str)) pss_nil)
  (pss_cons (ps_asg (pe_lst pa_nil) (pg_name (i := 1) sc.nd rfl (.inl rfl)))
  (pss_cons (ps_for (passes_of rfl) rfl (pi_tup (pv 0)) (pg_name (i := 2) sc.nd rfl (.inl rfl)) (pss_one (ps_if (PW.pt (pw_and (pt_cmpR op_eq (pv 2) pe_str (nomark _)) (pw_and1 (pt_cmpR op_inU pe_str (pv 1) (by rfl))))) (pss_one (ps_asg pe_str (pg_sub (pv 1) (pe_un un_neg pe_int) set_list))) (pss_one (ps_expr (pe_bm PySem.F.plainAttrs_list PySem.F.slot_list_append PySem.F.type_list_append mt_append (pv 1) (pa_cons (pv 2) pa_nil)))))))
  (pss_one (ps_ret (pe_bm PySem.F.plainAttrs_str PySem.F.slot_str_join PySem.F.type_str_join mt_joinU pe_str (pa_cons (pv 1) pa_nil)))))))
abbrev s_Kind_text : Stmt := inClass (topS 9) 5
theorem sc_Kind_text : FnScope N_Kind_text ["self"] (defScope s_Kind_text) := ⟨rfl, rfl, rfl, by decide +kernel, rfl, by decide +kernel, by decide +kernel⟩
theorem ok_Kind_text {f : Addr} {fd : FuncData} (F : Fun K "text" "Kind.text" s_Kind_text f fd) (T : Txt w K mg κ) (C_text_of : Cal P w K mg base 1 "text_of" ["atoms"] (sp_text_of K κ)) : FnOk P w K mg base (L2.CX P w) 2 f fd ["self"] (sp_Kind_text K κ) := by
  have sc := sc_Kind_text
  refine F.okX sc (fun vs H Q E h => l_Kind_text h) (fun cdv A outer s H vs Q E hr h => ⟨t_Kind_text K κ E, ?_, r_Kind_text K κ  vs H Q E h⟩)
  have tk : Takes (cxOf (L2.CX P w) P w K mg base N_Kind_text "Kind.text" (defScope s_Kind_text) f cdv A outer s H E) (fun cls d _ H => E cls d H) := takes_of rfl rfl rfl rfl
  exact (pss_one (ps_ret (pe_cal C_text_of (hr.mono (by decide)) tk (by rfl) (pa_cons (pe_fldN (fldOk1 T.c_Kind.c T.nf_Kind_kept) (pv 0)) pa_nil))))
abbrev s__law_kind_text : Stmt := topS 12
theorem sc__law_kind_text : FnScope N__law_kind_text ["_law_atoms"] (defScope s__law_kind_text) := ⟨rfl, rfl, rfl, by decide +kernel, rfl, by decide +kernel, by decide +kernel⟩
theorem ok__law_kind_text {f : Addr} {fd : FuncData} (F : Fun K "_law_kind_text" "_law_kind_text" s__law_kind_text f fd) (T : Txt w K mg κ)  : FnOk P w K mg base (L2.CX P w) 1 f fd ["_law_atoms"] (sp__law_kind_text K κ) := by
  have sc := sc__law_kind_text
  refine F.okX sc (fun vs H Q E h => l__law_kind_text h) (fun cdv A outer s H vs Q E hr h => ⟨t__law_kind_text K κ E, ?_, r__law_kind_text K κ  vs H Q E h⟩)
  have tk : Takes (cxOf (L2.CX P w) P w K mg base N__law_kind_text "_law_kind_text" (defScope s__law_kind_text) f cdv A outer s H E) (fun cls d _ H => E cls d H) := takes_of rfl rfl rfl rfl
  exact (pss_cons (ps_if (pt_cmpR (op_eqD hr.units) (pv 0) (pe_lst pa_nil) (nomark _)) (pss_one (ps_ret pe_str)) pss_nil)
  (pss_cons (ps_if (PW.pt (pw_and (pt_cmpR op_inU pe_str (pv 0) (by rfl)) (pw_and1 (pt_cmpR op_inU pe_str (pv 0) (by rfl))))) (pss_one (ps_ret (pe_bm PySem.F.plainAttrs_str PySem.F.slot_str_join PySem.F.type_str_join mt_joinU pe_str (pa_cons (pe_lc (own := [("_law_atom", 1)]) rfl sc.nd (pi_list (pv 0)) (blkOk_by (N := N__law_kind_text) (sc := defScope s__law_kind_text) (by decide +kernel)) (fun _ _ _ _ _ => (pg_name (i := 1) sc.nd rfl (.inl rfl))) (fun _ _ _ _ _ => (pts_one (pt_cmpR op_ne (pv 1) pe_str (nomark _)))) (fun _ _ _ _ _ => (pe_ifExp (pt_cmpR op_eq (pv 1) pe_str (nomark _)) pe_str (pv 1)))) pa_nil)))) pss_nil)
  (pss_one (ps_ret (pe_bm PySem.F.plainAttrs_str PySem.F.slot_str_join PySem.F.type_str_join mt_joinU pe_str (pa_cons (pv 0) pa_nil))))))
abbrev s__law_number : Stmt := topS 13
theorem sc__law_number : FnScope N__law_number ["_law_thing", "_law_is_text"] (defScope s__law_number) := ⟨rfl, rfl, rfl, by decide +kernel, rfl, by decide +kernel, by decide +kernel⟩
theorem ok__law_number {f : Addr} {fd : FuncData} (F : Fun K "_law_number" "_law_number" s__law_number f fd) (T : Txt w K mg κ) (I_Kind___init__ : ICal P w K mg base 3 (κ "Kind") ["self", "atoms"] [] (sp_Kind___init__ K κ)) (K_Kind_parse : KCal P w K mg base 5 (κ "Kind") "parse" ["cls", "text"] (sp_Kind_parse K κ)) : FnOk P w K mg base (L2.CX P w) 6 f fd ["_law_thing", "_law_is_text"] (sp__law_number K κ) := by
  have sc := sc__law_number
  refine F.okX sc (fun vs H Q E h => l__law_number h) (fun cdv A outer s H vs Q E hr h => ⟨t__law_number K κ E, ?_, r__law_number K κ T.x_InvalidKind_InvalidNumber T.x_InvalidKind_InvalidKind T.e_InvalidKind.ic T.k_InvalidKind_NarrowingError T.k_InvalidKind_ValueError vs H Q E h⟩)
  have tk : Takes (cxOf (L2.CX P w) P w K mg base N__law_number "_law_number" (defScope s__law_number) f cdv A outer s H E) (fun cls d _ H => E cls d H) := takes_of rfl rfl rfl rfl
  exact (pss_cons (ps_asg (pe_tup (pa_cons pe_str (pa_cons pe_non (pa_cons pe_bl pa_nil)))) (pg_name (i := 2) sc.nd rfl (.inl rfl)))
  (pss_cons (ps_try_mix rfl rfl tk (fun W pn xe tk own => (pss_one (ps_if (pt_truU (pv 1) (by intro _; rfl)) (pss_one (ps_expr (pe_kcal K_Kind_parse T.c_Kind.rd T.c_Kind.g (hr.mono (by decide)) tk (by rfl) (pa_cons (pv 0) pa_nil)))) (pss_one (ps_expr (pe_ical I_Kind___init__ T.c_Kind.g (hr.mono (by decide)) tk (by rfl) (pa_cons (pv 0) pa_nil))))))) (HdsMix.bare ⟨rfl, by decide, .inl T.e_InvalidNumber.g⟩ (fun a oe cls d pn hz hf => (pss_one (ps_asg (pe_tup (pa_cons pe_str (pa_cons pe_non (pa_cons pe_bl pa_nil)))) (pg_name (i := 2) sc.nd rfl (.inl rfl))))) (HdsMix.named (i := 3) sc.nd rfl rfl ⟨rfl, by decide, .inl T.e_InvalidKind.g⟩ (fun a oe cls d pn hz hf => (pss_one (ps_asg (pe_tup (pa_cons pe_str (pa_cons (pe_xf T.e_InvalidKind.xf T.no_InvalidKind_number hz hf (pv 3)) (pa_cons (pe_andT (pe_callB (call_isX hz hf) (by rfl) T.n_isinstance (by decide +kernel) (pa_cons (pv 3) (pa_cons (pe_glob (by rfl) T.e_NarrowingError.g rfl) pa_nil))) (pe_one (pe_callB (call_isX hz hf) (by rfl) T.n_isinstance (by decide +kernel) (pa_cons (pv 3) (pa_cons (pe_bltn (by rfl) T.n_ValueError (by decide +kernel) rfl) pa_nil))))) pa_nil)))) (pg_name (i := 2) sc.nd rfl (.inl rfl))))) HdsMix.nil)))
  (pss_cons (ps_if (PW.pt (pw_or (pt_not (pt_truU (pe_ix ix_seq (pv 2) pe_int (fun _ _ => rfl)) (by intro _; rfl))) (pw_or1 (pt_truU (pe_callB call_isiU (by rfl) T.n_isinstance (by decide +kernel) (pa_cons (pe_ix ix_seq (pv 2) pe_int (fun _ _ => rfl)) (pa_cons (pe_bltn (by rfl) T.n_bool (by decide +kernel) rfl) pa_nil))) (by intro _; rfl))))) (pss_one (ps_ret pe_str)) pss_nil)
  (pss_one (ps_ret (pe_ix ix_seq (pv 2) pe_int (fun _ _ => rfl)))))))
abbrev s__law_taken : Stmt := topS 11
theorem sc__law_taken : FnScope N__law_taken ["_law_row", "_law_many"] (defScope s__law_taken) := ⟨rfl, rfl, rfl, by decide +kernel, rfl, by decide +kernel, by decide +kernel⟩
theorem ok__law_taken {f : Addr} {fd : FuncData} (F : Fun K "_law_taken" "_law_taken" s__law_taken f fd) (T : Txt w K mg κ)  : FnOk P w K mg base (L2.CX P w) 1 f fd ["_law_row", "_law_many"] (sp__law_taken K κ) := by
  have sc := sc__law_taken
  refine F.okX sc (fun vs H Q E h => l__law_taken h) (fun cdv A outer s H vs Q E hr h => ⟨t__law_taken K κ E, ?_, r__law_taken K κ  vs H Q E h⟩)
  have tk : Takes (cxOf (L2.CX P w) P w K mg base N__law_taken "_law_taken" (defScope s__law_taken) f cdv A outer s H E) (fun cls d _ H => E cls d H) := takes_of rfl rfl rfl rfl
  exact (pss_cons (ps_if (pt_cmpR op_gtU (pe_ix ix_seq (pv 0) pe_int (fun _ _ => rfl)) pe_int (nomark _)) (pss_cons (ps_asg (pe_op op_modU (pe_callTy call_intU (by rfl) T.n_int (by decide +kernel) (pa_cons (pe_ix ix_seq (pv 0) pe_int (fun _ _ => rfl)) pa_nil)) (pv 1)) (pg_name (i := 2) sc.nd rfl (.inl rfl)))
  (pss_cons (ps_asg (pe_op op_fdivU (pe_ix ix_seq (pv 0) pe_int (fun _ _ => rfl)) (pv 1)) (pg_sub (pv 0) pe_int set_list))
  (pss_one (ps_ret (pv 2))))) pss_nil)
  (pss_cons (ps_asg (pe_op op_addU (pe_ix ix_seq (pv 0) pe_int (fun _ _ => rfl)) pe_int) (pg_sub (pv 0) pe_int set_list))
  (pss_cons (ps_if (pt_cmpR op_gtU (pe_ix ix_seq (pv 0) pe_int (fun _ _ => rfl)) (pe_callB call_lenU (by rfl) T.n_len (by decide +kernel) (pa_cons (pe_ix ix_seq (pv 0) pe_int (fun _ _ => rfl)) pa_nil)) (nomark _)) (pss_cons (ps_asg (pe_op op_modU (pe_callTy call_intU (by rfl) T.n_int (by decide +kernel) (pa_cons (pe_op op_addU (pe_op op_mulU (pe_ix ix_seq (pv 0) pe_int (fun _ _ => rfl)) pe_int) pe_int) pa_nil)) pe_int) (pg_sub (pv 0) pe_int set_list))
  (pss_one (ps_ret (pe_op op_modU (pe_callTy call_intU (by rfl) T.n_int (by decide +kernel) (pa_cons (pe_op op_fdivU (pe_ix ix_seq (pv 0) pe_int (fun _ _ => rfl)) pe_int) pa_nil)) (pv 1))))) pss_nil)
  (pss_cons (ps_asg (pe_ix ix_seq (pe_ix ix_seq (pv 0) pe_int (fun _ _ => rfl)) (pe_op op_subU (pe_ix ix_seq (pv 0) pe_int (fun _ _ => rfl)) pe_int) (fun _ _ => rfl)) (pg_name (i := 3) sc.nd rfl (.inl rfl)))
  (pss_cons (ps_asg (pe_op op_modU (pe_callTy call_intU (by rfl) T.n_int (by decide +kernel) (pa_cons (pe_op op_addU (pe_op op_addU (pe_op op_mulU (pe_ix ix_seq (pv 0) pe_int (fun _ _ => rfl)) pe_int) (pv 3)) pe_int) pa_nil)) pe_int) (pg_sub (pv 0) pe_int set_list))
  (pss_cons (ps_if (pt_cmpR op_geU (pv 3) (pe_op op_powU pe_int pe_int) (nomark _)) (pss_one (ps_asg (pe_op op_fdivU (pv 3) (pv 1)) (pg_sub (pv 0) pe_int set_list))) pss_nil)
  (pss_one (ps_ret (pe_op op_modU (pe_callTy call_intU (by rfl) T.n_int (by decide +kernel) (pa_cons (pv 3) pa_nil)) (pv 1))))))))))
abbrev s_law : Stmt := topS 14
theorem sc_law : FnScope N_law ["_law_script"] (defScope s_law) := ⟨rfl, rfl, rfl, by decide +kernel, rfl, by decide +kernel, by decide +kernel⟩
theorem ok_law {f : Addr} {fd : FuncData} (F : Fun K "law" "law" s_law f fd) (T : Txt w K mg κ) (M_Kind___bool__ : MCal P w K mg base 1 (κ "Kind") "__bool__" ["self"] [] (sp_Kind___bool__ K κ)) (M_Kind___eq__ : MCal P w K mg base 1 (κ "Kind") "__eq__" ["self", "other"] [] (sp_Kind___eq__ K κ)) (I_Kind___init__ : ICal P w K mg base 3 (κ "Kind") ["self", "atoms"] [] (sp_Kind___init__ K κ)) (M_Kind___len__ : MCal P w K mg base 1 (κ "Kind") "__len__" ["self"] [] (sp_Kind___len__ K κ)) (P_Kind_atoms : PCal P w K mg base 1 (κ "Kind") "atoms" ["self"] (sp_Kind_atoms K κ)) (K_Kind_parse : KCal P w K mg base 5 (κ "Kind") "parse" ["cls", "text"] (sp_Kind_parse K κ)) (P_Kind_text : PCal P w K mg base 2 (κ "Kind") "text" ["self"] (sp_Kind_text K κ)) (C__law_kind_text : Cal P w K mg base 1 "_law_kind_text" ["_law_atoms"] (sp__law_kind_text K κ)) (C__law_number : Cal P w K mg base 6 "_law_number" ["_law_thing", "_law_is_text"] (sp__law_number K κ)) (C__law_taken : Cal P w K mg base 1 "_law_taken" ["_law_row", "_law_many"] (sp__law_taken K κ)) : FnOk P w K mg base (L2.CX P w) 7 f fd ["_law_script"] (sp_law K κ) := by
  have sc := sc_law
  refine F.okX sc (fun vs H Q E h => l_law h) (fun cdv A outer s H vs Q E hr h => ⟨t_law K κ E, ?_, r_law K κ  vs H Q E h⟩)
  have tk : Takes (cxOf (L2.CX P w) P w K mg base N_law "law" (defScope s_law) f cdv A outer s H E) (fun cls d _ H => E cls d H) := takes_of rfl rfl rfl rfl
  exact (pss_cons (ps_asg (pe_lst (pa_cons (pv 0) (pa_cons pe_int (pa_cons pe_int (pa_cons pe_int pa_nil))))) (pg_name (i := 1) sc.nd rfl (.inr rfl)))
  (pss_cons (ps_asg (pe_lst (pa_cons pe_str (pa_cons pe_str (pa_cons pe_str (pa_cons pe_str (pa_cons pe_str (pa_cons pe_str pa_nil))))))) (pg_name (i := 2) sc.nd rfl (.inr rfl)))
  (pss_cons (ps_for (passes_of rfl) rfl (pi_range1 (by rfl) T.n_range (pa_cons pe_int pa_nil)) (pg_name (i := 3) sc.nd rfl (.inl rfl)) (pss_cons (ps_asg (pe_lc (own := [("_law_k", 14)]) rfl sc.nd (pi_range1 (by rfl) T.n_range (pa_cons (pe_op op_addU pe_int (pe_cal C__law_taken (hr.mono (by decide)) tk (by rfl) (pa_cons (pv 1) (pa_cons pe_int pa_nil)))) pa_nil)) (blkOk_by (N := N_law) (sc := defScope s_law) (by decide +kernel)) (fun _ _ _ _ _ => (pg_name (i := 14) sc.nd rfl (.inl rfl))) (fun _ _ _ _ _ => pts_nil) (fun _ _ _ _ _ => (pe_ix ix_seq (pv 2) (pe_cal C__law_taken (hr.mono (by decide)) tkN (by rfl) (pa_cons (pv 1) (pa_cons pe_int pa_nil))) (fun _ _ => rfl)))) (pg_name (i := 4) sc.nd rfl (.inr rfl)))
  (pss_cons (ps_setLc (i := 5) (own := [("_law_atom", 15)]) rfl sc.nd rfl rfl (sw_true rfl rfl rfl (by decide +kernel)) (pi_list (pe_lst (pa_cons pe_str (pa_cons pe_str (pa_cons pe_str (pa_cons pe_str (pa_cons pe_str pa_nil))))))) (blkOk_by (N := N_law) (sc := defScope s_law) (by decide +kernel)) (fun _ _ _ _ _ => (pg_name (i := 15) sc.nd rfl (.inl rfl))) (fun _ _ _ _ _ => (pts_one (pt_cmpR op_inU (pv 15) (pv 4) (by rfl)))) (fun _ _ _ _ _ => (pv 15)))
  (pss_cons (ps_if (pt_cmpR op_inU pe_str (pv 4) (by rfl)) (pss_one (ps_setLc (i := 5) (own := [("_law_atom", 15)]) rfl sc.nd rfl rfl (sw_true rfl rfl rfl (by decide +kernel)) (pi_list (pe_lst (pa_cons pe_str (pa_cons pe_str (pa_cons pe_str (pa_cons pe_str (pa_cons pe_str pa_nil))))))) (blkOk_by (N := N_law) (sc := defScope s_law) (by decide +kernel)) (fun _ _ _ _ _ => (pg_name (i := 15) sc.nd rfl (.inl rfl))) (fun _ _ _ _ _ => (pts_one (pt_cmpR op_inU (pv 15) (pe_op op_addU (pv 4) (pe_lst (pa_cons pe_str (pa_cons pe_str pa_nil)))) (by rfl)))) (fun _ _ _ _ _ => (pv 15)))) pss_nil)
  (pss_cons (ps_for (passes_of rfl) rfl (pi_range1 (by rfl) T.n_range (pa_cons pe_int pa_nil)) (pg_name (i := 6) sc.nd rfl (.inl rfl)) (pss_cons (ps_asg (pe_kcal K_Kind_parse T.c_Kind.rd T.c_Kind.g (hr.mono (by decide)) tk (by rfl) (pa_cons (pe_bm PySem.F.plainAttrs_str PySem.F.slot_str_join PySem.F.type_str_join mt_joinU pe_str (pa_cons (pv 4) pa_nil)) pa_nil)) (pg_name (i := 7) sc.nd rfl (.inl rfl)))
  (pss_cons (ps_if (PW.pt (pw_or (pt_cmpR (op_neD hr.units) (pe_callTy call_listU (by rfl) T.n_list (by decide +kernel) (pa_cons (pe_pcal P_Kind_atoms T.c_Kind.c (hr.mono (by decide)) (pv 7)) pa_nil)) (pv 5) (nomark _)) (pw_or (pt_cmpR op_ne (pe_pcal P_Kind_text T.c_Kind.c (hr.mono (by decide)) (pv 7)) (pe_cal C__law_kind_text (hr.mono (by decide)) tk (by rfl) (pa_cons (pv 5) pa_nil)) (nomark _)) (pw_or1 (pt_not (pt_truU (pe_callB call_isiU (by rfl) T.n_isinstance (by decide +kernel) (pa_cons (pe_pcal P_Kind_text T.c_Kind.c (hr.mono (by decide)) (pv 7)) (pa_cons (pe_bltn (by rfl) T.n_str (by decide +kernel) rfl) pa_nil))) (by intro _; rfl))))))) (pss_one (ps_ret pe_bl)) pss_nil)
  (pss_one (ps_if (PW.pt (pw_or (pt_cmpR (op_ownNe M_Kind___eq__ T.ne_Kind T.ob_Kind (hr.mono (by decide))) (pe_kcal K_Kind_parse T.c_Kind.rd T.c_Kind.g (hr.mono (by decide)) tk (by rfl) (pa_cons (pe_pcal P_Kind_text T.c_Kind.c (hr.mono (by decide)) (pv 7)) pa_nil)) (pv 7) (nomark _)) (pw_or (pt_cmpR op_ne (pe_pcal P_Kind_text T.c_Kind.c (hr.mono (by decide)) (pe_ical I_Kind___init__ T.c_Kind.g (hr.mono (by decide)) tk (by rfl) (pa_cons (pv 5) pa_nil))) (pe_pcal P_Kind_text T.c_Kind.c (hr.mono (by decide)) (pv 7)) (nomark _)) (pw_or1 (pt_cmpR op_ne (pe_callB (call_ownLen M_Kind___len__ (hr.mono (by decide))) (by rfl) T.n_len (by decide +kernel) (pa_cons (pv 7) pa_nil)) (pe_callB call_lenU (by rfl) T.n_len (by decide +kernel) (pa_cons (pv 5) pa_nil)) (nomark _)))))) (pss_one (ps_ret pe_bl)) pss_nil)))))
  (pss_cons (ps_asg (pe_cal C__law_taken (hr.mono (by decide)) tk (by rfl) (pa_cons (pv 1) (pa_cons (pe_op op_addU (pe_callB call_lenU (by rfl) T.n_len (by decide +kernel) (pa_cons (pv 4) pa_nil)) pe_int) pa_nil))) (pg_name (i := 8) sc.nd rfl (.inl rfl)))
  (pss_cons (ps_asg (pe_ix ix_seq (pe_lst (pa_cons pe_str (pa_cons pe_str (pa_cons pe_str (pa_cons pe_str (pa_cons pe_str (pa_cons pe_str (pa_cons pe_str (pa_cons pe_str (pa_cons pe_str pa_nil)))))))))) (pe_cal C__law_taken (hr.mono (by decide)) tk (by rfl) (pa_cons (pv 1) (pa_cons pe_int pa_nil))) (fun _ _ => rfl)) (pg_name (i := 9) sc.nd rfl (.inl rfl)))
  (pss_cons (ps_asg (pe_ifExp (pt_cmpR op_eq (pv 9) pe_str (nomark _)) (pe_op op_addU (pv 8) pe_int) (pe_op op_addU (pv 8) pe_int)) (pg_name (i := 10) sc.nd rfl (.inl rfl)))
  (pss_cons (ps_if (pt_cmpR op_ne (pe_cal C__law_number (hr.mono (by decide)) tk (by rfl) (pa_cons (pe_bm PySem.F.plainAttrs_str PySem.F.slot_str_join PySem.F.type_str_join mt_joinU pe_str (pa_cons (pe_op op_addU (pe_op op_addU (pe_slice sl_U (pv 4) po_none (po_some (pv 8))) (pe_lst (pa_cons (pv 9) pa_nil))) (pe_slice sl_U (pv 4) (po_some (pv 8)) po_none)) pa_nil)) (pa_cons pe_bl pa_nil))) (pv 10) (nomark _)) (pss_one (ps_ret pe_bl)) pss_nil)
  (pss_cons (ps_setLc (i := 11) (own := [("_law_word", 16)]) rfl sc.nd rfl rfl (sw_true rfl rfl rfl (by decide +kernel)) (pi_list (pv 4)) (blkOk_by (N := N_law) (sc := defScope s_law) (by decide +kernel)) (fun _ _ _ _ _ => (pg_name (i := 16) sc.nd rfl (.inl rfl))) (fun _ _ _ _ _ => (pts_one (pt_cmpR op_ne (pv 16) pe_str (nomark _)))) (fun _ _ _ _ _ => (pv 16)))
  (pss_cons (ps_asg (pe_cal C__law_taken (hr.mono (by decide)) tk (by rfl) (pa_cons (pv 1) (pa_cons (pe_op op_addU (pe_callB call_lenU (by rfl) T.n_len (by decide +kernel) (pa_cons (pv 11) pa_nil)) pe_int) pa_nil))) (pg_name (i := 8) sc.nd rfl (.inl rfl)))
  (pss_cons (ps_asg (pe_ix ix_seq (pe_lst (pa_cons pe_str (pa_cons pe_str (pa_cons pe_non (pa_cons pe_bl (pa_cons pe_int (pa_cons (pe_lst (pa_cons pe_str pa_nil)) (pa_cons pe_str (pa_cons pe_str (pa_cons (pe_tup (pa_cons pe_str pa_nil)) pa_nil)))))))))) (pe_cal C__law_taken (hr.mono (by decide)) tk (by rfl) (pa_cons (pv 1) (pa_cons pe_int pa_nil))) (fun _ _ => rfl)) (pg_name (i := 12) sc.nd rfl (.inl rfl)))
  (pss_cons (ps_if (pt_cmpR op_ne (pe_cal C__law_number (hr.mono (by decide)) tk (by rfl) (pa_cons (pe_op op_addU (pe_op op_addU (pe_slice sl_U (pv 11) po_none (po_some (pv 8))) (pe_lst (pa_cons (pv 12) pa_nil))) (pe_slice sl_U (pv 11) (po_some (pv 8)) po_none)) (pa_cons pe_bl pa_nil))) (pe_op op_addU (pv 8) pe_int) (nomark _)) (pss_one (ps_ret pe_bl)) pss_nil)
  (pss_one (ps_if (PW.pt (pw_or (pt_cmpR op_ne (pe_cal C__law_number (hr.mono (by decide)) tk (by rfl) (pa_cons (pe_callTy call_tupleU (by rfl) T.n_tuple (by decide +kernel) (pa_cons (pe_op op_addU (pe_slice sl_U (pv 11) po_none (po_some (pv 8))) (pe_lst (pa_cons (pv 12) (pa_cons (pv 12) pa_nil)))) pa_nil)) (pa_cons pe_bl pa_nil))) (pe_op op_addU (pv 8) pe_int) (nomark _)) (pw_or1 (pt_cmpR op_notN1 (pe_cal C__law_number (hr.mono (by decide)) tk (by rfl) (pa_cons (pv 11) (pa_cons pe_bl pa_nil))) pe_non (nomark _))))) (pss_one (ps_ret pe_bl)) pss_nil)))))))))))))))
  (pss_cons (ps_for (passes_of rfl) rfl (pi_list (pe_lst (pa_cons pe_non (pa_cons pe_int (pa_cons pe_bl (pa_cons (pe_lst (pa_cons pe_str pa_nil)) (pa_cons (pe_tup (pa_cons pe_str pa_nil)) pa_nil))))))) (pg_name (i := 12) sc.nd rfl (.inl rfl)) (pss_one (ps_if (pt_cmpR op_ne (pe_cal C__law_number (hr.mono (by decide)) tk (by rfl) (pa_cons (pv 12) (pa_cons pe_bl pa_nil))) pe_int (nomark _)) (pss_one (ps_ret pe_bl)) pss_nil)))
  (pss_cons (ps_asg (pe_kcal K_Kind_parse T.c_Kind.rd T.c_Kind.g (hr.mono (by decide)) tk (by rfl) (pa_cons pe_str pa_nil)) (pg_name (i := 13) sc.nd rfl (.inl rfl)))
  (pss_one (ps_ret (pe_andT (pe_cmpR (op_eqD hr.units) (pe_pcal P_Kind_atoms T.c_Kind.c (hr.mono (by decide)) (pv 13)) (pe_tup pa_nil) (nomark _)) (pe_andT (pe_cmpR op_eq (pe_pcal P_Kind_text T.c_Kind.c (hr.mono (by decide)) (pv 13)) pe_str (nomark _)) (pe_andT (pe_cmpR op_eq (pe_cal C__law_number (hr.mono (by decide)) tk (by rfl) (pa_cons pe_str (pa_cons pe_bl pa_nil))) pe_int (nomark _)) (pe_one (pe_notOwn M_Kind___bool__ (hr.mono (by decide)) (pv 13)))))))))))))
end
def kap (c_NarrowingError : Addr) (c_InvalidNumber : Addr) (c_InvalidKind : Addr) (c_Kind : Addr) (t_Kind_ATOMS : Addr) (e_Kind___init___1 : Addr) (d_WORDS : Addr) (dv_WORDS_null : Addr) (dv_WORDS_false : Addr) (dv_WORDS_true : Addr) (dv_WORDS_bool : Addr) (dv_WORDS_int : Addr) (dv_WORDS_text : Addr) : Kap := fun s => if s = "NarrowingError" then c_NarrowingError else if s = "InvalidNumber" then c_InvalidNumber else if s = "InvalidKind" then c_InvalidKind else if s = "Kind" then c_Kind else if s = "Kind.ATOMS" then t_Kind_ATOMS else if s = "Kind___init__.1" then e_Kind___init___1 else if s = "WORDS" then d_WORDS else if s = "WORDS.null" then dv_WORDS_null else if s = "WORDS.false" then dv_WORDS_false else if s = "WORDS.true" then dv_WORDS_true else if s = "WORDS.bool" then dv_WORDS_bool else if s = "WORDS.int" then dv_WORDS_int else if s = "WORDS.text" then dv_WORDS_text else 0
theorem all_mk {P : Program} {w : World} {K : PySem.W.Frag} {h : Heap} {mg : Str → Option Value} {fa : Addr} (X : K.In h) (G : h.Ns mainGlobals mg) (hfa : mg "law" = some (.ref fa))
    {c_NarrowingError N_NarrowingError : Addr} {nm_NarrowingError q_NarrowingError : Str} {bs_NarrowingError sub_NarrowingError : List Value} {sn_NarrowingError : List Str} {ab_NarrowingError : Bool} {col_NarrowingError : Option Bool} {dd_NarrowingError : Option Addr} {m0_NarrowingError m1_NarrowingError m2_NarrowingError m3_NarrowingError m5_NarrowingError : Option Value}
    {c_InvalidNumber N_InvalidNumber : Addr} {nm_InvalidNumber q_InvalidNumber : Str} {bs_InvalidNumber sub_InvalidNumber : List Value} {sn_InvalidNumber : List Str} {ab_InvalidNumber : Bool} {col_InvalidNumber : Option Bool} {dd_InvalidNumber : Option Addr} {m0_InvalidNumber m1_InvalidNumber m2_InvalidNumber m3_InvalidNumber m5_InvalidNumber : Option Value}
    {c_InvalidKind N_InvalidKind : Addr} {nm_InvalidKind q_InvalidKind : Str} {bs_InvalidKind sub_InvalidKind : List Value} {sn_InvalidKind : List Str} {ab_InvalidKind : Bool} {col_InvalidKind : Option Bool} {dd_InvalidKind : Option Addr} {m0_InvalidKind m1_InvalidKind m2_InvalidKind m3_InvalidKind m5_InvalidKind : Option Value}
    {c_Kind : Addr}
    (aC_NarrowingError : PySem.W.nsIn K mainGlobals "NarrowingError" = some (some (.ref c_NarrowingError)))
    (xL_NarrowingError : K.lookup c_NarrowingError = some (excClassObj nm_NarrowingError q_NarrowingError c_NarrowingError N_NarrowingError bs_NarrowingError [.type "ValueError", .type "Exception", .type "BaseException", .type "object"] true sn_NarrowingError sub_NarrowingError ab_NarrowingError col_NarrowingError dd_NarrowingError m0_NarrowingError m1_NarrowingError m2_NarrowingError m3_NarrowingError m5_NarrowingError "ValueError.__new__"))
    (sa_NarrowingError : PySem.W.findIn K (.ref c_NarrowingError) "__setattr__" = some (some (.builtin "object.__setattr__")))
    (ga_NarrowingError : PySem.W.findIn K (.ref c_NarrowingError) "__getattribute__" = some (some (.builtin "BaseException.__getattribute__")))
    (gg_NarrowingError : PySem.W.findIn K (.ref c_NarrowingError) "__getattr__" = some none)
    (eC_NarrowingError : PySem.W.subIn K (.ref c_NarrowingError) (.type "BaseException") = some true)
    (tC_NarrowingError : PySem.W.typeIn K (.ref c_NarrowingError) = some (.type "type"))
    (kC_NarrowingError : PySem.W.keepIn K (.ref c_NarrowingError) = true)
    (hC_NarrowingError : PySem.W.hasDictIn K c_NarrowingError = true)
    (ca_NarrowingError : PySem.W.findIn K (.ref c_NarrowingError) "__class__" = some (some (.builtin "object.__class__")))
    (mo_NarrowingError : PySem.W.mroIn K c_NarrowingError (.type "object") = some true)
    (aC_InvalidNumber : PySem.W.nsIn K mainGlobals "InvalidNumber" = some (some (.ref c_InvalidNumber)))
    (xL_InvalidNumber : K.lookup c_InvalidNumber = some (excClassObj nm_InvalidNumber q_InvalidNumber c_InvalidNumber N_InvalidNumber bs_InvalidNumber [.ref c_NarrowingError, .type "ValueError", .type "Exception", .type "BaseException", .type "object"] true sn_InvalidNumber sub_InvalidNumber ab_InvalidNumber col_InvalidNumber dd_InvalidNumber m0_InvalidNumber m1_InvalidNumber m2_InvalidNumber m3_InvalidNumber m5_InvalidNumber "ValueError.__new__"))
    (sa_InvalidNumber : PySem.W.findIn K (.ref c_InvalidNumber) "__setattr__" = some (some (.builtin "object.__setattr__")))
    (ga_InvalidNumber : PySem.W.findIn K (.ref c_InvalidNumber) "__getattribute__" = some (some (.builtin "BaseException.__getattribute__")))
    (gg_InvalidNumber : PySem.W.findIn K (.ref c_InvalidNumber) "__getattr__" = some none)
    (eC_InvalidNumber : PySem.W.subIn K (.ref c_InvalidNumber) (.type "BaseException") = some true)
    (tC_InvalidNumber : PySem.W.typeIn K (.ref c_InvalidNumber) = some (.type "type"))
    (kC_InvalidNumber : PySem.W.keepIn K (.ref c_InvalidNumber) = true)
    (hC_InvalidNumber : PySem.W.hasDictIn K c_InvalidNumber = true)
    (ca_InvalidNumber : PySem.W.findIn K (.ref c_InvalidNumber) "__class__" = some (some (.builtin "object.__class__")))
    (mo_InvalidNumber : PySem.W.mroIn K c_InvalidNumber (.type "object") = some true)
    (aC_InvalidKind : PySem.W.nsIn K mainGlobals "InvalidKind" = some (some (.ref c_InvalidKind)))
    (xL_InvalidKind : K.lookup c_InvalidKind = some (excClassObj nm_InvalidKind q_InvalidKind c_InvalidKind N_InvalidKind bs_InvalidKind [.ref c_NarrowingError, .type "ValueError", .type "Exception", .type "BaseException", .type "object"] true sn_InvalidKind sub_InvalidKind ab_InvalidKind col_InvalidKind dd_InvalidKind m0_InvalidKind m1_InvalidKind m2_InvalidKind m3_InvalidKind m5_InvalidKind "ValueError.__new__"))
    (sa_InvalidKind : PySem.W.findIn K (.ref c_InvalidKind) "__setattr__" = some (some (.builtin "object.__setattr__")))
    (ga_InvalidKind : PySem.W.findIn K (.ref c_InvalidKind) "__getattribute__" = some (some (.builtin "BaseException.__getattribute__")))
    (gg_InvalidKind : PySem.W.findIn K (.ref c_InvalidKind) "__getattr__" = some none)
    (eC_InvalidKind : PySem.W.subIn K (.ref c_InvalidKind) (.type "BaseException") = some true)
    (tC_InvalidKind : PySem.W.typeIn K (.ref c_InvalidKind) = some (.type "type"))
    (kC_InvalidKind : PySem.W.keepIn K (.ref c_InvalidKind) = true)
    (hC_InvalidKind : PySem.W.hasDictIn K c_InvalidKind = true)
    (ca_InvalidKind : PySem.W.findIn K (.ref c_InvalidKind) "__class__" = some (some (.builtin "object.__class__")))
    (mo_InvalidKind : PySem.W.mroIn K c_InvalidKind (.type "object") = some true)
    (aC_Kind : PySem.W.nsIn K mainGlobals "Kind" = some (some (.ref c_Kind)))
    (pg_Kind : PySem.W.plainGet K c_Kind Str.empty = true)
    (hC_Kind : PySem.W.hasDictIn K c_Kind = true)
    (po_Kind : PySem.W.plainOver K c_Kind = true)
    (sa_Kind : PySem.W.findIn K (.ref c_Kind) "__setattr__" = some (some (.builtin "object.__setattr__")))
    (ca_Kind : PySem.W.findIn K (.ref c_Kind) "__class__" = some (some (.builtin "object.__class__")))
    (mo_Kind : PySem.W.mroIn K c_Kind (.type "object") = some true)
    (rd_Kind : PySem.W.readsIn K c_Kind (.type "type") = true)
    (ga_Kind : PySem.W.specialIn K (.ref c_Kind) "__getattribute__" = some (some (.builtin "type.__getattribute__")))
    (tC_Kind : PySem.W.typeIn K (.ref c_Kind) = some (.type "type"))
    (sf_Kind : PySem.W.selfFirst K c_Kind = true)
    (kC_Kind : PySem.W.keepIn K (.ref c_Kind) = true)
    (mk_Kind : PySem.W.makesIn K c_Kind = true)
    (cg : PySem.W.specialIn K (.builtin "object.__class__") "__get__" = some (some (.builtin "getset_descriptor.__get__")))
    (ct : PySem.W.takesIn K (.builtin "object.__class__") = some true)
    (bs_NarrowingError_s : PySem.W.specialIn K (.ref c_NarrowingError) "__getattribute__" = some (some (.builtin "type.__getattribute__")))
    (bs_NarrowingError_r : PySem.W.readsIn K c_NarrowingError (.type "type") = true)
    (bs_NarrowingError_v : PySem.W.findCls K (.ref c_NarrowingError) (.type "type") "__init__" = some (.val (.builtin "ValueError.__init__")))
    (no_InvalidKind_number : PySem.W.findIn K (.ref c_InvalidKind) "number" = some none)
    (nf_Kind_kept : PySem.W.findIn K (.ref c_Kind) "kept" = some none)
    (su_InvalidKind_InvalidKind : PySem.W.subIn K (.ref c_InvalidKind) (.ref c_InvalidKind) = some true)
    (su_InvalidKind_InvalidNumber : PySem.W.subIn K (.ref c_InvalidKind) (.ref c_InvalidNumber) = some false)
    (ki_InvalidKind_NarrowingError : PySem.W.subIn K (.ref c_InvalidKind) (.ref c_NarrowingError) = some true)
    (ki_InvalidKind_ValueError : PySem.W.subIn K (.ref c_InvalidKind) (.type "ValueError") = some true)
    {t_Kind_ATOMS : Addr} {tl_Kind_ATOMS_d : Option Addr} {tl_Kind_ATOMS_n : Nat} {tl_Kind_ATOMS_s : Array (Option Value)} {tl_Kind_ATOMS_k0 : Tok} {tl_Kind_ATOMS_k1 : Tok} {tl_Kind_ATOMS_k2 : Tok} {tl_Kind_ATOMS_k3 : Tok} {tl_Kind_ATOMS_k4 : Tok}
    (vc_Kind_ATOMS : PySem.W.findCls K (.ref c_Kind) (.type "type") "ATOMS" = some (.val (.ref t_Kind_ATOMS)))
    (tl_Kind_ATOMS : K.lookup t_Kind_ATOMS = some ⟨.type "tuple", tl_Kind_ATOMS_d, .seq #[.str "null" tl_Kind_ATOMS_k0, .str "false" tl_Kind_ATOMS_k1, .str "true" tl_Kind_ATOMS_k2, .str "int" tl_Kind_ATOMS_k3, .str "text" tl_Kind_ATOMS_k4] tl_Kind_ATOMS_n, tl_Kind_ATOMS_s⟩)
    (nt_Kind_NoneType : PySem.W.subIn K (.type "NoneType") (.ref c_Kind) = some false)
    (nt_Kind_bool : PySem.W.subIn K (.type "bool") (.ref c_Kind) = some false)
    (nt_Kind_int : PySem.W.subIn K (.type "int") (.ref c_Kind) = some false)
    (nt_Kind_str : PySem.W.subIn K (.type "str") (.ref c_Kind) = some false)
    (nt_Kind_list : PySem.W.subIn K (.type "list") (.ref c_Kind) = some false)
    (nt_Kind_tuple : PySem.W.subIn K (.type "tuple") (.ref c_Kind) = some false)
    (nt_Kind_dict : PySem.W.subIn K (.type "dict") (.ref c_Kind) = some false)
    (ne_Kind : PySem.W.findIn K (.ref c_Kind) "__ne__" = some (some (.builtin "object.__ne__")))
    (ob_Kind : PySem.W.subIn K (.ref c_Kind) (.type "object") = some true)
    {d_WORDS : Addr} {dn_WORDS : Nat} {dt_WORDS_null dt_WORDS_false dt_WORDS_true dt_WORDS_bool dt_WORDS_int dt_WORDS_text : Tok} {dv_WORDS_null dv_WORDS_false dv_WORDS_true dv_WORDS_bool dv_WORDS_int dv_WORDS_text : Addr}
    (v_WORDS : PySem.W.nsIn K mainGlobals "WORDS" = some (some (.ref d_WORDS)))
    (vl_WORDS : K.lookup d_WORDS = some ⟨.type "dict", none, .dict #[⟨PyData.keyHash w.params "null", .str "null" dt_WORDS_null, .ref dv_WORDS_null⟩, ⟨PyData.keyHash w.params "false", .str "false" dt_WORDS_false, .ref dv_WORDS_false⟩, ⟨PyData.keyHash w.params "true", .str "true" dt_WORDS_true, .ref dv_WORDS_true⟩, ⟨PyData.keyHash w.params "bool", .str "bool" dt_WORDS_bool, .ref dv_WORDS_bool⟩, ⟨PyData.keyHash w.params "int", .str "int" dt_WORDS_int, .ref dv_WORDS_int⟩, ⟨PyData.keyHash w.params "text", .str "text" dt_WORDS_text, .ref dv_WORDS_text⟩] dn_WORDS, #[]⟩)
    (vs_WORDS : (d_WORDS == sysModules) = false)
    {dl_WORDS_null_d : Option Addr} {dl_WORDS_null_n : Nat} {dl_WORDS_null_s : Array (Option Value)} {dl_WORDS_null_k0 : Tok}
    (dl_WORDS_null : K.lookup dv_WORDS_null = some ⟨.type "tuple", dl_WORDS_null_d, .seq #[.str "null" dl_WORDS_null_k0] dl_WORDS_null_n, dl_WORDS_null_s⟩)
    {dl_WORDS_false_d : Option Addr} {dl_WORDS_false_n : Nat} {dl_WORDS_false_s : Array (Option Value)} {dl_WORDS_false_k0 : Tok}
    (dl_WORDS_false : K.lookup dv_WORDS_false = some ⟨.type "tuple", dl_WORDS_false_d, .seq #[.str "false" dl_WORDS_false_k0] dl_WORDS_false_n, dl_WORDS_false_s⟩)
    {dl_WORDS_true_d : Option Addr} {dl_WORDS_true_n : Nat} {dl_WORDS_true_s : Array (Option Value)} {dl_WORDS_true_k0 : Tok}
    (dl_WORDS_true : K.lookup dv_WORDS_true = some ⟨.type "tuple", dl_WORDS_true_d, .seq #[.str "true" dl_WORDS_true_k0] dl_WORDS_true_n, dl_WORDS_true_s⟩)
    {dl_WORDS_bool_d : Option Addr} {dl_WORDS_bool_n : Nat} {dl_WORDS_bool_s : Array (Option Value)} {dl_WORDS_bool_k0 : Tok} {dl_WORDS_bool_k1 : Tok}
    (dl_WORDS_bool : K.lookup dv_WORDS_bool = some ⟨.type "tuple", dl_WORDS_bool_d, .seq #[.str "false" dl_WORDS_bool_k0, .str "true" dl_WORDS_bool_k1] dl_WORDS_bool_n, dl_WORDS_bool_s⟩)
    {dl_WORDS_int_d : Option Addr} {dl_WORDS_int_n : Nat} {dl_WORDS_int_s : Array (Option Value)} {dl_WORDS_int_k0 : Tok}
    (dl_WORDS_int : K.lookup dv_WORDS_int = some ⟨.type "tuple", dl_WORDS_int_d, .seq #[.str "int" dl_WORDS_int_k0] dl_WORDS_int_n, dl_WORDS_int_s⟩)
    {dl_WORDS_text_d : Option Addr} {dl_WORDS_text_n : Nat} {dl_WORDS_text_s : Array (Option Value)} {dl_WORDS_text_k0 : Tok}
    (dl_WORDS_text : K.lookup dv_WORDS_text = some ⟨.type "tuple", dl_WORDS_text_d, .seq #[.str "text" dl_WORDS_text_k0] dl_WORDS_text_n, dl_WORDS_text_s⟩)
    {e_Kind___init___1 : Addr}
    {f0 : Addr} {od0 an0 : Option Addr} {sl0 : Array (Option Value)} {oc0 kV0 dc0 pm0 cd0 ct0 : Value}
    (a0 : PySem.W.findIn K (.ref c_Kind) "__bool__" = some (some (.ref f0)))
    (y0 : PySem.W.isFn K (.ref f0) = true)
    (l0 : K.lookup f0 = some ⟨oc0, od0, .func (PySem.W.fnOf "__bool__" "Kind.__bool__" (defArgs s_Kind___bool__) (defBody s_Kind___bool__) (defScope s_Kind___bool__) .none kV0 dc0 pm0 an0 cd0 ct0), sl0⟩)
    (c0 : PySem.W.codeIn K cd0 "Kind.__bool__" = true)
    (k0 : PySem.W.keepIn K (.ref f0) = true)
    {f1 : Addr} {od1 an1 : Option Addr} {sl1 : Array (Option Value)} {oc1 kV1 dc1 pm1 cd1 ct1 : Value}
    (a1 : PySem.W.findIn K (.ref c_Kind) "__eq__" = some (some (.ref f1)))
    (y1 : PySem.W.isFn K (.ref f1) = true)
    (l1 : K.lookup f1 = some ⟨oc1, od1, .func (PySem.W.fnOf "__eq__" "Kind.__eq__" (defArgs s_Kind___eq__) (defBody s_Kind___eq__) (defScope s_Kind___eq__) .none kV1 dc1 pm1 an1 cd1 ct1), sl1⟩)
    (c1 : PySem.W.codeIn K cd1 "Kind.__eq__" = true)
    (k1 : PySem.W.keepIn K (.ref f1) = true)
    {f2 : Addr} {od2 an2 : Option Addr} {sl2 : Array (Option Value)} {oc2 kV2 dc2 pm2 cd2 ct2 : Value}
    (a2 : PySem.W.findIn K (.ref c_InvalidKind) "__init__" = some (some (.ref f2)))
    (y2 : PySem.W.typeIn K (.ref f2) = some (.type "function"))
    (l2 : K.lookup f2 = some ⟨oc2, od2, .func (PySem.W.fnOf "__init__" "InvalidKind.__init__" (defArgs s_InvalidKind___init__) (defBody s_InvalidKind___init__) (defScope s_InvalidKind___init__) .none kV2 dc2 pm2 an2 cd2 ct2), sl2⟩)
    (c2 : PySem.W.codeIn K cd2 "InvalidKind.__init__" = true)
    (k2 : PySem.W.keepIn K (.ref f2) = true)
    {f3 : Addr} {od3 an3 : Option Addr} {sl3 : Array (Option Value)} {oc3 kV3 dc3 pm3 cd3 ct3 : Value}
    {dT3 : Addr} {dTd3 : Option Addr} {dTn3 : Nat} {dTs3 : Array (Option Value)}
    (a3 : PySem.W.findIn K (.ref c_Kind) "__init__" = some (some (.ref f3)))
    (y3 : PySem.W.isFn K (.ref f3) = true)
    (l3 : K.lookup f3 = some ⟨oc3, od3, .func (PySem.W.fnOf "__init__" "Kind.__init__" (defArgs s_Kind___init__) (defBody s_Kind___init__) (defScope s_Kind___init__) (.ref dT3) kV3 dc3 pm3 an3 cd3 ct3), sl3⟩)
    (dl3 : K.lookup dT3 = some ⟨.type "tuple", dTd3, .seq #[.ref e_Kind___init___1] dTn3, dTs3⟩)
    {el_Kind___init___1_d : Option Addr} {el_Kind___init___1_n : Nat} {el_Kind___init___1_s : Array (Option Value)}
    (el_Kind___init___1 : K.lookup e_Kind___init___1 = some ⟨.type "tuple", el_Kind___init___1_d, .seq #[] el_Kind___init___1_n, el_Kind___init___1_s⟩)
    (c3 : PySem.W.codeIn K cd3 "Kind.__init__" = true)
    (k3 : PySem.W.keepIn K (.ref f3) = true)
    {f4 : Addr} {od4 an4 : Option Addr} {sl4 : Array (Option Value)} {oc4 kV4 dc4 pm4 cd4 ct4 : Value}
    (a4 : PySem.W.findIn K (.ref c_Kind) "__len__" = some (some (.ref f4)))
    (y4 : PySem.W.isFn K (.ref f4) = true)
    (l4 : K.lookup f4 = some ⟨oc4, od4, .func (PySem.W.fnOf "__len__" "Kind.__len__" (defArgs s_Kind___len__) (defBody s_Kind___len__) (defScope s_Kind___len__) .none kV4 dc4 pm4 an4 cd4 ct4), sl4⟩)
    (c4 : PySem.W.codeIn K cd4 "Kind.__len__" = true)
    (k4 : PySem.W.keepIn K (.ref f4) = true)
    {f5 : Addr} {od5 an5 : Option Addr} {sl5 : Array (Option Value)} {oc5 kV5 dc5 pm5 cd5 ct5 : Value}
    {p5 : Addr} {rest5 : List Value}
    (pa5 : PySem.W.findIn K (.ref c_Kind) "atoms" = some (some (.ref p5)))
    (pg5 : PySem.W.specialIn K (.ref p5) "__get__" = some (some (.builtin "property.__get__")))
    (pt5 : PySem.W.takesIn K (.ref p5) = some true)
    (pr5 : PySem.W.recIn K p5 "property" = some (.ref f5 :: rest5))
    (l5 : K.lookup f5 = some ⟨oc5, od5, .func (PySem.W.fnOf "atoms" "Kind.atoms" (defArgs s_Kind_atoms) (defBody s_Kind_atoms) (defScope s_Kind_atoms) .none kV5 dc5 pm5 an5 cd5 ct5), sl5⟩)
    (c5 : PySem.W.codeIn K cd5 "Kind.atoms" = true)
    (k5 : PySem.W.keepIn K (.ref f5) = true)
    {f6 : Addr} {od6 an6 : Option Addr} {sl6 : Array (Option Value)} {oc6 kV6 dc6 pm6 cd6 ct6 : Value}
    {p6 : Addr} {rest6 : List Value}
    (pa6 : PySem.W.findCls K (.ref c_Kind) (.type "type") "parse" = some (.get (.builtin "classmethod.__get__") (.ref p6) .none (.ref c_Kind)))
    (pr6 : PySem.W.recIn K p6 "classmethod" = some (.ref f6 :: rest6))
    (fi6 : PySem.W.fnIn K f6 = true)
    (l6 : K.lookup f6 = some ⟨oc6, od6, .func (PySem.W.fnOf "parse" "Kind.parse" (defArgs s_Kind_parse) (defBody s_Kind_parse) (defScope s_Kind_parse) .none kV6 dc6 pm6 an6 cd6 ct6), sl6⟩)
    (c6 : PySem.W.codeIn K cd6 "Kind.parse" = true)
    (k6 : PySem.W.keepIn K (.ref f6) = true)
    {f7 : Addr} {od7 an7 : Option Addr} {sl7 : Array (Option Value)} {oc7 kV7 dc7 pm7 cd7 ct7 : Value}
    (a7 : PySem.W.nsIn K mainGlobals "text_of" = some (some (.ref f7)))
    (l7 : K.lookup f7 = some ⟨oc7, od7, .func (PySem.W.fnOf "text_of" "text_of" (defArgs s_text_of) (defBody s_text_of) (defScope s_text_of) .none kV7 dc7 pm7 an7 cd7 ct7), sl7⟩)
    (c7 : PySem.W.codeIn K cd7 "text_of" = true)
    (k7 : PySem.W.keepIn K (.ref f7) = true)
    {f8 : Addr} {od8 an8 : Option Addr} {sl8 : Array (Option Value)} {oc8 kV8 dc8 pm8 cd8 ct8 : Value}
    {p8 : Addr} {rest8 : List Value}
    (pa8 : PySem.W.findIn K (.ref c_Kind) "text" = some (some (.ref p8)))
    (pg8 : PySem.W.specialIn K (.ref p8) "__get__" = some (some (.builtin "property.__get__")))
    (pt8 : PySem.W.takesIn K (.ref p8) = some true)
    (pr8 : PySem.W.recIn K p8 "property" = some (.ref f8 :: rest8))
    (l8 : K.lookup f8 = some ⟨oc8, od8, .func (PySem.W.fnOf "text" "Kind.text" (defArgs s_Kind_text) (defBody s_Kind_text) (defScope s_Kind_text) .none kV8 dc8 pm8 an8 cd8 ct8), sl8⟩)
    (c8 : PySem.W.codeIn K cd8 "Kind.text" = true)
    (k8 : PySem.W.keepIn K (.ref f8) = true)
    {f9 : Addr} {od9 an9 : Option Addr} {sl9 : Array (Option Value)} {oc9 kV9 dc9 pm9 cd9 ct9 : Value}
    (a9 : PySem.W.nsIn K mainGlobals "_law_kind_text" = some (some (.ref f9)))
    (l9 : K.lookup f9 = some ⟨oc9, od9, .func (PySem.W.fnOf "_law_kind_text" "_law_kind_text" (defArgs s__law_kind_text) (defBody s__law_kind_text) (defScope s__law_kind_text) .none kV9 dc9 pm9 an9 cd9 ct9), sl9⟩)
    (c9 : PySem.W.codeIn K cd9 "_law_kind_text" = true)
    (k9 : PySem.W.keepIn K (.ref f9) = true)
    {f10 : Addr} {od10 an10 : Option Addr} {sl10 : Array (Option Value)} {oc10 kV10 dc10 pm10 cd10 ct10 : Value}
    (a10 : PySem.W.nsIn K mainGlobals "_law_number" = some (some (.ref f10)))
    (l10 : K.lookup f10 = some ⟨oc10, od10, .func (PySem.W.fnOf "_law_number" "_law_number" (defArgs s__law_number) (defBody s__law_number) (defScope s__law_number) .none kV10 dc10 pm10 an10 cd10 ct10), sl10⟩)
    (c10 : PySem.W.codeIn K cd10 "_law_number" = true)
    (k10 : PySem.W.keepIn K (.ref f10) = true)
    {f11 : Addr} {od11 an11 : Option Addr} {sl11 : Array (Option Value)} {oc11 kV11 dc11 pm11 cd11 ct11 : Value}
    (a11 : PySem.W.nsIn K mainGlobals "_law_taken" = some (some (.ref f11)))
    (l11 : K.lookup f11 = some ⟨oc11, od11, .func (PySem.W.fnOf "_law_taken" "_law_taken" (defArgs s__law_taken) (defBody s__law_taken) (defScope s__law_taken) .none kV11 dc11 pm11 an11 cd11 ct11), sl11⟩)
    (c11 : PySem.W.codeIn K cd11 "_law_taken" = true)
    (k11 : PySem.W.keepIn K (.ref f11) = true)
    {f12 : Addr} {od12 an12 : Option Addr} {sl12 : Array (Option Value)} {oc12 kV12 dc12 pm12 cd12 ct12 : Value}
    (a12 : PySem.W.nsIn K mainGlobals "law" = some (some (.ref f12)))
    (l12 : K.lookup f12 = some ⟨oc12, od12, .func (PySem.W.fnOf "law" "law" (defArgs s_law) (defBody s_law) (defScope s_law) .none kV12 dc12 pm12 an12 cd12 ct12), sl12⟩)
    (c12 : PySem.W.codeIn K cd12 "law" = true)
    (k12 : PySem.W.keepIn K (.ref f12) = true)
    (z_ValueError : PySem.W.nsIn K mainGlobals "ValueError" = some none)
    (z_bool : PySem.W.nsIn K mainGlobals "bool" = some none)
    (z_enumerate : PySem.W.nsIn K mainGlobals "enumerate" = some none)
    (z_int : PySem.W.nsIn K mainGlobals "int" = some none)
    (z_isinstance : PySem.W.nsIn K mainGlobals "isinstance" = some none)
    (z_len : PySem.W.nsIn K mainGlobals "len" = some none)
    (z_list : PySem.W.nsIn K mainGlobals "list" = some none)
    (z_range : PySem.W.nsIn K mainGlobals "range" = some none)
    (z_str : PySem.W.nsIn K mainGlobals "str" = some none)
    (z_tuple : PySem.W.nsIn K mainGlobals "tuple" = some none)
    : ∃ (κ : Kap) (fd : FuncData), (∀ (s : Shared) (v : Value), BindsTo s fd ⟨[v], []⟩ [("_law_script", v)]) ∧ ∀ base : Heap, K.In base → base.Ns mainGlobals mg → FnOk P w K mg base (L2.CX P w) 7 fa fd ["_law_script"] (sp_law K κ) := by
  have e := hfa.symm.trans (PySem.W.mg_of X G a12)
  cases e
  have hk : ∃ κ : Kap, κ "NarrowingError" = c_NarrowingError ∧ κ "InvalidNumber" = c_InvalidNumber ∧ κ "InvalidKind" = c_InvalidKind ∧ κ "Kind" = c_Kind ∧ κ "Kind.ATOMS" = t_Kind_ATOMS ∧ κ "Kind___init__.1" = e_Kind___init___1 ∧ κ "WORDS" = d_WORDS ∧ κ "WORDS.null" = dv_WORDS_null ∧ κ "WORDS.false" = dv_WORDS_false ∧ κ "WORDS.true" = dv_WORDS_true ∧ κ "WORDS.bool" = dv_WORDS_bool ∧ κ "WORDS.int" = dv_WORDS_int ∧ κ "WORDS.text" = dv_WORDS_text ∧ True := ⟨kap c_NarrowingError c_InvalidNumber c_InvalidKind c_Kind t_Kind_ATOMS e_Kind___init___1 d_WORDS dv_WORDS_null dv_WORDS_false dv_WORDS_true dv_WORDS_bool dv_WORDS_int dv_WORDS_text, by unfold kap; rw [if_pos rfl], by unfold kap; rw [if_neg (by decide)]; rw [if_pos rfl], by unfold kap; rw [if_neg (by decide)]; rw [if_neg (by decide)]; rw [if_pos rfl], by unfold kap; rw [if_neg (by decide)]; rw [if_neg (by decide)]; rw [if_neg (by decide)]; rw [if_pos rfl], by unfold kap; rw [if_neg (by decide)]; rw [if_neg (by decide)]; rw [if_neg (by decide)]; rw [if_neg (by decide)]; rw [if_pos rfl], by unfold kap; rw [if_neg (by decide)]; rw [if_neg (by decide)]; rw [if_neg (by decide)]; rw [if_neg (by decide)]; rw [if_neg (by decide)]; rw [if_pos rfl], by unfold kap; rw [if_neg (by decide)]; rw [if_neg (by decide)]; rw [if_neg (by decide)]; rw [if_neg (by decide)]; rw [if_neg (by decide)]; rw [if_neg (by decide)]; rw [if_pos rfl], by unfold kap; rw [if_neg (by decide)]; rw [if_neg (by decide)]; rw [if_neg (by decide)]; rw [if_neg (by decide)]; rw [if_neg (by decide)]; rw [if_neg (by decide)]; rw [if_neg (by decide)]; rw [if_pos rfl], by unfold kap; rw [if_neg (by decide)]; rw [if_neg (by decide)]; rw [if_neg (by decide)]; rw [if_neg (by decide)]; rw [if_neg (by decide)]; rw [if_neg (by decide)]; rw [if_neg (by decide)]; rw [if_neg (by decide)]; rw [if_pos rfl], by unfold kap; rw [if_neg (by decide)]; rw [if_neg (by decide)]; rw [if_neg (by decide)]; rw [if_neg (by decide)]; rw [if_neg (by decide)]; rw [if_neg (by decide)]; rw [if_neg (by decide)]; rw [if_neg (by decide)]; rw [if_neg (by decide)]; rw [if_pos rfl], by unfold kap; rw [if_neg (by decide)]; rw [if_neg (by decide)]; rw [if_neg (by decide)]; rw [if_neg (by decide)]; rw [if_neg (by decide)]; rw [if_neg (by decide)]; rw [if_neg (by decide)]; rw [if_neg (by decide)]; rw [if_neg (by decide)]; rw [if_neg (by decide)]; rw [if_pos rfl], by unfold kap; rw [if_neg (by decide)]; rw [if_neg (by decide)]; rw [if_neg (by decide)]; rw [if_neg (by decide)]; rw [if_neg (by decide)]; rw [if_neg (by decide)]; rw [if_neg (by decide)]; rw [if_neg (by decide)]; rw [if_neg (by decide)]; rw [if_neg (by decide)]; rw [if_neg (by decide)]; rw [if_pos rfl], by unfold kap; rw [if_neg (by decide)]; rw [if_neg (by decide)]; rw [if_neg (by decide)]; rw [if_neg (by decide)]; rw [if_neg (by decide)]; rw [if_neg (by decide)]; rw [if_neg (by decide)]; rw [if_neg (by decide)]; rw [if_neg (by decide)]; rw [if_neg (by decide)]; rw [if_neg (by decide)]; rw [if_neg (by decide)]; rw [if_pos rfl], trivial⟩
  obtain ⟨κ, rfl, rfl, rfl, rfl, rfl, rfl, rfl, rfl, rfl, rfl, rfl, rfl, rfl, _⟩ := hk
  have ni_Kind : ∀ T ∈ flatT, PySem.W.subIn K (.type T) (.ref (κ "Kind")) = some false := by
    intro T hT
    simp only [flatT, List.mem_cons, List.not_mem_nil, or_false] at hT
    rcases hT with rfl | rfl | rfl | rfl | rfl | rfl | rfl
    · exact nt_Kind_NoneType
    · exact nt_Kind_bool
    · exact nt_Kind_int
    · exact nt_Kind_str
    · exact nt_Kind_list
    · exact nt_Kind_tuple
    · exact nt_Kind_dict
  have T : Txt w K mg κ := { n_ValueError := PySem.W.mg_none_of X G z_ValueError, n_bool := PySem.W.mg_none_of X G z_bool, n_enumerate := PySem.W.mg_none_of X G z_enumerate, n_int := PySem.W.mg_none_of X G z_int, n_isinstance := PySem.W.mg_none_of X G z_isinstance, n_len := PySem.W.mg_none_of X G z_len, n_list := PySem.W.mg_none_of X G z_list, n_range := PySem.W.mg_none_of X G z_range, n_str := PySem.W.mg_none_of X G z_str, n_tuple := PySem.W.mg_none_of X G z_tuple, e_NarrowingError := { g := PySem.W.mg_of X G aC_NarrowingError, o := { cls := ⟨nm_NarrowingError, q_NarrowingError, N_NarrowingError, bs_NarrowingError, _, sn_NarrowingError, sub_NarrowingError, ab_NarrowingError, col_NarrowingError, dd_NarrowingError, m0_NarrowingError, m1_NarrowingError, m2_NarrowingError, m3_NarrowingError, m5_NarrowingError, xL_NarrowingError, rfl⟩, sa := sa_NarrowingError, exC := eC_NarrowingError, tyC := tC_NarrowingError, kC := kC_NarrowingError }, xf := { ga := ga_NarrowingError, gg := gg_NarrowingError, exC := eC_NarrowingError, hdC := hC_NarrowingError }, ic := { hg := ga_NarrowingError, hk := gg_NarrowingError, hs := eC_NarrowingError, hd := hC_NarrowingError, ha := ca_NarrowingError, hn := cg, ht := ct, hm := mo_NarrowingError } }, e_InvalidNumber := { g := PySem.W.mg_of X G aC_InvalidNumber, o := { cls := ⟨nm_InvalidNumber, q_InvalidNumber, N_InvalidNumber, bs_InvalidNumber, _, sn_InvalidNumber, sub_InvalidNumber, ab_InvalidNumber, col_InvalidNumber, dd_InvalidNumber, m0_InvalidNumber, m1_InvalidNumber, m2_InvalidNumber, m3_InvalidNumber, m5_InvalidNumber, xL_InvalidNumber, rfl⟩, sa := sa_InvalidNumber, exC := eC_InvalidNumber, tyC := tC_InvalidNumber, kC := kC_InvalidNumber }, xf := { ga := ga_InvalidNumber, gg := gg_InvalidNumber, exC := eC_InvalidNumber, hdC := hC_InvalidNumber }, ic := { hg := ga_InvalidNumber, hk := gg_InvalidNumber, hs := eC_InvalidNumber, hd := hC_InvalidNumber, ha := ca_InvalidNumber, hn := cg, ht := ct, hm := mo_InvalidNumber } }, e_InvalidKind := { g := PySem.W.mg_of X G aC_InvalidKind, o := { cls := ⟨nm_InvalidKind, q_InvalidKind, N_InvalidKind, bs_InvalidKind, _, sn_InvalidKind, sub_InvalidKind, ab_InvalidKind, col_InvalidKind, dd_InvalidKind, m0_InvalidKind, m1_InvalidKind, m2_InvalidKind, m3_InvalidKind, m5_InvalidKind, xL_InvalidKind, rfl⟩, sa := sa_InvalidKind, exC := eC_InvalidKind, tyC := tC_InvalidKind, kC := kC_InvalidKind }, xf := { ga := ga_InvalidKind, gg := gg_InvalidKind, exC := eC_InvalidKind, hdC := hC_InvalidKind }, ic := { hg := ga_InvalidKind, hk := gg_InvalidKind, hs := eC_InvalidKind, hd := hC_InvalidKind, ha := ca_InvalidKind, hn := cg, ht := ct, hm := mo_InvalidKind } }, b_NarrowingError := { g := PySem.W.mg_of X G aC_NarrowingError, s := bs_NarrowingError_s, r := bs_NarrowingError_r, v := bs_NarrowingError_v }, no_InvalidKind_number := no_InvalidKind_number, x_InvalidKind_InvalidKind := PySem.W.exm_ref eC_InvalidKind hC_InvalidKind tC_InvalidKind su_InvalidKind_InvalidKind, x_InvalidKind_InvalidNumber := PySem.W.exm_ref eC_InvalidNumber hC_InvalidNumber tC_InvalidNumber su_InvalidKind_InvalidNumber, k_InvalidKind_NarrowingError := nv_kit_own hC_NarrowingError tC_NarrowingError ki_InvalidKind_NarrowingError, k_InvalidKind_ValueError := nv_kit_ty (by decide +kernel) ki_InvalidKind_ValueError, c_Kind := { g := PySem.W.mg_of X G aC_Kind, c := { pg := pg_Kind, hd := hC_Kind, po := po_Kind, sa := sa_Kind }, ca := ca_Kind, cn := cg, ct := ct, cm := mo_Kind, rd := { rd := rd_Kind, ga := ga_Kind }, tC := tC_Kind, cl := cls_some hC_Kind }, sf_Kind := sf_Kind, nf_Kind_kept := nf_Kind_kept, v_Kind_ATOMS := { at_ := vc_Kind_ATOMS, rel := rfl }, q_Kind_ATOMS := fun H => .inr ⟨_, _, _, tl_Kind_ATOMS, rfl, rfl, (by decide : 5 ≤ sizeLine), (.cons ⟨_, rfl⟩ (.cons ⟨_, rfl⟩ (.cons ⟨_, rfl⟩ (.cons ⟨_, rfl⟩ (.cons ⟨_, rfl⟩ .nil)))))⟩, g_WORDS := ⟨_, PySem.W.mg_of X G v_WORDS, rfl⟩, kd_WORDS := kdict_of (l := [("null", dt_WORDS_null, .ref (κ "WORDS.null")), ("false", dt_WORDS_false, .ref (κ "WORDS.false")), ("true", dt_WORDS_true, .ref (κ "WORDS.true")), ("bool", dt_WORDS_bool, .ref (κ "WORDS.bool")), ("int", dt_WORDS_int, .ref (κ "WORDS.int")), ("text", dt_WORDS_text, .ref (κ "WORDS.text"))]) vl_WORDS vs_WORDS, kv_WORDS := nsIn_ent2 (l := [("null", dt_WORDS_null, .ref (κ "WORDS.null")), ("false", dt_WORDS_false, .ref (κ "WORDS.false")), ("true", dt_WORDS_true, .ref (κ "WORDS.true")), ("bool", dt_WORDS_bool, .ref (κ "WORDS.bool")), ("int", dt_WORDS_int, .ref (κ "WORDS.int")), ("text", dt_WORDS_text, .ref (κ "WORDS.text"))]) vl_WORDS, q_WORDS_null := fun H => .inr ⟨_, _, _, dl_WORDS_null, rfl, rfl, (by decide : 1 ≤ sizeLine), (.cons ⟨_, rfl⟩ .nil)⟩, q_WORDS_false := fun H => .inr ⟨_, _, _, dl_WORDS_false, rfl, rfl, (by decide : 1 ≤ sizeLine), (.cons ⟨_, rfl⟩ .nil)⟩, q_WORDS_true := fun H => .inr ⟨_, _, _, dl_WORDS_true, rfl, rfl, (by decide : 1 ≤ sizeLine), (.cons ⟨_, rfl⟩ .nil)⟩, q_WORDS_bool := fun H => .inr ⟨_, _, _, dl_WORDS_bool, rfl, rfl, (by decide : 2 ≤ sizeLine), (.cons ⟨_, rfl⟩ (.cons ⟨_, rfl⟩ .nil))⟩, q_WORDS_int := fun H => .inr ⟨_, _, _, dl_WORDS_int, rfl, rfl, (by decide : 1 ≤ sizeLine), (.cons ⟨_, rfl⟩ .nil)⟩, q_WORDS_text := fun H => .inr ⟨_, _, _, dl_WORDS_text, rfl, rfl, (by decide : 1 ≤ sizeLine), (.cons ⟨_, rfl⟩ .nil)⟩, ni_Kind := ni_Kind, ne_Kind := ne_Kind, ob_Kind := ob_Kind, dq_Kind___init___1 := fun H => .inr ⟨_, _, _, el_Kind___init___1, rfl, rfl, (by decide : 0 ≤ sizeLine), .nil⟩ }
  have F0 := fun_mk (st := s_Kind___bool__) l0 c0 k0
  have b0 := F0.binds (ps := ["self"]) fun _ _ _ _ _ _ us hl => match us, hl with | [_], _ => rfl
  have F1 := fun_mk (st := s_Kind___eq__) l1 c1 k1
  have b1 := F1.binds (ps := ["self", "other"]) fun _ _ _ _ _ _ us hl => match us, hl with | [_, _], _ => rfl
  have F2 := fun_mk (st := s_InvalidKind___init__) l2 c2 k2
  have b2 := F2.binds (ps := ["self", "number"]) fun _ _ _ _ _ _ us hl => match us, hl with | [_, _], _ => rfl
  have F3 := funG_mk (st := s_Kind___init__) l3 c3
  obtain ⟨ds3_2, dv3_2, b3_2⟩ := F3.binds1 (ps := ["self", "atoms"]) (dvs := [.ref (κ "Kind___init__.1")]) (its := [_]) 2 1 dl3 rfl (.cons rfl .nil) rfl fun _ _ _ _ _ _ us its hu hi => match us, its, hu, hi with | [_, _], [_], _, _ => ⟨_, rfl, rfl⟩
  have F4 := fun_mk (st := s_Kind___len__) l4 c4 k4
  have b4 := F4.binds (ps := ["self"]) fun _ _ _ _ _ _ us hl => match us, hl with | [_], _ => rfl
  have F5 := fun_mk (st := s_Kind_atoms) l5 c5 k5
  have b5 := F5.binds (ps := ["self"]) fun _ _ _ _ _ _ us hl => match us, hl with | [_], _ => rfl
  have F6 := fun_mk (st := s_Kind_parse) l6 c6 k6
  have b6 := F6.binds (ps := ["cls", "text"]) fun _ _ _ _ _ _ us hl => match us, hl with | [_, _], _ => rfl
  have F7 := fun_mk (st := s_text_of) l7 c7 k7
  have b7 := F7.binds (ps := ["atoms"]) fun _ _ _ _ _ _ us hl => match us, hl with | [_], _ => rfl
  have F8 := fun_mk (st := s_Kind_text) l8 c8 k8
  have b8 := F8.binds (ps := ["self"]) fun _ _ _ _ _ _ us hl => match us, hl with | [_], _ => rfl
  have F9 := fun_mk (st := s__law_kind_text) l9 c9 k9
  have b9 := F9.binds (ps := ["_law_atoms"]) fun _ _ _ _ _ _ us hl => match us, hl with | [_], _ => rfl
  have F10 := fun_mk (st := s__law_number) l10 c10 k10
  have b10 := F10.binds (ps := ["_law_thing", "_law_is_text"]) fun _ _ _ _ _ _ us hl => match us, hl with | [_, _], _ => rfl
  have F11 := fun_mk (st := s__law_taken) l11 c11 k11
  have b11 := F11.binds (ps := ["_law_row", "_law_many"]) fun _ _ _ _ _ _ us hl => match us, hl with | [_, _], _ => rfl
  have F12 := fun_mk (st := s_law) l12 c12 k12
  refine ⟨κ, PySem.W.fnOf "law" "law" (defArgs s_law) (defBody s_law) (defScope s_law) .none kV12 dc12 pm12 an12 cd12 ct12, fun s v => .of_eq rfl, fun base _ _ => ?_⟩
  have M_Kind___bool__ : MCal P w K mg base 1 (κ "Kind") "__bool__" ["self"] [] (sp_Kind___bool__ K κ) := ⟨_, _, _, ok_Kind___bool__ F0 T , ⟨a0, y0, k0⟩, b0, .nil⟩
  have M_Kind___eq__ : MCal P w K mg base 1 (κ "Kind") "__eq__" ["self", "other"] [] (sp_Kind___eq__ K κ) := ⟨_, _, _, ok_Kind___eq__ F1 T , ⟨a1, y1, k1⟩, b1, .nil⟩
  have N_InvalidKind : EIni P w K mg base 1 (κ "InvalidKind") ["self", "number"] (sp_init1 K "number") := ⟨_, _, ok_InvalidKind___init__ F2 T , a2, y2, b2⟩
  have I_Kind___init__ : ICal P w K mg base 3 (κ "Kind") ["self", "atoms"] [] (sp_Kind___init__ K κ) := ⟨_, _, _, ok_Kind___init__ F3 T N_InvalidKind, ⟨mk_Kind, a3, y3, kC_Kind⟩, b3_2, dv3_2⟩
  have M_Kind___len__ : MCal P w K mg base 1 (κ "Kind") "__len__" ["self"] [] (sp_Kind___len__ K κ) := ⟨_, _, _, ok_Kind___len__ F4 T , ⟨a4, y4, k4⟩, b4, .nil⟩
  have P_Kind_atoms : PCal P w K mg base 1 (κ "Kind") "atoms" ["self"] (sp_Kind_atoms K κ) := ⟨_, _, _, ok_Kind_atoms F5 T , ⟨pa5, pg5, pt5, ⟨_, pr5⟩⟩, b5⟩
  have K_Kind_parse : KCal P w K mg base 5 (κ "Kind") "parse" ["cls", "text"] (sp_Kind_parse K κ) := ⟨_, _, _, ok_Kind_parse F6 T N_InvalidKind I_Kind___init__, ⟨pa6, ⟨_, pr6⟩, fi6⟩, b6⟩
  have C_text_of : Cal P w K mg base 1 "text_of" ["atoms"] (sp_text_of K κ) := ⟨_, _, ok_text_of F7 T , PySem.W.mg_of X G a7, k7, b7⟩
  have P_Kind_text : PCal P w K mg base 2 (κ "Kind") "text" ["self"] (sp_Kind_text K κ) := ⟨_, _, _, ok_Kind_text F8 T C_text_of, ⟨pa8, pg8, pt8, ⟨_, pr8⟩⟩, b8⟩
  have C__law_kind_text : Cal P w K mg base 1 "_law_kind_text" ["_law_atoms"] (sp__law_kind_text K κ) := ⟨_, _, ok__law_kind_text F9 T , PySem.W.mg_of X G a9, k9, b9⟩
  have C__law_number : Cal P w K mg base 6 "_law_number" ["_law_thing", "_law_is_text"] (sp__law_number K κ) := ⟨_, _, ok__law_number F10 T I_Kind___init__ K_Kind_parse, PySem.W.mg_of X G a10, k10, b10⟩
  have C__law_taken : Cal P w K mg base 1 "_law_taken" ["_law_row", "_law_many"] (sp__law_taken K κ) := ⟨_, _, ok__law_taken F11 T , PySem.W.mg_of X G a11, k11, b11⟩
  exact ok_law F12 T M_Kind___bool__ M_Kind___eq__ I_Kind___init__ M_Kind___len__ P_Kind_atoms K_Kind_parse P_Kind_text C__law_kind_text C__law_number C__law_taken
end NvK04
open PySem PySem.W PyProof.Rows
set_option maxHeartbeats 0 in
theorem PySem.Challenge.cw_narrowing_k04_kind_texts_holds : PySem.Challenge.rw_narrowing_k04_kind_texts.Holds := by
  w_on; o_law; k_head; (case hw => w_witness2)
  k_fill
  refine Nv.walk_ofE (l := PySem.Challenge.rw_narrowing_k04_kind_texts) (n := 63) (k := 7) (x := "_law_script") (CX := fun w => L2.CX PySem.Challenge.rw_narrowing_k04_kind_texts.prog w) (sp := Nv.sp_law) rfl (by decide) rfl ⟨rfl, by decide, by decide⟩ (fun w h Y => PySem.W.kIn_of Y) ?F (fun _ _ _ a ns hl _ hS => Nv.law_pre hS hl) (fun _ _ _ _ _ h => Nv.noX h)
  case F =>
    intro w mg fa h KX G hmg
    refine' NvK04.all_mk KX G hmg ?aC_NarrowingError ?xL_NarrowingError ?sa_NarrowingError ?ga_NarrowingError ?gg_NarrowingError ?eC_NarrowingError ?tC_NarrowingError ?kC_NarrowingError ?hC_NarrowingError ?ca_NarrowingError ?mo_NarrowingError ?aC_InvalidNumber ?xL_InvalidNumber ?sa_InvalidNumber ?ga_InvalidNumber ?gg_InvalidNumber ?eC_InvalidNumber ?tC_InvalidNumber ?kC_InvalidNumber ?hC_InvalidNumber ?ca_InvalidNumber ?mo_InvalidNumber ?aC_InvalidKind ?xL_InvalidKind ?sa_InvalidKind ?ga_InvalidKind ?gg_InvalidKind ?eC_InvalidKind ?tC_InvalidKind ?kC_InvalidKind ?hC_InvalidKind ?ca_InvalidKind ?mo_InvalidKind ?aC_Kind ?pg_Kind ?hC_Kind ?po_Kind ?sa_Kind ?ca_Kind ?mo_Kind ?rd_Kind ?ga_Kind ?tC_Kind ?sf_Kind ?kC_Kind ?mk_Kind ?cg ?ct ?bs_NarrowingError_s ?bs_NarrowingError_r ?bs_NarrowingError_v ?no_InvalidKind_number ?nf_Kind_kept ?su_InvalidKind_InvalidKind ?su_InvalidKind_InvalidNumber ?ki_InvalidKind_NarrowingError ?ki_InvalidKind_ValueError ?vc_Kind_ATOMS ?tl_Kind_ATOMS ?nt_Kind_NoneType ?nt_Kind_bool ?nt_Kind_int ?nt_Kind_str ?nt_Kind_list ?nt_Kind_tuple ?nt_Kind_dict ?ne_Kind ?ob_Kind ?v_WORDS ?vl_WORDS ?vs_WORDS ?dl_WORDS_null ?dl_WORDS_false ?dl_WORDS_true ?dl_WORDS_bool ?dl_WORDS_int ?dl_WORDS_text ?a0 ?y0 ?l0 ?c0 ?k0 ?a1 ?y1 ?l1 ?c1 ?k1 ?a2 ?y2 ?l2 ?c2 ?k2 ?a3 ?y3 ?l3 ?dl3 ?el_Kind___init___1 ?c3 ?k3 ?a4 ?y4 ?l4 ?c4 ?k4 ?pa5 ?pg5 ?pt5 ?pr5 ?l5 ?c5 ?k5 ?pa6 ?pr6 ?fi6 ?l6 ?c6 ?k6 ?a7 ?l7 ?c7 ?k7 ?pa8 ?pg8 ?pt8 ?pr8 ?l8 ?c8 ?k8 ?a9 ?l9 ?c9 ?k9 ?a10 ?l10 ?c10 ?k10 ?a11 ?l11 ?c11 ?k11 ?a12 ?l12 ?c12 ?k12 ?z_ValueError ?z_bool ?z_enumerate ?z_int ?z_isinstance ?z_len ?z_list ?z_range ?z_str ?z_tuple
    (case aC_NarrowingError => k_is); (case xL_NarrowingError => k_is); (case sa_NarrowingError => k_is); (case ga_NarrowingError => k_is); (case gg_NarrowingError => k_is); (case eC_NarrowingError => k_is); (case tC_NarrowingError => k_is); (case kC_NarrowingError => k_is)
    (case hC_NarrowingError => k_is); (case ca_NarrowingError => k_is); (case mo_NarrowingError => k_is); (case aC_InvalidNumber => k_is); (case xL_InvalidNumber => k_is); (case sa_InvalidNumber => k_is); (case ga_InvalidNumber => k_is); (case gg_InvalidNumber => k_is)
    (case eC_InvalidNumber => k_is); (case tC_InvalidNumber => k_is); (case kC_InvalidNumber => k_is); (case hC_InvalidNumber => k_is); (case ca_InvalidNumber => k_is); (case mo_InvalidNumber => k_is); (case aC_InvalidKind => k_is); (case xL_InvalidKind => k_is)
    (case sa_InvalidKind => k_is); (case ga_InvalidKind => k_is); (case gg_InvalidKind => k_is); (case eC_InvalidKind => k_is); (case tC_InvalidKind => k_is); (case kC_InvalidKind => k_is); (case hC_InvalidKind => k_is); (case ca_InvalidKind => k_is)
    (case mo_InvalidKind => k_is); (case aC_Kind => k_is); (case pg_Kind => k_is); (case hC_Kind => k_is); (case po_Kind => k_is); (case sa_Kind => k_is); (case ca_Kind => k_is); (case mo_Kind => k_is)
    (case rd_Kind => k_is); (case ga_Kind => k_is); (case tC_Kind => k_is); (case sf_Kind => k_is); (case kC_Kind => k_is); (case mk_Kind => k_is); (case cg => k_is); (case ct => k_is)
    (case bs_NarrowingError_s => k_is); (case bs_NarrowingError_r => k_is); (case bs_NarrowingError_v => k_is); (case no_InvalidKind_number => k_is); (case nf_Kind_kept => k_is); (case su_InvalidKind_InvalidKind => first | rfl | k_is); (case su_InvalidKind_InvalidNumber => first | rfl | k_is); (case ki_InvalidKind_NarrowingError => first | rfl | k_is)
    (case ki_InvalidKind_ValueError => first | rfl | k_is); (case vc_Kind_ATOMS => k_is); (case tl_Kind_ATOMS => k_is); (case nt_Kind_NoneType => k_is); (case nt_Kind_bool => k_is); (case nt_Kind_int => k_is); (case nt_Kind_str => k_is); (case nt_Kind_list => k_is)
    (case nt_Kind_tuple => k_is); (case nt_Kind_dict => k_is); (case ne_Kind => k_is); (case ob_Kind => k_is); (case v_WORDS => k_is); (case vl_WORDS => k_is); (case vs_WORDS => first | rfl | decide); (case dl_WORDS_null => k_is)
    (case dl_WORDS_false => k_is); (case dl_WORDS_true => k_is); (case dl_WORDS_bool => k_is); (case dl_WORDS_int => k_is); (case dl_WORDS_text => k_is); (case a0 => k_is); (case y0 => k_is); (case l0 => k_is)
    (case c0 => k_is); (case k0 => k_is); (case a1 => k_is); (case y1 => k_is); (case l1 => k_is); (case c1 => k_is); (case k1 => k_is); (case a2 => k_is)
    (case y2 => k_is); (case l2 => k_is); (case c2 => k_is); (case k2 => k_is); (case a3 => k_is); (case y3 => k_is); (case l3 => k_is); (case dl3 => k_is)
    (case el_Kind___init___1 => k_is); (case c3 => k_is); (case k3 => k_is); (case a4 => k_is); (case y4 => k_is); (case l4 => k_is); (case c4 => k_is); (case k4 => k_is)
    (case pa5 => k_is); (case pg5 => k_is); (case pt5 => k_is); (case pr5 => k_is); (case l5 => k_is); (case c5 => k_is); (case k5 => k_is); (case pa6 => k_is)
    (case pr6 => k_is); (case fi6 => k_is); (case l6 => k_is); (case c6 => k_is); (case k6 => k_is); (case a7 => k_is); (case l7 => k_is); (case c7 => k_is)
    (case k7 => k_is); (case pa8 => k_is); (case pg8 => k_is); (case pt8 => k_is); (case pr8 => k_is); (case l8 => k_is); (case c8 => k_is); (case k8 => k_is)
    (case a9 => k_is); (case l9 => k_is); (case c9 => k_is); (case k9 => k_is); (case a10 => k_is); (case l10 => k_is); (case c10 => k_is); (case k10 => k_is)
    (case a11 => k_is); (case l11 => k_is); (case c11 => k_is); (case k11 => k_is); (case a12 => k_is); (case l12 => k_is); (case c12 => k_is); (case k12 => k_is)
    (case z_ValueError => k_is); (case z_bool => k_is); (case z_enumerate => k_is); (case z_int => k_is); (case z_isinstance => k_is); (case z_len => k_is); (case z_list => k_is); (case z_range => k_is)
    (case z_str => k_is); (case z_tuple => k_is)

