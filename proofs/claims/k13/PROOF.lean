import PyProof.Rows.All
import Wide.All
import OpenK.AllK
import Wide.FinOn
import HandS.Iter
import HandS.Style
import HandS.DeepEq
import HandS.TupMul
import HandS.Strs
import HandS.RaiseMore
import HandS.Star
import KE.KExcSuper
import KE.KSuper
import HandS.Exc
import HandS.ExcField
import HandS.ExcIs
import HandS.ExcInit
import HandS.ExcSuper
import HandS.TryMany
import HandS.CallSlots
import HandS.WordsExc
import KE.KExcIs
import HandS.Property
import HandS.MakeKwOnly
import HandS.ForMost
import HandS.Wide
import HandS.IsInst
import HandS.TupAny
import HandS.Evl
import HandS.Codes
import HandS.Gcd
import HandS.OwnEq
import HandS.Defaults
import PySem.Challenge.RW_sureplay_k13_expressions_read_and_writte
set_option Elab.async false
set_option linter.all false
set_option maxRecDepth 100000
set_option maxHeartbeats 4000000
set_option Elab.async false
set_option linter.all false
set_option maxRecDepth 100000
/-! Own lemmas: stepping through readings (go_), tests, heaps. No program in sight. -/
namespace Gx
open PySem PySem.Spec PyProof.Rows L2

/-! ### statements -/
section
variable {D : Ends} {σ : L2.St} {H : Hp} {t u c : TS} {te ta tb tc tl th : TE} {i : Nat} {Q : VK} {QB : Bool → Hp → Prop}
theorem go_seq (h : t { D with nx := u D } σ H) : tSeq t u D σ H := h
theorem go_cut (M : L2.St → Hp → Prop) (h : t { D with nx := M } σ H) (k : ∀ σ' H', M σ' H' → u D σ' H') : Evl.tCut t u D σ H := ⟨M, h, k⟩
theorem go_asg {g : TG} (h : te σ H fun x H1 => g x σ H1 D.nx) : tAsg te g D σ H := h
theorem go_name {v : V} {R : L2.St → Hp → Prop} (h : R (σ.set i (some v)) H) : gName i v σ H R := h
theorem go_drop (h : te σ H fun _ H1 => D.nx σ H1) : tDrop te D σ H := h
theorem go_ret (h : te σ H D.rt) : tRet te D σ H := h
theorem go_retN (h : D.rt .non H) : tRetN D σ H := h
theorem go_next (h : D.nx σ H) : tNext D σ H := h
theorem go_brk (h : D.bk σ H) : tBreak D σ H := h
theorem go_cont (h : D.ct σ H) : tCont D σ H := h
theorem go_if {tt : TT} (h : tt σ H fun b H1 => if b = true then t D σ H1 else u D σ H1) : tIfS tt t u D σ H := h
/-! ### expressions -/
theorem go_var {v : V} (e : σ[i]? = some (some v)) (h : Q v H) : tVar i σ H Q := ⟨v, e, h⟩
theorem go_c {v : V} (h : Q v H) : tC v σ H Q := h
theorem go_op {r : R2} (h : ta σ H fun x H1 => tb σ H1 fun y H2 => r x y H2 Q) : tOp r ta tb σ H Q := h
theorem go_un {r : V → Hp → VK → Prop} (h : ta σ H fun x H1 => r x H1 Q) : tUn r ta σ H Q := h
theorem go_rI0 {g : Int → Int → V} {a b : Int} (h : Q (g a b) H) : rI0 g (.int a) (.int b) H Q := ⟨a, b, rfl, rfl, h⟩
theorem go_rI {C : Int → Int → Prop} {g : Int → Int → V} {a b : Int} (hc : C a b) (h : Q (g a b) H) : rI C g (.int a) (.int b) H Q := ⟨a, b, rfl, rfl, hc, h⟩
theorem go_rU {g : Int → V} {a : Int} (h : Q (g a) H) : rU g (.int a) H Q := ⟨a, rfl, h⟩
theorem go_eqI {a b : Int} (h : Q (.bl (decide (a = b))) H) : rEq (.int a) (.int b) H Q := ⟨rfl, by simpa using h⟩
theorem go_neI {a b : Int} (h : Q (.bl (!decide (a = b))) H) : rNe (.int a) (.int b) H Q := ⟨rfl, by simpa using h⟩
theorem go_eqS {a b : Str} (h : Q (.bl (decide (a = b))) H) : rEq (.str a) (.str b) H Q := ⟨rfl, by simpa using h⟩
theorem go_neS {a b : Str} (h : Q (.bl (!decide (a = b))) H) : rNe (.str a) (.str b) H Q := ⟨rfl, by simpa using h⟩
theorem go_eqB {a b : Bool} (h : Q (.bl (decide (a = b))) H) : rEq (.bl a) (.bl b) H Q := ⟨rfl, by simpa using h⟩
theorem go_neB {a b : Bool} (h : Q (.bl (!decide (a = b))) H) : rNe (.bl a) (.bl b) H Q := ⟨rfl, by simpa using h⟩
theorem go_eqN (h : Q (.bl true) H) : rEq .non .non H Q := ⟨rfl, by simpa using h⟩
theorem ite_dt {α : Type} [DecidableEq α] {a : α} {A B : Prop} (h : A) : if decide (a = a) = true then A else B := by rw [decide_eq_true rfl]; exact h
theorem go_test (h : te σ H fun x H1 => ∃ k, x = .bl k ∧ QB k H1) : tTest te σ H QB := h
theorem go_B (h : te σ H fun x H1 => ∃ k, x = .bl k ∧ QB k H1) : tB te σ H QB := h
theorem go_bl {b : Bool} (h : QB b H) : ∃ k, V.bl b = .bl k ∧ QB k H := ⟨b, rfl, h⟩
theorem go_and {t u : TT} (h : t σ H fun b H1 => if b = true then u σ H1 QB else QB false H1) : tAnd t u σ H QB := h
theorem go_or {t u : TT} (h : t σ H fun b H1 => if b = true then QB true H1 else u σ H1 QB) : tOr t u σ H QB := h
theorem go_not {t : TT} (h : t σ H fun b H1 => QB (!b) H1) : tNot t σ H QB := h
theorem go_andV (h : ta σ H fun x H1 => ∃ c, x = .bl c ∧ if c = true then tb σ H1 Q else Q (.bl false) H1) : tAndV ta tb σ H Q := h
theorem go_orV (h : ta σ H fun x H1 => ∃ c, x = .bl c ∧ if c = true then Q (.bl true) H1 else tb σ H1 Q) : tOrV ta tb σ H Q := h
theorem go_notV (h : ta σ H fun x H1 => ∃ c, x = .bl c ∧ Q (.bl (!c)) H1) : tNotV ta σ H Q := h
theorem go_ifE {t : TT} (h : t σ H fun c H1 => if c = true then ta σ H1 Q else tb σ H1 Q) : tIf t ta tb σ H Q := h
theorem go_blA {b : Bool} {R : Bool → Prop} (h : R b) : ∃ k, V.bl b = .bl k ∧ R k := ⟨b, rfl, h⟩
theorem go_not_t {QB : Bool → Hp → Prop} (h : QB false H) : QB (!true) H := h
theorem go_not_f {QB : Bool → Hp → Prop} (h : QB true H) : QB (!false) H := h
theorem go_chain {r r' : R2} (h : ta σ H fun x H1 => tb σ H1 fun y H2 => r x y H2 fun z H3 => ∃ k, z = .bl k ∧ (if k = true then tc σ H3 fun w' H4 => r' y w' H4 Q else Q (.bl false) H3)) : tChain r r' ta tb tc σ H Q := h
/-! ### calls -/
theorem go_CB {r : List V → Hp → VK → Prop} {t : TA} (h : t σ H fun vs H1 => r vs H1 Q) : tCB r t σ H Q := h
theorem go_cons {t : TA} {R : List V → Hp → Prop} (h : ta σ H fun x H1 => t σ H1 fun xs H2 => R (x :: xs) H2) : tCons ta t σ H R := h
theorem go_nil {R : List V → Hp → Prop} (h : R [] H) : tNil σ H R := h
theorem go_call {sp : Sp} {dvs : List V} {E : XK} {t : TA} (h : t σ H fun vs H1 => sp (vs ++ dvs) H1 Q E) : tCall sp dvs E t σ H Q := h
theorem go_isi {K : PySem.W.Frag} {x c : V} {t u : Value} {b : Bool} (k : ClsV c u) (ty : TyX K H x t) (e : PySem.W.kitOne K t u = some b) (h : Q (.bl b) H) : rIsi K [x, c] H Q := ⟨x, c, t, u, b, rfl, k, ty, e, h⟩
theorem go_isiB {K : PySem.W.Frag} {x : V} {a c : String} {b : Bool} (ty : TyX K H x (.type a)) (e : kitB a c = some b) (h : Q (.bl b) H) : rIsi K [x, .ty c] H Q := ⟨x, .ty c, .type a, .type c, b, rfl, .ty c, ty, kit_ty e, h⟩
theorem go_lst {t : TA} (h : t σ H fun vs H1 => vs.length ≤ sizeLine ∧ ∀ l, H1 l = none → Q (.ref l) (upd H1 l (.lst vs))) : tLst t σ H Q := h
theorem go_tup {t : TA} (h : t σ H fun vs H1 => vs.length ≤ sizeLine ∧ ∀ l, H1 l = none → Q (.ref l) (upd H1 l (.tup vs))) : tTup t σ H Q := h
theorem go_sl {r : V → Option Int → Option Int → Hp → VK → Prop} {tlo tho : TO} (h : te σ H fun x H1 => tlo σ H1 fun lo H2 => tho σ H2 fun hi H3 => r x lo hi H3 Q) : tSl r te tlo tho σ H Q := h
theorem go_noPart {R : Option Int → Hp → Prop} (h : R none H) : tNoPart σ H R := h
theorem go_part {R : Option Int → Hp → Prop} (h : te σ H fun x H1 => ∃ i, x = .int i ∧ R (some i) H1) : tPart te σ H R := h
theorem go_partI {a : Int} {R : Int → Prop} (h : R a) : ∃ i, V.int a = .int i ∧ R i := ⟨a, rfl, h⟩
theorem go_slL {K : PySem.W.Frag} {a : Addr} {xs : List V} {lo hi : Option Int} (hs : SqL K H a xs) (h : ∀ p, H p = none → Q (.ref p) (upd H p (.lst (cutV xs lo hi)))) : rSlL K (.ref a) lo hi H Q := ⟨a, xs, rfl, hs, h⟩
theorem go_ixL {K : PySem.W.Frag} {a : Addr} {xs : List V} {k : Int} {v : V} (hs : SqL K H a xs) (e : atI xs k = some v) (h : Q v H) : rIxL K (.ref a) (.int k) H Q := ⟨a, xs, k, v, rfl, rfl, hs, e, h⟩
theorem go_ixT {K : PySem.W.Frag} {a : Addr} {xs : List V} {k : Int} {v : V} (hs : SqT K H a xs) (e : atI xs k = some v) (h : Q v H) : rIxT K (.ref a) (.int k) H Q := ⟨a, xs, k, v, rfl, rfl, hs, e, h⟩
end
/-! ### isinstance of scalars -/
theorem isi_int_int {K : PySem.W.Frag} {H : Hp} {Q : VK} {k : Int} (h : Q (.bl true) H) : rIsi K [(V.int k), .ty "int"] H Q := go_isiB (.base (.int _)) (by decide +kernel) h
theorem isi_int_bool {K : PySem.W.Frag} {H : Hp} {Q : VK} {k : Int} (h : Q (.bl false) H) : rIsi K [(V.int k), .ty "bool"] H Q := go_isiB (.base (.int _)) (by decide +kernel) h
theorem isi_int_str {K : PySem.W.Frag} {H : Hp} {Q : VK} {k : Int} (h : Q (.bl false) H) : rIsi K [(V.int k), .ty "str"] H Q := go_isiB (.base (.int _)) (by decide +kernel) h
theorem isi_int_list {K : PySem.W.Frag} {H : Hp} {Q : VK} {k : Int} (h : Q (.bl false) H) : rIsi K [(V.int k), .ty "list"] H Q := go_isiB (.base (.int _)) (by decide +kernel) h
theorem isi_int_tuple {K : PySem.W.Frag} {H : Hp} {Q : VK} {k : Int} (h : Q (.bl false) H) : rIsi K [(V.int k), .ty "tuple"] H Q := go_isiB (.base (.int _)) (by decide +kernel) h
theorem isi_bool_int {K : PySem.W.Frag} {H : Hp} {Q : VK} {k : Bool} (h : Q (.bl true) H) : rIsi K [(V.bl k), .ty "int"] H Q := go_isiB (.base (.bl _)) (by decide +kernel) h
theorem isi_bool_bool {K : PySem.W.Frag} {H : Hp} {Q : VK} {k : Bool} (h : Q (.bl true) H) : rIsi K [(V.bl k), .ty "bool"] H Q := go_isiB (.base (.bl _)) (by decide +kernel) h
theorem isi_bool_str {K : PySem.W.Frag} {H : Hp} {Q : VK} {k : Bool} (h : Q (.bl false) H) : rIsi K [(V.bl k), .ty "str"] H Q := go_isiB (.base (.bl _)) (by decide +kernel) h
theorem isi_bool_list {K : PySem.W.Frag} {H : Hp} {Q : VK} {k : Bool} (h : Q (.bl false) H) : rIsi K [(V.bl k), .ty "list"] H Q := go_isiB (.base (.bl _)) (by decide +kernel) h
theorem isi_bool_tuple {K : PySem.W.Frag} {H : Hp} {Q : VK} {k : Bool} (h : Q (.bl false) H) : rIsi K [(V.bl k), .ty "tuple"] H Q := go_isiB (.base (.bl _)) (by decide +kernel) h
theorem isi_str_int {K : PySem.W.Frag} {H : Hp} {Q : VK} {k : Str} (h : Q (.bl false) H) : rIsi K [(V.str k), .ty "int"] H Q := go_isiB (.base (.str _)) (by decide +kernel) h
theorem isi_str_bool {K : PySem.W.Frag} {H : Hp} {Q : VK} {k : Str} (h : Q (.bl false) H) : rIsi K [(V.str k), .ty "bool"] H Q := go_isiB (.base (.str _)) (by decide +kernel) h
theorem isi_str_str {K : PySem.W.Frag} {H : Hp} {Q : VK} {k : Str} (h : Q (.bl true) H) : rIsi K [(V.str k), .ty "str"] H Q := go_isiB (.base (.str _)) (by decide +kernel) h
theorem isi_str_list {K : PySem.W.Frag} {H : Hp} {Q : VK} {k : Str} (h : Q (.bl false) H) : rIsi K [(V.str k), .ty "list"] H Q := go_isiB (.base (.str _)) (by decide +kernel) h
theorem isi_str_tuple {K : PySem.W.Frag} {H : Hp} {Q : VK} {k : Str} (h : Q (.bl false) H) : rIsi K [(V.str k), .ty "tuple"] H Q := go_isiB (.base (.str _)) (by decide +kernel) h
theorem isi_NoneType_int {K : PySem.W.Frag} {H : Hp} {Q : VK} (h : Q (.bl false) H) : rIsi K [V.non, .ty "int"] H Q := go_isiB (.base .non) (by decide +kernel) h
theorem isi_NoneType_bool {K : PySem.W.Frag} {H : Hp} {Q : VK} (h : Q (.bl false) H) : rIsi K [V.non, .ty "bool"] H Q := go_isiB (.base .non) (by decide +kernel) h
theorem isi_NoneType_str {K : PySem.W.Frag} {H : Hp} {Q : VK} (h : Q (.bl false) H) : rIsi K [V.non, .ty "str"] H Q := go_isiB (.base .non) (by decide +kernel) h
theorem isi_NoneType_list {K : PySem.W.Frag} {H : Hp} {Q : VK} (h : Q (.bl false) H) : rIsi K [V.non, .ty "list"] H Q := go_isiB (.base .non) (by decide +kernel) h
theorem isi_NoneType_tuple {K : PySem.W.Frag} {H : Hp} {Q : VK} (h : Q (.bl false) H) : rIsi K [V.non, .ty "tuple"] H Q := go_isiB (.base .non) (by decide +kernel) h
theorem isi_list_int {K : PySem.W.Frag} {H : Hp} {Q : VK} {p : Addr} {xs : List V} (e : H p = some (.lst xs)) (h : Q (.bl false) H) : rIsi K [.ref p, .ty "int"] H Q := go_isiB (.base (.lst e)) (by decide +kernel) h
theorem isi_list_bool {K : PySem.W.Frag} {H : Hp} {Q : VK} {p : Addr} {xs : List V} (e : H p = some (.lst xs)) (h : Q (.bl false) H) : rIsi K [.ref p, .ty "bool"] H Q := go_isiB (.base (.lst e)) (by decide +kernel) h
theorem isi_list_str {K : PySem.W.Frag} {H : Hp} {Q : VK} {p : Addr} {xs : List V} (e : H p = some (.lst xs)) (h : Q (.bl false) H) : rIsi K [.ref p, .ty "str"] H Q := go_isiB (.base (.lst e)) (by decide +kernel) h
theorem isi_list_list {K : PySem.W.Frag} {H : Hp} {Q : VK} {p : Addr} {xs : List V} (e : H p = some (.lst xs)) (h : Q (.bl true) H) : rIsi K [.ref p, .ty "list"] H Q := go_isiB (.base (.lst e)) (by decide +kernel) h
theorem isi_list_tuple {K : PySem.W.Frag} {H : Hp} {Q : VK} {p : Addr} {xs : List V} (e : H p = some (.lst xs)) (h : Q (.bl false) H) : rIsi K [.ref p, .ty "tuple"] H Q := go_isiB (.base (.lst e)) (by decide +kernel) h
theorem isi_tuple_int {K : PySem.W.Frag} {H : Hp} {Q : VK} {p : Addr} {xs : List V} (e : H p = some (.tup xs)) (h : Q (.bl false) H) : rIsi K [.ref p, .ty "int"] H Q := go_isiB (.base (.tup e)) (by decide +kernel) h
theorem isi_tuple_bool {K : PySem.W.Frag} {H : Hp} {Q : VK} {p : Addr} {xs : List V} (e : H p = some (.tup xs)) (h : Q (.bl false) H) : rIsi K [.ref p, .ty "bool"] H Q := go_isiB (.base (.tup e)) (by decide +kernel) h
theorem isi_tuple_str {K : PySem.W.Frag} {H : Hp} {Q : VK} {p : Addr} {xs : List V} (e : H p = some (.tup xs)) (h : Q (.bl false) H) : rIsi K [.ref p, .ty "str"] H Q := go_isiB (.base (.tup e)) (by decide +kernel) h
theorem isi_tuple_list {K : PySem.W.Frag} {H : Hp} {Q : VK} {p : Addr} {xs : List V} (e : H p = some (.tup xs)) (h : Q (.bl false) H) : rIsi K [.ref p, .ty "list"] H Q := go_isiB (.base (.tup e)) (by decide +kernel) h
theorem isi_tuple_tuple {K : PySem.W.Frag} {H : Hp} {Q : VK} {p : Addr} {xs : List V} (e : H p = some (.tup xs)) (h : Q (.bl true) H) : rIsi K [.ref p, .ty "tuple"] H Q := go_isiB (.base (.tup e)) (by decide +kernel) h
section
variable {D : Ends} {σ : L2.St} {H : Hp} {t u c : TS} {te ta tb tc tl th : TE} {i : Nat} {Q : VK} {QB : Bool → Hp → Prop}
/-! ### what a test comes to -/
theorem ite_d {p : Prop} [Decidable p] {A B : Prop} (h1 : p → A) (h2 : ¬ p → B) : if decide p = true then A else B := by
  by_cases h : p
  · rw [decide_eq_true h]; exact h1 h
  · rw [decide_eq_false h]; exact h2 h
theorem ite_nd {p : Prop} [Decidable p] {A B : Prop} (h1 : ¬ p → A) (h2 : p → B) : if (!decide p) = true then A else B := by
  by_cases h : p
  · rw [decide_eq_true h]; exact h2 h
  · rw [decide_eq_false h]; exact h1 h
theorem ite_nt {A B : Prop} (h : B) : if (!true) = true then A else B := h
theorem ite_nf {A B : Prop} (h : A) : if (!false) = true then A else B := h
theorem ite_b {b : Bool} {A B : Prop} (h1 : b = true → A) (h2 : b = false → B) : if b = true then A else B := by
  cases b with
  | true => exact h1 rfl
  | false => exact h2 rfl
end
/-! ### readings by name -/
section
variable {X : Cx} {H : Hp} {Q : VK} {K : PySem.W.Frag}
def qInt1 : List V → Hp → VK → Prop := fun xs H Q => (∃ i, xs = [.int i] ∧ Q (.int i) H) ∨ ∃ k, xs = [.bl k] ∧ Q (.int (if k then 1 else 0)) H
theorem k_int1 : CallR X (.type "int") qInt1 := call_int1
theorem go_int1 {a : Int} (h : Q (.int a) H) : qInt1 [.int a] H Q := .inl ⟨a, rfl, h⟩
theorem go_intB {b : Bool} (h : Q (.int (if b then 1 else 0)) H) : qInt1 [.bl b] H Q := .inr ⟨b, rfl, h⟩
def qBool1 : List V → Hp → VK → Prop := fun xs H Q => (∃ i, xs = [.int i] ∧ Q (.bl (i != 0)) H) ∨ ∃ k, xs = [.bl k] ∧ Q (.bl k) H
theorem k_bool1 : CallR X (.type "bool") qBool1 := call_bool1
theorem go_bool1 {a : Int} (h : Q (.bl (a != 0)) H) : qBool1 [.int a] H Q := .inl ⟨a, rfl, h⟩
theorem go_boolB {b : Bool} (h : Q (.bl b) H) : qBool1 [.bl b] H Q := .inr ⟨b, rfl, h⟩
def qStrInt : List V → Hp → VK → Prop := fun xs H Q => ∃ i, xs = [.int i] ∧ i.natAbs.log2 < 1920 ∧ Q (.str (toString i)) H
theorem k_str_int : CallR X (.type "str") qStrInt := call_str_int
theorem go_str_int {a : Int} (ha : a.natAbs.log2 < 1920) (h : Q (.str (toString a)) H) : qStrInt [.int a] H Q := ⟨a, rfl, ha, h⟩
def qAbs : List V → Hp → VK → Prop := fun xs H Q => ∃ i, xs = [.int i] ∧ Q (.int (if i < 0 then -i else i)) H
theorem k_abs : CallR X (.builtin "abs") qAbs := call_abs
theorem go_abs {a : Int} (h : Q (.int (if a < 0 then -a else a)) H) : qAbs [.int a] H Q := ⟨a, rfl, h⟩
def qMax2 : List V → Hp → VK → Prop := fun xs H Q => ∃ i j, xs = [.int i, .int j] ∧ Q (.int (if j > i then j else i)) H
theorem k_max2 (hc : X.calm = true) : CallR X (.builtin "max") qMax2 := call_max2 hc
theorem go_max2 {a b : Int} (h : Q (.int (if b > a then b else a)) H) : qMax2 [.int a, .int b] H Q := ⟨a, b, rfl, h⟩
def qMin2 : List V → Hp → VK → Prop := fun xs H Q => ∃ i j, xs = [.int i, .int j] ∧ Q (.int (if j < i then j else i)) H
theorem k_min2 (hc : X.calm = true) : CallR X (.builtin "min") qMin2 := call_min2 hc
theorem go_min2 {a b : Int} (h : Q (.int (if b < a then b else a)) H) : qMin2 [.int a, .int b] H Q := ⟨a, b, rfl, h⟩
def qOrd : List V → Hp → VK → Prop := fun xs H Q => ∃ x, xs = [.str x] ∧ x.length = 1 ∧ Q (.int (x.cps.getD 0 0 : Nat)) H
theorem k_ord : CallR X (.builtin "ord") qOrd := call_ord
theorem go_ord {c : Nat} (h : Q (.int (c : Nat)) H) : qOrd [.str ⟨#[c]⟩] H Q := ⟨⟨#[c]⟩, rfl, rfl, h⟩
def qLen (K : PySem.W.Frag) : List V → Hp → VK → Prop := fun xs H Q => ∃ x n, xs = [x] ∧ LenV K x H n ∧ Q (.int n) H
theorem k_len : CallR X (.builtin "len") (qLen X.K) := call_len
theorem go_lenL {a : Addr} {xs : List V} (hs : SqL K H a xs) (h : Q (.int (xs.length : Nat)) H) : qLen K [.ref a] H Q := ⟨.ref a, xs.length, rfl, .inl ⟨xs, hs, rfl⟩, h⟩
theorem go_lenT {a : Addr} {xs : List V} (hs : SqT K H a xs) (h : Q (.int (xs.length : Nat)) H) : qLen K [.ref a] H Q := ⟨.ref a, xs.length, rfl, .inr ⟨xs, hs, rfl⟩, h⟩
theorem go_lenS {y : Str} (hz : y.length ≤ sizeLine) (h : Q (.int (y.length : Nat)) H) : qLen K [.str y] H Q := ⟨.str y, y.length, rfl, ⟨hz, rfl⟩, h⟩
def qListOf (K : PySem.W.Frag) : List V → Hp → VK → Prop := fun xs H Q => ∃ p ys, xs = [.ref p] ∧ (SqL K H p ys ∨ SqT K H p ys) ∧ ∀ l, H l = none → Q (.ref l) (upd H l (.lst ys))
theorem k_list_of : CallR X (.type "list") (qListOf X.K) := call_list_of
theorem go_listOfL {a : Addr} {xs : List V} (hs : SqL K H a xs) (h : ∀ l, H l = none → Q (.ref l) (upd H l (.lst xs))) : qListOf K [.ref a] H Q := ⟨a, xs, rfl, .inl hs, h⟩
theorem go_listOfT {a : Addr} {xs : List V} (hs : SqT K H a xs) (h : ∀ l, H l = none → Q (.ref l) (upd H l (.lst xs))) : qListOf K [.ref a] H Q := ⟨a, xs, rfl, .inr hs, h⟩
def qTupOf (K : PySem.W.Frag) : List V → Hp → VK → Prop := fun xs H Q => ∃ p ys, xs = [.ref p] ∧ ((SqL K H p ys ∧ ∀ l, H l = none → Q (.ref l) (upd H l (.tup ys))) ∨ (SqT K H p ys ∧ Q (.ref p) H))
theorem k_tuple_of : CallR X (.type "tuple") (qTupOf X.K) := call_tuple_of
theorem go_tupOfL {a : Addr} {xs : List V} (hs : SqL K H a xs) (h : ∀ l, H l = none → Q (.ref l) (upd H l (.tup xs))) : qTupOf K [.ref a] H Q := ⟨a, xs, rfl, .inl ⟨hs, h⟩⟩
theorem go_tupOfT {a : Addr} {xs : List V} (hs : SqT K H a xs) (h : Q (.ref a) H) : qTupOf K [.ref a] H Q := ⟨a, xs, rfl, .inr ⟨hs, h⟩⟩
theorem go_sum {a : Addr} {ns : List Int} (hs : SqL K H a (ns.map V.int)) (h : Q (.int ns.sum) H) : rSum K [.ref a] H Q := ⟨a, ns, rfl, hs, h⟩
theorem go_all {a : Addr} {bs : List Bool} (hs : SqL K H a (bs.map V.bl)) (h : Q (.bl (bs.all id)) H) : rAll K [.ref a] H Q := ⟨a, bs, rfl, hs, h⟩
theorem go_any {a : Addr} {bs : List Bool} (hs : SqL K H a (bs.map V.bl)) (h : Q (.bl (bs.any id)) H) : rAny K [.ref a] H Q := ⟨a, bs, rfl, hs, h⟩
def qIsN : R2 := fun x y H Q => y = .non ∧ Q (.bl (decide (x = .non))) H
theorem o_isN : OpR X (compareOp .Is) qIsN := op_isN
def qNotN : R2 := fun x y H Q => y = .non ∧ Q (.bl (!decide (x = .non))) H
theorem o_notN : OpR X (compareOp .IsNot) qNotN := op_notN
theorem go_isN0 (h : Q (.bl true) H) : qIsN .non .non H Q := ⟨rfl, by simpa using h⟩
theorem go_isNI {i : Int} (h : Q (.bl false) H) : qIsN (.int i) .non H Q := ⟨rfl, by simpa using h⟩
theorem go_isNS {i : Str} (h : Q (.bl false) H) : qIsN (.str i) .non H Q := ⟨rfl, by simpa using h⟩
theorem go_isNB {i : Bool} (h : Q (.bl false) H) : qIsN (.bl i) .non H Q := ⟨rfl, by simpa using h⟩
theorem go_isNR {i : Addr} (h : Q (.bl false) H) : qIsN (.ref i) .non H Q := ⟨rfl, by simpa using h⟩
theorem go_notN0 (h : Q (.bl false) H) : qNotN .non .non H Q := ⟨rfl, by simpa using h⟩
theorem go_notNI {i : Int} (h : Q (.bl true) H) : qNotN (.int i) .non H Q := ⟨rfl, by simpa using h⟩
theorem go_notNS {i : Str} (h : Q (.bl true) H) : qNotN (.str i) .non H Q := ⟨rfl, by simpa using h⟩
theorem go_notNB {i : Bool} (h : Q (.bl true) H) : qNotN (.bl i) .non H Q := ⟨rfl, by simpa using h⟩
theorem go_notNR {i : Addr} (h : Q (.bl true) H) : qNotN (.ref i) .non H Q := ⟨rfl, by simpa using h⟩
def qLtS : R2 := fun x y H Q => ∃ i j, x = .str i ∧ y = .str j ∧ Q (.bl (decide (i.cps.toList < j.cps.toList))) H
theorem o_lt_str : OpR X (compareOp .Lt) qLtS := op_lt_str
theorem go_ltS {a b : Str} (h : Q (.bl (decide (a.cps.toList < b.cps.toList))) H) : qLtS (.str a) (.str b) H Q := ⟨a, b, rfl, rfl, h⟩
def qLeS : R2 := fun x y H Q => ∃ i j, x = .str i ∧ y = .str j ∧ Q (.bl (!decide (j.cps.toList < i.cps.toList))) H
theorem o_le_str : OpR X (compareOp .LtE) qLeS := op_le_str
theorem go_leS {a b : Str} (h : Q (.bl (!decide (b.cps.toList < a.cps.toList))) H) : qLeS (.str a) (.str b) H Q := ⟨a, b, rfl, rfl, h⟩
def qAddS : R2 := fun x y H Q => ∃ i j, x = .str i ∧ y = .str j ∧ i.length + j.length ≤ sizeLine ∧ Q (.str (i ++ j)) H
theorem o_add_str : OpR X (binaryOp .Add) qAddS := op_add_str
theorem go_addS {a b : Str} (hz : a.length + b.length ≤ sizeLine) (h : Q (.str (a ++ b)) H) : qAddS (.str a) (.str b) H Q := ⟨a, b, rfl, rfl, hz, h⟩
theorem go_cat {l b : Addr} {xs zs : List V} (h1 : H l = some (.lst xs)) (h2 : H b = some (.lst zs)) (hz : xs.length + zs.length ≤ sizeLine) (h : ∀ p, H p = none → Q (.ref p) (upd H p (.lst (xs ++ zs)))) : rCat (.ref l) (.ref b) H Q := ⟨l, b, xs, zs, rfl, rfl, h1, h2, hz, h⟩
theorem go_slS {z : Str} {lo hi : Option Int} (hz : z.length ≤ sizeLine) (h : Q (.str (cutS z lo hi)) H) : rSlS (.str z) lo hi H Q := ⟨z, rfl, hz, h⟩
theorem go_ixS {z : Str} {i : Int} {c : Nat} (hz : z.length ≤ sizeLine) (e : atI z.cps.toList i = some c) (h : Q (.str ⟨#[c]⟩) H) : rIxS (.str z) (.int i) H Q := ⟨z, i, c, rfl, rfl, hz, e, h⟩
theorem go_append {l : Addr} {xs : List V} {y : V} (e : H l = some (.lst xs)) (hz : xs.length < sizeLine) (h : Q .non (upd H l (.lst (xs ++ [y])))) : rAppend (.ref l) [y] H Q := ⟨l, xs, y, rfl, rfl, e, hz, h⟩
theorem go_BM {T : String} {r : V → List V → Hp → VK → Prop} {to : TE} {t : TA} {σ : L2.St} (h : to σ H fun x H1 => tyV K T x H1 ∧ t σ H1 fun xs H2 => r x xs H2 Q) : tBM K T r to t σ H Q := h
theorem go_BM0 {T : String} {r : V → List V → Hp → VK → Prop} {to : TE} {σ : L2.St} (h : to σ H fun x H1 => tyV K T x H1 ∧ r x [] H1 Q) : tBM0 K T r to σ H Q := h
end
/-! ### rules within a comprehension: the written part told apart -/
section
variable {X : Cx} {K : PySem.W.Frag} {e : Expr} {ta : TE} {f : Str} {pos : Pos}
theorem pe_fldK (hK : X.K = K) (he : PE X e ta) (hb : attributeBase e f X.env (eval e X.env) = eval e X.env) : PE X (.Attribute e f pos) (tFld K ta f) := by subst hK; exact pe_fld he hb
theorem ix_listK (hK : X.K = K) : IxR X (rIxL K) := by subst hK; exact ix_list
theorem ix_tupK (hK : X.K = K) : IxR X (rIxT K) := by subst hK; exact ix_tup
theorem ix_seqK (hK : X.K = K) : IxR X (rIx K) := by subst hK; exact ix_seq
theorem sl_listK (hK : X.K = K) : SlR X (rSlL K) := by subst hK; exact sl_list
theorem k_lenK (hK : X.K = K) : CallR X (.builtin "len") (qLen K) := by subst hK; exact k_len
theorem call_isiK (hK : X.K = K) : CallR X (.builtin "isinstance") (rIsi K) := by subst hK; exact call_isi
theorem k_list_ofK (hK : X.K = K) : CallR X (.type "list") (qListOf K) := by subst hK; exact k_list_of
theorem k_tuple_ofK (hK : X.K = K) : CallR X (.type "tuple") (qTupOf K) := by subst hK; exact k_tuple_of
theorem cr_sumK (hK : X.K = K) (hc : X.calm = true) : CallR X (.builtin "sum") (rSum K) := by subst hK; exact cr_sum hc
theorem cr_allK (hK : X.K = K) (hc : X.calm = true) : CallR X (.builtin "all") (rAll K) := by subst hK; exact cr_all hc
theorem cr_anyK (hK : X.K = K) (hc : X.calm = true) : CallR X (.builtin "any") (rAny K) := by subst hK; exact cr_any hc
theorem op_in_seqK (hK : X.K = K) : OpR X (compareOp .In) (rIn K false) := by subst hK; exact op_in_seq
theorem op_notIn_seqK (hK : X.K = K) : OpR X (compareOp .NotIn) (rIn K true) := by subst hK; exact op_notIn_seq
theorem op_eqDK (hK : X.K = K) (hu : X.A.units + 64 < cLine) : OpR X (compareOp .Eq) (rEqD K) := by subst hK; exact op_eqD hu
theorem op_neDK (hK : X.K = K) (hu : X.A.units + 64 < cLine) : OpR X (compareOp .NotEq) (rNeD K) := by subst hK; exact op_neD hu
end
/-! ### heaps -/
theorem same_new {H : Hp} {p : Addr} {o : HO} (h : H p = none) : Same H (upd H p o) := fun b x e => by
  rw [upd_ne (ne_of_none e h)]
  exact e
/-- an object that H does not know may change -/
theorem same_mut {H H' : Hp} {p : Addr} {o : HO} (e : Same H H') (h : H p = none) : Same H (upd H' p o) := fun a u ha => by
  rw [upd_ne (ne_of_none ha h)]
  exact e a u ha
theorem same_sqL {K : PySem.W.Frag} {H H' : Hp} {a : Addr} {xs : List V} (e : Same H H') (h : SqL K H a xs) : SqL K H' a xs := e.seq h
theorem same_rd {H H' : Hp} {a : Addr} {u : HO} (e : Same H H') (h : Rd H a u) : Rd H' a u := by
  rcases h with h | ⟨o, h⟩
  · exact Or.inl (e a _ h)
  · exact Or.inr ⟨o, e a _ h⟩
theorem same_sqT {K : PySem.W.Frag} {H H' : Hp} {a : Addr} {xs : List V} (e : Same H H') (h : SqT K H a xs) : SqT K H' a xs := by
  rcases h with h | h
  · exact Or.inl (same_rd e h)
  · exact Or.inr h
theorem sz {n : Nat} (h : n ≤ 100000) : n ≤ sizeLine := Nat.le_trans h (by decide)
theorem szlt {n : Nat} (h : n ≤ 100000) : n < sizeLine := Nat.lt_of_le_of_lt h (by decide)
/-- the list of ints at a place in bounds -/
theorem at_nat {xs : List V} {i : Nat} {v : V} (h : xs[i]? = some v) : atI xs (i : Int) = some v := atI_nat h
theorem at_int {ns : List Int} {k : Int} (h0 : 0 ≤ k) (h : k < ns.length) : atI (ns.map V.int) k = some (.int (ns.getD k.toNat 0)) := by
  have e : k = (k.toNat : Int) := by omega
  have h2 : k.toNat < ns.length := by omega
  rw [e]
  refine at_nat ?_
  rw [List.getElem?_map, Int.toNat_natCast, List.getElem?_eq_getElem h2, List.getD_eq_getElem?_getD, List.getElem?_eq_getElem h2]
  rfl
/-! ### lists of ints: ==, slices, sums -/
theorem dp_ints {K : PySem.W.Frag} {H : Hp} : ∀ ns : List Int, DpAll K H (ns.map V.int) (ns.map PyData.int)
  | [] => .nil
  | n :: r => .cons (.int n) (dp_ints r)
theorem eqv_int (a b : Int) : PyData.eqv (.int a) (.int b) = decide (a = b) := by
  simp only [PyData.eqv]
  by_cases h : a = b
  · simp [h]
  · simp [h]
theorem eqvAll_ints : ∀ xs ys : List Int, PyData.eqvAll (xs.map PyData.int) (ys.map PyData.int) = decide (xs = ys)
  | [], [] => by simp [PyData.eqvAll]
  | [], _ :: _ => by simp [PyData.eqvAll]
  | _ :: _, [] => by simp [PyData.eqvAll]
  | x :: xs, y :: ys => by
    simp only [List.map_cons, PyData.eqvAll, eqv_int, eqvAll_ints xs ys]
    by_cases h : x = y <;> by_cases h2 : xs = ys <;> simp [h, h2]
theorem eqv_ints (xs ys : List Int) : PyData.eqv (.list (xs.map PyData.int)) (.list (ys.map PyData.int)) = decide (xs = ys) := by
  rw [PyData.eqv]
  exact eqvAll_ints xs ys
theorem depth_ints : ∀ xs : List Int, PyData.depthAll (xs.map PyData.int) = 0
  | [] => rfl
  | x :: xs => by
    rw [List.map_cons]
    unfold PyData.depthAll
    rw [depth_ints xs]
    rfl
theorem canLay_ints : ∀ xs : List Int, PyData.canLayAll0 (xs.map PyData.int) = true
  | [] => rfl
  | x :: xs => by
    rw [List.map_cons]
    simp only [PyData.canLayAll0, PyData.canLay0, canLay_ints xs, Bool.and_self]
theorem shaped_ints (xs : List Int) : SeqAt.shaped (.list (xs.map PyData.int)) = true := by
  unfold SeqAt.shaped
  have h1 : PyData.canLay0 (.list (xs.map PyData.int)) = true := by
    simp only [PyData.canLay0]
    exact canLay_ints xs
  have h2 : PyData.depth (.list (xs.map PyData.int)) ≤ 64 := by
    unfold PyData.depth
    rw [depth_ints xs]
    decide
  rw [h1, decide_eq_true h2]
  rfl
theorem go_eqInts {K : PySem.W.Frag} {H : Hp} {Q : VK} {a b : Addr} {xs ys : List Int} (h1 : SqL K H a (xs.map V.int)) (h2 : SqL K H b (ys.map V.int)) (h : Q (.bl (decide (xs = ys))) H) : rEqD K (.ref a) (.ref b) H Q :=
  ⟨_, _, .lst h1 (dp_ints xs), .lst h2 (dp_ints ys), shaped_ints xs, shaped_ints ys, by rw [eqv_ints]; exact h⟩
theorem go_neInts {K : PySem.W.Frag} {H : Hp} {Q : VK} {a b : Addr} {xs ys : List Int} (h1 : SqL K H a (xs.map V.int)) (h2 : SqL K H b (ys.map V.int)) (h : Q (.bl (!decide (xs = ys))) H) : rNeD K (.ref a) (.ref b) H Q :=
  ⟨_, _, .lst h1 (dp_ints xs), .lst h2 (dp_ints ys), shaped_ints xs, shaped_ints ys, by rw [eqv_ints]; exact h⟩
theorem cut_to (xs : List V) (k : Nat) : cutV xs none (some (k : Int)) = xs.take k := by
  unfold cutV
  rw [HT.sIx_none, HT.sIx_nat, List.drop_zero, Nat.sub_zero]
  rcases Nat.le_total k xs.length with h | h
  · rw [Nat.min_eq_left h]
  · rw [Nat.min_eq_right h, List.take_of_length_le (Nat.le_refl _), List.take_of_length_le h]
theorem cut_from (xs : List V) (k : Nat) : cutV xs (some (k : Int)) none = xs.drop k := by
  unfold cutV
  rw [HT.sIx_none, HT.sIx_nat]
  rcases Nat.le_total k xs.length with h | h
  · rw [Nat.min_eq_left h, List.take_of_length_le]
    rw [List.length_drop]
    exact Nat.le_refl _
  · rw [Nat.min_eq_right h, List.drop_of_length_le (Nat.le_refl _), List.drop_of_length_le h, List.take_nil]
theorem sum_take_succ (ws : List Int) (i : Nat) (h : i < ws.length) : (ws.take (i + 1)).sum = (ws.take i).sum + ws.getD i 0 := by
  rw [List.take_add_one, List.getElem?_eq_getElem h, List.sum_append, List.getD_eq_getElem?_getD, List.getElem?_eq_getElem h]
  simp
theorem sum_nonneg : ∀ {ws : List Int}, (∀ w ∈ ws, 0 ≤ w) → 0 ≤ ws.sum
  | [], _ => by simp
  | w :: r, h => by
    have h1 := h w (by simp)
    have h2 := sum_nonneg (ws := r) fun z hz => h z (by simp [hz])
    rw [List.sum_cons]
    omega
theorem sum_take_le {ws : List Int} (h : ∀ w ∈ ws, 0 ≤ w) (i : Nat) : (ws.take i).sum ≤ ws.sum := by
  have e := congrArg List.sum (List.take_append_drop i ws)
  rw [List.sum_append] at e
  have h2 := sum_nonneg (ws := ws.drop i) fun z hz => h z (List.mem_of_mem_drop hz)
  omega
/-- min, max as they are told -/
theorem lt_of_len {a b : Nat} (h : a < b) : (a : Int) < (b : Int) := by omega
/-! ### list comprehensions whose element changes nothing that stood -/
section
variable {K : PySem.W.Frag} {σ : L2.St} {H H1 : Hp} {Q : VK} {tl te : TE} {g : TG} {tt : TT} {vs : List Nat} {j : Nat} {wi : TI}
theorem go_iList {R : It → Hp → Prop} (h : tl σ H fun x H1 => ∃ a, x = .ref a ∧ (∃ xs, SqL K H1 a xs) ∧ R (Itl K a) H1) : iList K tl σ H R := h
theorem go_iListR {a : Addr} {xs : List V} {R : Addr → Prop} (hs : SqL K H a xs) (h : R a) : ∃ b, V.ref a = .ref b ∧ (∃ xs, SqL K H b xs) ∧ R b := ⟨a, rfl, ⟨xs, hs⟩, h⟩
theorem go_iRng1 {ta : TA} {R : It → Hp → Prop} (h : ta σ H fun vs H1 => ∃ j : Int, vs = [.int j] ∧ -(2 ^ 62) ≤ j ∧ j < 2 ^ 62 ∧ R (Itr 0 j.toNat) H1) : iRng1 ta σ H R := h
theorem go_iRng2 {ta : TA} {R : It → Hp → Prop} (h : ta σ H fun vs H1 => ∃ i j : Int, vs = [.int i, .int j] ∧ (-(2 ^ 62) ≤ i ∧ i < 2 ^ 62 ∧ -(2 ^ 62) ≤ j ∧ j < 2 ^ 62) ∧ R (Itr i (j - i).toNat) H1) : iRng2 ta σ H R := h
theorem go_rng1 {n : Int} {R : It → Hp → Prop} (hn : -(2 ^ 62) ≤ n ∧ n < 2 ^ 62) (h : R (Itr 0 n.toNat) H) : ∃ j : Int, [V.int n] = [.int j] ∧ -(2 ^ 62) ≤ j ∧ j < 2 ^ 62 ∧ R (Itr 0 j.toNat) H := ⟨n, rfl, hn.1, hn.2, h⟩
theorem go_rng2 {m n : Int} {R : It → Hp → Prop} (hm : -(2 ^ 62) ≤ m ∧ m < 2 ^ 62 ∧ -(2 ^ 62) ≤ n ∧ n < 2 ^ 62) (h : R (Itr m (n - m).toNat) H) :
    ∃ i j : Int, [V.int m, V.int n] = [.int i, .int j] ∧ (-(2 ^ 62) ≤ i ∧ i < 2 ^ 62 ∧ -(2 ^ 62) ≤ j ∧ j < 2 ^ 62) ∧ R (Itr i (j - i).toNat) H := ⟨m, n, rfl, hm, h⟩
theorem go_yes {QB : Bool → Hp → Prop} (h : QB true H) : tYes σ H QB := h
theorem go_lc (h : wi σ H fun J H1 => ∀ D, H1 D = none → ∃ W : Nat → Nat → Hp → Prop, (∃ m, W 0 m (upd H1 D (.lst []))) ∧ ∀ i m H, W i m H →
  (J.stop i H ∧ Q (.ref D) H) ∨ (J.go i H ∧ ∃ Nx : Hp → Prop, (∀ H', Nx H' → ∃ m', m' < m ∧ W (i + 1) m' H') ∧ ∀ x H', J.yld i H x H' → g x (wipe σ vs) H' fun σ2 H2 => wipe σ2 vs = wipe σ vs ∧ tt σ2 H2 fun b H3 =>
    if b = true then te σ2 H3 fun y H4 => ∃ acc, H4 D = some (.lst acc) ∧ acc.length < sizeLine ∧ Nx (upd H4 D (.lst (acc ++ [y]))) else Nx H3)) : tLc wi g tt te vs σ H Q := h
theorem go_for {D : Ends} {tb : TS} (h : wi σ H fun J H1 => ∃ W : Nat → Nat → L2.St → Hp → Prop, (∃ m, W 0 m σ H1) ∧ ∀ i m σ H, W i m σ H →
  (J.stop i H ∧ D.nx σ H) ∨ (J.go i H ∧ ∃ N : L2.St → Hp → Prop, (∀ σ' H', N σ' H' → ∃ m', m' < m ∧ W (i + 1) m' σ' H') ∧ ∀ x H', J.yld i H x H' → g x σ H' fun σ2 H2 => tb { D with nx := N, ct := N, bk := D.nx } σ2 H2)) : tFor wi g tb D σ H := h
/-- what is in the list being made: all of them so, and all else as it was -/
structure Acc (P : Nat → V → Prop) (H : Hp) (D : Addr) (i : Nat) (H' : Hp) : Prop where
  made : ∃ ys : List V, H' D = some (.lst ys) ∧ ys.length = i ∧ ∀ k y, ys[k]? = some y → P k y
  same : Same H H'
theorem acc_step {P : Nat → V → Prop} {H H' : Hp} {D : Addr} {i : Nat} {y : V} (hD : H D = none) (a : Acc P H D i H') (hy : P i y) (hi : i < 100000) : ∃ acc, H' D = some (.lst acc) ∧ acc.length < sizeLine ∧ Acc P H D (i + 1) (upd H' D (.lst (acc ++ [y]))) := by
  obtain ⟨⟨ys, e, hl, hp⟩, hs⟩ := a
  refine ⟨ys, e, szlt (by omega), ⟨ys ++ [y], upd_same, by simp [hl], fun k z hz => ?_⟩, same_mut hs hD⟩
  rcases Nat.lt_or_ge k ys.length with h | h
  · rw [List.getElem?_append_left h] at hz
    exact hp k z hz
  · rw [List.getElem?_append_right h] at hz
    rcases Nat.eq_or_lt_of_le h with e2 | e2
    · rw [← e2, Nat.sub_self] at hz
      cases hz
      rw [← e2, hl]
      exact hy
    · rw [List.getElem?_eq_none (by simp; omega)] at hz
      cases hz
theorem Acc.keep {P : Nat → V → Prop} {H H' H2 : Hp} {D : Addr} {i : Nat} (a : Acc P H D i H') (s : Same H' H2) : Acc P H D i H2 := by
  obtain ⟨⟨ys, e, hl, hp⟩, hs⟩ := a
  exact ⟨⟨ys, s _ _ e, hl, hp⟩, hs.trans s⟩
/-- [e for x in a list], behind the list's reading -/
theorem lcL {R : Addr → Hp → Prop} {a : Addr} (xs : List V) (P : Nat → V → Prop) (hs : SqL K H1 a xs) (hz : xs.length ≤ 100000) (hw : ∀ x, wipe ((wipe σ vs).set j x) vs = wipe σ vs)
    (he : ∀ (i : Nat) x H', xs[i]? = some x → Same H1 H' → ∀ R : VK, (∀ y H'', Same H' H'' → P i y → R y H'') → te ((wipe σ vs).set j (some x)) H' R)
    (q : ∀ D (ys : List V) H2, H1 D = none → Same H1 H2 → H2 D = some (.lst ys) → ys.length = xs.length → (∀ k y, ys[k]? = some y → P k y) → R D H2) :
    ∃ b, V.ref a = .ref b ∧ (∃ xs, SqL K H1 b xs) ∧ ∀ D, H1 D = none → ∃ W : Nat → Nat → Hp → Prop, (∃ m, W 0 m (upd H1 D (.lst []))) ∧ ∀ i m H, W i m H →
      ((Itl K b).stop i H ∧ R D H) ∨ ((Itl K b).go i H ∧ ∃ Nx : Hp → Prop, (∀ H', Nx H' → ∃ m', m' < m ∧ W (i + 1) m' H') ∧ ∀ x H', (Itl K b).yld i H x H' → gName j x (wipe σ vs) H' fun σ2 H2 => wipe σ2 vs = wipe σ vs ∧ tYes σ2 H2 fun b H3 =>
        if b = true then te σ2 H3 fun y H4 => ∃ acc, H4 D = some (.lst acc) ∧ acc.length < sizeLine ∧ Nx (upd H4 D (.lst (acc ++ [y]))) else Nx H3) := by
  refine ⟨a, rfl, ⟨xs, hs⟩, fun D hD => ?_⟩
  refine lc_list (xs := xs) (Acc P H1 D) ⟨⟨[], upd_same, rfl, fun k y h => by simp at h⟩, same_new hD⟩ (fun i H _ p => same_sqL p.same hs) (fun i x H hx p => ?_) fun H p => ?_
  · refine ⟨hw _, ?_⟩
    refine go_yes ?_
    refine iteT ?_
    refine he i x H hx p.same _ fun y H4 s4 hy => ?_
    have hi := (List.getElem?_eq_some_iff.mp hx).1
    exact acc_step hD (p.keep s4) hy (by omega)
  · obtain ⟨⟨ys, e, hl, hp⟩, s⟩ := p
    exact q D ys H hD s e hl hp
/-- [e for x in range(n)], behind the reading of n -/
theorem lcR1 {R : Addr → Hp → Prop} {n : Int} (P : Nat → V → Prop) (hz : n ≤ 100000) (hn : -(2 ^ 62) ≤ n) (hw : ∀ x, wipe ((wipe σ vs).set j x) vs = wipe σ vs)
    (he : ∀ (i : Nat) H', i < n.toNat → Same H1 H' → ∀ R : VK, (∀ y H'', Same H' H'' → P i y → R y H'') → te ((wipe σ vs).set j (some (.int i))) H' R)
    (q : ∀ D (ys : List V) H2, H1 D = none → Same H1 H2 → H2 D = some (.lst ys) → ys.length = n.toNat → (∀ k y, ys[k]? = some y → P k y) → R D H2) :
    ∃ k : Int, [V.int n] = [.int k] ∧ -(2 ^ 62) ≤ k ∧ k < 2 ^ 62 ∧ ∀ D, H1 D = none → ∃ W : Nat → Nat → Hp → Prop, (∃ m, W 0 m (upd H1 D (.lst []))) ∧ ∀ i m H, W i m H →
      ((Itr 0 k.toNat).stop i H ∧ R D H) ∨ ((Itr 0 k.toNat).go i H ∧ ∃ Nx : Hp → Prop, (∀ H', Nx H' → ∃ m', m' < m ∧ W (i + 1) m' H') ∧ ∀ x H', (Itr 0 k.toNat).yld i H x H' → gName j x (wipe σ vs) H' fun σ2 H2 => wipe σ2 vs = wipe σ vs ∧ tYes σ2 H2 fun b H3 =>
        if b = true then te σ2 H3 fun y H4 => ∃ acc, H4 D = some (.lst acc) ∧ acc.length < sizeLine ∧ Nx (upd H4 D (.lst (acc ++ [y]))) else Nx H3) := by
  refine ⟨n, rfl, hn, by omega, fun D hD => ?_⟩
  refine lc_range (lo := 0) (n := n.toNat) (Acc P H1 D) ⟨⟨[], upd_same, rfl, fun k y h => by simp at h⟩, same_new hD⟩ (fun i H hi p => ?_) fun H p => ?_
  · refine ⟨hw _, ?_⟩
    refine go_yes ?_
    refine iteT ?_
    rw [Int.zero_add]
    refine he i H hi p.same _ fun y H4 s4 hy => ?_
    exact acc_step hD (p.keep s4) hy (by omega)
  · obtain ⟨⟨ys, e, hl, hp⟩, s⟩ := p
    exact q D ys H hD s e hl hp
/-- for x in a list, behind the list's reading -/
theorem foL {D : Ends} {tb : TS} {a : Addr} (xs : List V) (Pv : Nat → L2.St → Hp → Prop) (h0 : Pv 0 σ H1) (hl : ∀ i σ H, i ≤ xs.length → Pv i σ H → SqL K H a xs)
    (hs : ∀ i x σ H, xs[i]? = some x → Pv i σ H → g x σ H fun σ2 H2 => tb { D with nx := Pv (i + 1), ct := Pv (i + 1), bk := D.nx } σ2 H2) (hd : ∀ σ H, Pv xs.length σ H → D.nx σ H) :
    ∃ b, V.ref a = .ref b ∧ (∃ xs, SqL K H1 b xs) ∧ ∃ W : Nat → Nat → L2.St → Hp → Prop, (∃ m, W 0 m σ H1) ∧ ∀ i m σ H, W i m σ H →
      ((Itl K b).stop i H ∧ D.nx σ H) ∨ ((Itl K b).go i H ∧ ∃ N : L2.St → Hp → Prop, (∀ σ' H', N σ' H' → ∃ m', m' < m ∧ W (i + 1) m' σ' H') ∧ ∀ x H', (Itl K b).yld i H x H' → g x σ H' fun σ2 H2 => tb { D with nx := N, ct := N, bk := D.nx } σ2 H2) :=
  ⟨a, rfl, ⟨xs, hl 0 σ H1 (Nat.zero_le _) h0⟩, for_list Pv h0 hl hs hd⟩
/-- for x in range(n), behind the reading of n -/
theorem foR1 {D : Ends} {tb : TS} {n : Int} (Pv : Nat → L2.St → Hp → Prop) (hn : -(2 ^ 62) ≤ n ∧ n < 2 ^ 62) (h0 : Pv 0 σ H1)
    (hs : ∀ (i : Nat) σ H, (i : Int) < n → Pv i σ H → g (.int i) σ H fun σ2 H2 => tb { D with nx := Pv (i + 1), ct := Pv (i + 1), bk := D.nx } σ2 H2) (hd : ∀ σ H, Pv n.toNat σ H → D.nx σ H) :
    ∃ k : Int, [V.int n] = [.int k] ∧ -(2 ^ 62) ≤ k ∧ k < 2 ^ 62 ∧ ∃ W : Nat → Nat → L2.St → Hp → Prop, (∃ m, W 0 m σ H1) ∧ ∀ i m σ H, W i m σ H →
      ((Itr 0 k.toNat).stop i H ∧ D.nx σ H) ∨ ((Itr 0 k.toNat).go i H ∧ ∃ N : L2.St → Hp → Prop, (∀ σ' H', N σ' H' → ∃ m', m' < m ∧ W (i + 1) m' σ' H') ∧ ∀ x H', (Itr 0 k.toNat).yld i H x H' → g x σ H' fun σ2 H2 => tb { D with nx := N, ct := N, bk := D.nx } σ2 H2) :=
  ⟨n, rfl, hn.1, hn.2, for_range Pv h0 (fun i σ H hi p => by rw [Int.zero_add]; exact hs i σ H (by omega) p) hd⟩
/-- while, by a measure that the invariant bears -/
theorem go_while {D : Ends} {c : TT} {tb : TS} (W : Nat → L2.St → Hp → Prop) (m : Nat) (h0 : W m σ H) (hs : ∀ m σ H, W m σ H → c σ H fun b H1 => if b = true then ∃ N : L2.St → Hp → Prop, (∀ σ' H', N σ' H' → ∃ m', m' < m ∧ W m' σ' H') ∧ tb { D with nx := N, ct := N, bk := D.nx } σ H1 else D.nx σ H1) :
    tWhile c tb D σ H := ⟨W, ⟨m, h0⟩, hs⟩
theorem go_loop {D : Ends} {tb : TS} {W : Nat → L2.St → Hp → Prop} {m : Nat} (h : tb { D with nx := fun σ' H' => ∃ m', m' < m ∧ W m' σ' H', ct := fun σ' H' => ∃ m', m' < m ∧ W m' σ' H', bk := D.nx } σ H) :
    ∃ N : L2.St → Hp → Prop, (∀ σ' H', N σ' H' → ∃ m', m' < m ∧ W m' σ' H') ∧ tb { D with nx := N, ct := N, bk := D.nx } σ H := ⟨_, fun _ _ h => h, h⟩
end
/-- all ints, each so -/
theorem ints_of {P : Int → Prop} : ∀ {ys : List V}, (∀ (k : Nat) y, ys[k]? = some y → ∃ w, y = V.int w ∧ P w) → ∃ ws : List Int, ys = ws.map V.int ∧ ∀ w ∈ ws, P w
  | [], _ => ⟨[], rfl, fun _ h => nomatch h⟩
  | y :: r, h => by
    obtain ⟨w, e, p⟩ := h 0 y rfl
    obtain ⟨ws, e2, p2⟩ := ints_of (ys := r) fun k z hz => h (k + 1) z hz
    refine ⟨w :: ws, by rw [e, e2, List.map_cons], fun z hz => ?_⟩
    rcases List.mem_cons.mp hz with rfl | hz
    · exact p
    · exact p2 z hz
end Gx

set_option Elab.async false
set_option linter.all false
set_option maxRecDepth 100000
set_option maxHeartbeats 4000000
/-! Own lemmas: a pool of numbers (a list that is changed by place), data, comprehensions that change it. -/
namespace Gx
open PySem PySem.Spec PyProof.Rows L2
section
variable {K : PySem.W.Frag} {σ : L2.St} {H H1 : Hp} {Q : VK} {tl te to ti : TE} {g : TG} {tt : TT} {vs : List Nat} {j : Nat} {wi : TI}
theorem go_sub {t : TSet} {v : V} {R : L2.St → Hp → Prop} (h : to σ H fun o H1 => ti σ H1 fun i H2 => t o i v H2 fun H3 => R σ H3) : gSub to ti t v σ H R := h
theorem go_setL {p : Addr} {xs : List V} {k : Int} {i : Nat} {v : V} {R : Hp → Prop} (e : H p = some (.lst xs)) (hi : ixN xs.length k = some i) (h : R (upd H p (.lst (xs.set i v)))) : rSetL (.ref p) (.int k) v H R :=
  ⟨p, xs, k, i, rfl, rfl, e, hi, h⟩
theorem go_setL2 {p : Addr} {xs : List V} {k : Int} {i : Nat} {v : V} {R : Hp → Prop} (hi : ixN xs.length k = some i) (h : R (upd H p (.lst (xs.set i v)))) : rSetL (.ref p) (.int k) v (upd H p (.lst xs)) R :=
  ⟨p, xs, k, i, rfl, rfl, upd_same, hi, by rw [upd_upd]; exact h⟩
theorem go_ixL2 {p : Addr} {xs : List V} {k : Int} {v : V} (e : atI xs k = some v) (h : Q v (upd H p (.lst xs))) : rIxL K (.ref p) (.int k) (upd H p (.lst xs)) Q := ⟨p, xs, k, v, rfl, rfl, .of upd_same, e, h⟩
theorem go_ixL1 {p : Addr} {xs : List V} {k : Int} {v : V} (h : H p = some (.lst xs)) (e : atI xs k = some v) (q : Q v H) : rIxL K (.ref p) (.int k) H Q := ⟨p, xs, k, v, rfl, rfl, .of h, e, q⟩
theorem go_ixT1 {p : Addr} {xs : List V} {k : Int} {v : V} (h : H p = some (.tup xs)) (e : atI xs k = some v) (q : Q v H) : rIxT K (.ref p) (.int k) H Q := ⟨p, xs, k, v, rfl, rfl, .of h, e, q⟩
end
/-- all else as it was -/
def But (a : Addr) (H H' : Hp) : Prop := ∀ b o, b ≠ a → H b = some o → H' b = some o
theorem But.refl (a : Addr) (H : Hp) : But a H H := fun _ _ _ h => h
theorem But.trans {a : Addr} {H H1 H2 : Hp} (h : But a H H1) (k : But a H1 H2) : But a H H2 := fun b o n e => k b o n (h b o n e)
theorem But.upd {a : Addr} {H H' : Hp} {o : HO} (h : But a H H') : But a H (upd H' a o) := fun b u n e => by rw [upd_ne n]; exact h b u n e
theorem But.new {a p : Addr} {H H' : Hp} {o : HO} (h : But a H H') (n : H' p = none) : But a H (L2.upd H' p o) := fun b u z e => by
  have q := h b u z e
  rw [upd_ne (ne_of_none q n)]
  exact q
theorem Same.but {a : Addr} {H H' : Hp} (s : Same H H') : But a H H' := fun b o _ e => s b o e
/-- a pool: where it stands, where its list of the script's numbers stands, these -/
structure Pl where
  a : Addr
  l : Addr
  ns : List Int
/-- the pool p stands in H; b: its budget -/
structure Pool (H : Hp) (p : Pl) (b : Int) : Prop where
  ex : ∃ (p1 p2 p3 p4 : Int), H p.a = some (.lst [.ref p.l, .int p1, .int p2, .int p3, .int p4, .int b]) ∧ 0 ≤ p1 ∧ 0 ≤ p3 ∧ p3 < 2147483647
  li : H p.l = some (.lst (p.ns.map V.int))
  ne : p.l ≠ p.a
theorem Pool.there {H : Hp} {p : Pl} {b : Int} (h : Pool H p b) : ∃ xs, H p.a = some (.lst xs) := let ⟨_, _, _, _, e, _⟩ := h.ex; ⟨_, e⟩
theorem Pool.same {H H' : Hp} {p : Pl} {b : Int} (h : Pool H p b) (s : Same H H') : Pool H' p b := by
  obtain ⟨p1, p2, p3, p4, e, k⟩ := h.ex
  exact ⟨⟨p1, p2, p3, p4, s _ _ e, k⟩, s _ _ h.li, h.ne⟩
theorem Pool.new {H : Hp} {p : Pl} {q : Addr} {b : Int} {o : HO} (h : Pool H p b) (n : H q = none) : Pool (upd H q o) p b := h.same (same_new n)
/-- another object is written -/
theorem Pool.upd {H : Hp} {p : Pl} {q : Addr} {b : Int} {o : HO} (h : Pool H p b) (n : q ≠ p.a) (n2 : q ≠ p.l) : Pool (upd H q o) p b := by
  obtain ⟨p1, p2, p3, p4, e, k⟩ := h.ex
  exact ⟨⟨p1, p2, p3, p4, by rw [upd_ne n.symm]; exact e, k⟩, by rw [upd_ne n2.symm]; exact h.li, h.ne⟩
/-- what is free behind was free before -/
theorem But.free {a p : Addr} {H H' : Hp} {o : HO} (h : But a H H') (e : H' a = some o) (n : H' p = none) : H p = none := by
  cases q : H p with
  | none => rfl
  | some u =>
    have ne : p ≠ a := fun z => by rw [z, e] at n; cases n
    rw [h p u ne q] at n
    cases n
/-- one pool's turn: the pool stands, all else is as it was -/
structure Turn (p : Pl) (b : Int) (H H' : Hp) : Prop where
  pool : Pool H' p b
  but : But p.a H H'
theorem Turn.refl {p : Pl} {b : Int} {H : Hp} (h : Pool H p b) : Turn p b H H := ⟨h, .refl p.a H⟩
theorem Turn.trans {p : Pl} {b b' : Int} {H H1 H2 : Hp} (h : Turn p b H H1) (k : Turn p b' H1 H2) : Turn p b' H H2 := ⟨k.pool, h.but.trans k.but⟩
theorem Turn.new {p : Pl} {q : Addr} {b : Int} {H H1 : Hp} {o : HO} (h : Turn p b H H1) (n : H1 q = none) : Turn p b H (upd H1 q o) := ⟨h.pool.new n, h.but.new n⟩
theorem Turn.same {p : Pl} {b : Int} {H H1 H2 : Hp} (h : Turn p b H H1) (s : Same H1 H2) : Turn p b H H2 := ⟨h.pool.same s, h.but.trans (Same.but s)⟩
theorem Turn.free {p : Pl} {q : Addr} {b : Int} {H H' : Hp} (h : Turn p b H H') (n : H' q = none) : H q = none := let ⟨_, e⟩ := h.pool.there; h.but.free e n
theorem Pool.nea {p : Pl} {q : Addr} {b : Int} {H : Hp} (h : Pool H p b) (n : H q = none) : q ≠ p.a := fun z => by
  obtain ⟨_, e⟩ := h.there
  rw [z, e] at n
  cases n
theorem Pool.nel {p : Pl} {q : Addr} {b : Int} {H : Hp} (h : Pool H p b) (n : H q = none) : q ≠ p.l := fun z => by
  rw [z, h.li] at n
  cases n
/-- a new list is written further -/
theorem Turn.mut {p : Pl} {q : Addr} {b b' : Int} {H H2 : Hp} {o : HO} (h0 : Pool H p b') (n : H q = none) (h : Turn p b H H2) : Turn p b H (upd H2 q o) :=
  ⟨h.pool.upd (h0.nea n) (h0.nel n), fun c u nc ec => by rw [upd_ne (ne_of_none ec n)]; exact h.but c u nc ec⟩

section
variable {K : PySem.W.Frag} {σ : L2.St} {H H1 : Hp} {Q : VK} {tl te : TE} {g : TG} {tt : TT} {vs : List Nat} {j : Nat} {wi : TI}
/-- [e for x in range(n)] whose element turns a pool -/
theorem lcPool {R : Addr → Hp → Prop} {n : Int} {p : Pl} {b : Int} (P : Nat → V → Prop) (hp : Pool H1 p b) (hz : n ≤ 100000) (hn : -(2 ^ 62) ≤ n) (hw : ∀ x, wipe ((wipe σ vs).set j x) vs = wipe σ vs)
    (he : ∀ (i : Nat) H', (i : Int) < n → Turn p b H1 H' → ∀ R : VK, (∀ y H'', Turn p b H' H'' → P i y → R y H'') → te ((wipe σ vs).set j (some (.int i))) H' R)
    (q : ∀ D (ys : List V) H2, H1 D = none → Turn p b H1 H2 → H2 D = some (.lst ys) → ys.length = n.toNat → (∀ k y, ys[k]? = some y → P k y) → R D H2) :
    ∃ k : Int, [V.int n] = [.int k] ∧ -(2 ^ 62) ≤ k ∧ k < 2 ^ 62 ∧ ∀ D, H1 D = none → ∃ W : Nat → Nat → Hp → Prop, (∃ m, W 0 m (upd H1 D (.lst []))) ∧ ∀ i m H, W i m H →
      ((Itr 0 k.toNat).stop i H ∧ R D H) ∨ ((Itr 0 k.toNat).go i H ∧ ∃ Nx : Hp → Prop, (∀ H', Nx H' → ∃ m', m' < m ∧ W (i + 1) m' H') ∧ ∀ x H', (Itr 0 k.toNat).yld i H x H' → gName j x (wipe σ vs) H' fun σ2 H2 => wipe σ2 vs = wipe σ vs ∧ tYes σ2 H2 fun b H3 =>
        if b = true then te σ2 H3 fun y H4 => ∃ acc, H4 D = some (.lst acc) ∧ acc.length < sizeLine ∧ Nx (upd H4 D (.lst (acc ++ [y]))) else Nx H3) := by
  refine ⟨n, rfl, hn, by omega, fun D hD => ?_⟩
  have nD : D ≠ p.a := hp.nea hD
  refine lc_range (lo := 0) (n := n.toNat) (fun i H' => (∃ ys : List V, H' D = some (.lst ys) ∧ ys.length = i ∧ ∀ k y, ys[k]? = some y → P k y) ∧ Turn p b H1 H') ⟨⟨[], upd_same, rfl, fun k y h => by simp at h⟩, (Turn.refl hp).new hD⟩ (fun i H hi p => ?_) fun H p => ?_
  · refine ⟨hw _, ?_⟩
    refine go_yes ?_
    refine iteT ?_
    rw [Int.zero_add]
    obtain ⟨⟨ys, e, hl, hP⟩, t⟩ := p
    refine he i H (by omega) t _ fun y H4 s4 hy => ?_
    have e4 := s4.but D _ nD e
    refine ⟨ys, e4, szlt (by omega), ⟨ys ++ [y], upd_same, by simp [hl], fun k z hz => ?_⟩, Turn.mut hp hD (t.trans s4)⟩
    rcases Nat.lt_or_ge k ys.length with h | h
    · rw [List.getElem?_append_left h] at hz
      exact hP k z hz
    · rw [List.getElem?_append_right h] at hz
      rcases Nat.eq_or_lt_of_le h with e2 | e2
      · rw [← e2, Nat.sub_self] at hz
        cases hz
        rw [← e2, hl]
        exact hy
      · rw [List.getElem?_eq_none (by simp; omega)] at hz
        cases hz
  · obtain ⟨⟨ys, e, hl, hP⟩, t⟩ := p
    exact q D ys H hD t e hl hP
end
/-! ### data -/
theorem tyx_list {K : PySem.W.Frag} {H : Hp} {a : Addr} {xs : List V} (h : SqL K H a xs) : TyX K H (.ref a) (.type "list") := by
  rcases h with (h | ⟨o, h⟩) | ⟨o, its, n, e, c, _⟩
  · exact .base (.lst h)
  · exact .base (.frz h)
  · exact .kList e c
theorem tyx_tup {K : PySem.W.Frag} {H : Hp} {a : Addr} {xs : List V} (h : SqT K H a xs) : TyX K H (.ref a) (.type "tuple") := by
  rcases h with (h | ⟨o, h⟩) | ⟨o, its, n, e, c, _⟩
  · exact .base (.tup h)
  · exact .fTuple h
  · exact .kTuple e c
/-- the same data, at most n deep -/
inductive Eqd (K : PySem.W.Frag) (H : Hp) : Nat → V → V → Prop where
  | non {n : Nat} : Eqd K H n .non .non
  | bl {n : Nat} (b : Bool) : Eqd K H n (.bl b) (.bl b)
  | int {n : Nat} (i : Int) : Eqd K H n (.int i) (.int i)
  | str {n : Nat} (x : Str) : Eqd K H n (.str x) (.str x)
  | lst {n : Nat} {a b : Addr} {xs ys : List V} (h1 : SqL K H a xs) (h2 : SqL K H b ys) (hl : xs.length = ys.length) (hz : xs.length ≤ 100000) (h : ∀ (i : Nat) x y, xs[i]? = some x → ys[i]? = some y → Eqd K H n x y) : Eqd K H (n + 1) (.ref a) (.ref b)
  | tup {n : Nat} {a b : Addr} {xs ys : List V} (h1 : SqT K H a xs) (h2 : SqT K H b ys) (hl : xs.length = ys.length) (hz : xs.length ≤ 100000) (h : ∀ (i : Nat) x y, xs[i]? = some x → ys[i]? = some y → Eqd K H n x y) : Eqd K H (n + 1) (.ref a) (.ref b)
section
variable {K : PySem.W.Frag} {H H1 : Hp} {Q : VK}
theorem go_isiL (c : String) {b : Bool} {a : Addr} {xs : List V} (h : SqL K H a xs) (e : kitB "list" c = some b) (q : Q (.bl b) H) : rIsi K [.ref a, .ty c] H Q := go_isiB (tyx_list h) e q
theorem go_isiT (c : String) {b : Bool} {a : Addr} {xs : List V} (h : SqT K H a xs) (e : kitB "tuple" c = some b) (q : Q (.bl b) H) : rIsi K [.ref a, .ty c] H Q := go_isiB (tyx_tup h) e q
theorem sq_list_int {a : Addr} {xs : List V} (h : SqL K H a xs) (q : Q (.bl false) H) : rIsi K [.ref a, .ty "int"] H Q := go_isiB (tyx_list h) (by decide +kernel) q
theorem sq_list_bool {a : Addr} {xs : List V} (h : SqL K H a xs) (q : Q (.bl false) H) : rIsi K [.ref a, .ty "bool"] H Q := go_isiB (tyx_list h) (by decide +kernel) q
theorem sq_list_str {a : Addr} {xs : List V} (h : SqL K H a xs) (q : Q (.bl false) H) : rIsi K [.ref a, .ty "str"] H Q := go_isiB (tyx_list h) (by decide +kernel) q
theorem sq_list_list {a : Addr} {xs : List V} (h : SqL K H a xs) (q : Q (.bl true) H) : rIsi K [.ref a, .ty "list"] H Q := go_isiB (tyx_list h) (by decide +kernel) q
theorem sq_list_tuple {a : Addr} {xs : List V} (h : SqL K H a xs) (q : Q (.bl false) H) : rIsi K [.ref a, .ty "tuple"] H Q := go_isiB (tyx_list h) (by decide +kernel) q
theorem sq_tuple_int {a : Addr} {xs : List V} (h : SqT K H a xs) (q : Q (.bl false) H) : rIsi K [.ref a, .ty "int"] H Q := go_isiB (tyx_tup h) (by decide +kernel) q
theorem sq_tuple_bool {a : Addr} {xs : List V} (h : SqT K H a xs) (q : Q (.bl false) H) : rIsi K [.ref a, .ty "bool"] H Q := go_isiB (tyx_tup h) (by decide +kernel) q
theorem sq_tuple_str {a : Addr} {xs : List V} (h : SqT K H a xs) (q : Q (.bl false) H) : rIsi K [.ref a, .ty "str"] H Q := go_isiB (tyx_tup h) (by decide +kernel) q
theorem sq_tuple_list {a : Addr} {xs : List V} (h : SqT K H a xs) (q : Q (.bl false) H) : rIsi K [.ref a, .ty "list"] H Q := go_isiB (tyx_tup h) (by decide +kernel) q
theorem sq_tuple_tuple {a : Addr} {xs : List V} (h : SqT K H a xs) (q : Q (.bl true) H) : rIsi K [.ref a, .ty "tuple"] H Q := go_isiB (tyx_tup h) (by decide +kernel) q
theorem go_ixQL {a : Addr} {xs : List V} {k : Int} {v : V} (hs : SqL K H a xs) (e : atI xs k = some v) (h : Q v H) : rIx K (.ref a) (.int k) H Q := .inl ⟨a, xs, k, v, rfl, rfl, hs, e, h⟩
theorem go_ixQT {a : Addr} {xs : List V} {k : Int} {v : V} (hs : SqT K H a xs) (e : atI xs k = some v) (h : Q v H) : rIx K (.ref a) (.int k) H Q := .inr (.inl ⟨a, xs, k, v, rfl, rfl, hs, e, h⟩)
end
/-! ### texts -/
abbrev S : List Nat → Str := SX.S
section
variable {X : Cx} {σ : L2.St} {H H1 : Hp} {Q : VK} {K : PySem.W.Frag} {o e : Expr} {to te : TE}
def qSplit : V → List V → Hp → VK → Prop := fun x xs H Q => ∃ a b, x = .str a ∧ xs = [.str b] ∧ (b.length == 0) = false ∧ a.length + 2 ≤ sizeLine ∧ rNewStrs (Txt.split a b) H Q
theorem e_split {apos pos : Pos} (ho : PE X o to) (he : PE X e te) (hs : starEach [e] X.env = [(false, eval e X.env)] := by rfl) (hbase : attributeBase o "split" X.env (eval o X.env) = eval o X.env := by rfl) (hline : (apos.endLine == pos.line) = true := by rfl) :
    PE X (.Call (.Attribute o "split" apos) [e] [] pos) (tM1 qSplit to te) := pe_split ho he hs hbase hline
theorem go_M1 {r : V → List V → Hp → VK → Prop} (h : to σ H fun x H1 => (∃ a, x = .str a) ∧ te σ H1 fun y H2 => r x [y] H2 Q) : tM1 r to te σ H Q := h
theorem go_M0 {r : V → List V → Hp → VK → Prop} (h : to σ H fun x H1 => (∃ a, x = .str a) ∧ r x [] H1 Q) : tM0 r to σ H Q := h
theorem go_isS {a : Str} {B : Prop} (h : B) : (∃ b, V.str a = .str b) ∧ B := ⟨⟨a, rfl⟩, h⟩
theorem go_split {a : List Nat} (ha : a.length ≤ 90000) {c : Nat} (hc : c < 256) (h : ∀ p, H p = none → Q (.ref p) (upd H p (.lst ((TL.spl [c] 0 [] a).map fun w => V.str (S w))))) : qSplit (.str (S a)) [.str (S [c])] H Q := by
  refine ⟨S a, S [c], rfl, rfl, rfl, by rw [SX.S_len]; exact sz (by omega), ?_⟩
  rw [SX.split_S (by simp) (by simp [hc])]
  intro p hp
  rw [List.map_map]
  exact h p hp
def qJoin (K : PySem.W.Frag) : V → List V → Hp → VK → Prop := fun x xs H Q => ∃ a p, ∃ ys : List Str, x = .str a ∧ xs = [.ref p] ∧ (SqL K H p (ys.map V.str) ∨ SqT K H p (ys.map V.str)) ∧ (ys.map (·.length)).sum + ys.length * a.length ≤ 16777216 ∧ Q (.str (Txt.join a ys)) H
theorem e_join {apos pos : Pos} (ho : PE X o to) (he : PE X e te) (hs : starEach [e] X.env = [(false, eval e X.env)] := by rfl) (hbase : attributeBase o "join" X.env (eval o X.env) = eval o X.env := by rfl) (hline : (apos.endLine == pos.line) = true := by rfl) :
    PE X (.Call (.Attribute o "join" apos) [e] [] pos) (tM1 (qJoin X.K) to te) := pe_join ho he hs hbase hline
theorem go_join {a : List Nat} {p : Addr} {ws : List (List Nat)} (hs : SqL K H p (ws.map fun w => V.str (S w))) (hz : (ws.map List.length).sum + ws.length * a.length ≤ 16777216) (h : Q (.str (S (TL.joinL a ws))) H) : qJoin K (.str (S a)) [.ref p] H Q := by
  refine ⟨S a, p, ws.map S, rfl, rfl, .inl (by rw [List.map_map]; exact hs), ?_, by rw [SX.join_S]; exact h⟩
  rw [SX.lens, List.length_map, SX.S_len]
  exact hz
/-- for c in a text -/
theorem go_iStr {R : It → Hp → Prop} (h : te σ H fun v H1 => ∃ x, v = .str x ∧ R (Its x) H1) : iStr te σ H R := h
theorem foS {D : Ends} {tb : TS} {g : TG} (cs : List Nat) (Pv : Nat → L2.St → Hp → Prop) (h0 : Pv 0 σ H1)
    (hs : ∀ i c σ H, cs[i]? = some c → Pv i σ H → g (.str (S [c])) σ H fun σ2 H2 => tb { D with nx := Pv (i + 1), ct := Pv (i + 1), bk := D.nx } σ2 H2) (hd : ∀ σ H, Pv cs.length σ H → D.nx σ H) :
    ∃ x, V.str (S cs) = .str x ∧ ∃ W : Nat → Nat → L2.St → Hp → Prop, (∃ m, W 0 m σ H1) ∧ ∀ i m σ H, W i m σ H →
      ((Its x).stop i H ∧ D.nx σ H) ∨ ((Its x).go i H ∧ ∃ N : L2.St → Hp → Prop, (∀ σ' H', N σ' H' → ∃ m', m' < m ∧ W (i + 1) m' σ' H') ∧ ∀ x2 H', (Its x).yld i H x2 H' → g x2 σ H' fun σ2 H2 => tb { D with nx := N, ct := N, bk := D.nx } σ2 H2) := by
  refine ⟨S cs, rfl, fun i m σ H => m = cs.length - i ∧ i ≤ cs.length ∧ Pv i σ H, ⟨cs.length, by simp, Nat.zero_le _, h0⟩, ?_⟩
  rintro i m σ H ⟨rfl, hi, p⟩
  have hsz : (S cs).cps.size = cs.length := by simp
  by_cases hlt : i < cs.length
  · refine .inr ⟨by show i < (S cs).cps.size; rw [hsz]; exact hlt, Pv (i + 1), fun σ' H' p' => ⟨cs.length - (i + 1), by omega, rfl, hlt, p'⟩, fun x H' y => ?_⟩
    obtain ⟨e, c, hc, rfl⟩ := y
    subst e
    refine hs i c σ _ ?_ p
    have : (S cs).cps[i]? = some c := hc
    simpa using this
  · have e : i = cs.length := by omega
    subst e
    exact .inl ⟨by show (S cs).cps.size ≤ cs.length; omega, hd σ H p⟩
theorem at_mem {α : Type} {xs : List α} {i : Nat} {v : α} (h : atI xs (i : Int) = some v) : v ∈ xs := by
  unfold atI ixN at h
  rw [if_pos (by omega)] at h
  split at h
  · rw [Option.bind_some, Int.toNat_natCast] at h
    exact List.mem_of_getElem? h
  · cases h
theorem atS_ex {z : Str} {k : Int} (h0 : 0 ≤ k) (h : k < z.length) : ∃ c, atI z.cps.toList k = some c := by
  have e : k = (k.toNat : Int) := by omega
  have h2 : k.toNat < z.cps.toList.length := by
    have : z.length = z.cps.toList.length := by simp [Str.length]
    omega
  rw [e]
  exact ⟨_, atI_nat (List.getElem?_eq_getElem h2)⟩
theorem dp_strs : ∀ ws : List Str, DpAll K H (ws.map V.str) (ws.map PyData.str)
  | [] => .nil
  | n :: r => .cons (.str n) (dp_strs r)
theorem eqvAll_strs : ∀ xs : List Str, PyData.eqvAll (xs.map PyData.str) (xs.map PyData.str) = true
  | [] => by simp [PyData.eqvAll]
  | x :: xs => by simp only [List.map_cons, PyData.eqvAll, PyData.eqv, eqvAll_strs xs]; simp
theorem depth_strs : ∀ xs : List Str, PyData.depthAll (xs.map PyData.str) = 0
  | [] => rfl
  | x :: xs => by
    rw [List.map_cons]
    unfold PyData.depthAll
    rw [depth_strs xs]
    rfl
theorem canLay_strs : ∀ xs : List Str, xs.all PyData.strOk = true → PyData.canLayAll0 (xs.map PyData.str) = true
  | [], _ => rfl
  | x :: xs, h => by
    rw [List.all_cons, Bool.and_eq_true] at h
    rw [List.map_cons]
    simp only [PyData.canLayAll0, PyData.canLay0, canLay_strs xs h.2, h.1, Bool.and_self]
theorem shaped_strs (xs : List Str) (h : xs.all PyData.strOk = true) : SeqAt.shaped (.list (xs.map PyData.str)) = true := by
  unfold SeqAt.shaped
  have h1 : PyData.canLay0 (.list (xs.map PyData.str)) = true := by
    simp only [PyData.canLay0]
    exact canLay_strs xs h
  have h2 : PyData.depth (.list (xs.map PyData.str)) ≤ 64 := by
    unfold PyData.depth
    rw [depth_strs xs]
    decide
  rw [h1, decide_eq_true h2]
  rfl
theorem go_eqStrs {a b : Addr} {xs : List Str} (h1 : SqL K H a (xs.map V.str)) (h2 : SqL K H b (xs.map V.str)) (ho : xs.all PyData.strOk = true) (h : Q (.bl true) H) : rEqD K (.ref a) (.ref b) H Q :=
  ⟨_, _, .lst h1 (dp_strs xs), .lst h2 (dp_strs xs), shaped_strs xs ho, shaped_strs xs ho, by rw [PyData.eqv, eqvAll_strs]; exact h⟩
end
end Gx

set_option Elab.async false
set_option linter.all false
set_option maxRecDepth 100000
set_option maxHeartbeats 4000000
/-! Own lemmas: operators that a class defines; gcd, lcm, // of great ints. -/
namespace Gx
open PySem PySem.Spec PyProof.Rows L2
section
variable {X : Cx} {CX : CXT} {C f : Addr} {fd : FuncData} {ps : List Str} {sp : Sp} {E : XK} {k : Nat} {Q : VK} {H : Hp}
theorem back_of {pins : List (Addr × Obj)} {σ : L2.St} {M : Model} {A : Around} {R : Value → Shared → Prop} {t : Sem Value} {s : Shared} (h : wpAny M A t (EP X pins σ Q) R s) : wpAny M A t (PySem.W.CmpBack (EP X pins σ Q)) R s := by
  refine wpAny_mono h (fun v s' q => ?_) fun _ _ z => z
  cases v <;> first | exact q | (obtain ⟨x, H', I, r, q⟩ := q; cases x <;> first | (cases r; done) | (obtain ⟨_, r⟩ := r; cases r))
/-- x op y by the class's own method -/
def rOwn (C : Addr) (sp : Sp) (E : XK) : R2 := fun x y H Q => ∃ a b dx dy fs gs, x = .ref a ∧ y = .ref b ∧ H a = some (.ins C dx fs) ∧ H b = some (.ins C dy gs) ∧ sp [x, y] H Q E
theorem go_own {a b dx dy : Addr} {fs gs : List (Str × V)} (h1 : H a = some (.ins C dx fs)) (h2 : H b = some (.ins C dy gs)) (h : sp [.ref a, .ref b] H Q E) : rOwn C sp E (.ref a) (.ref b) H Q := ⟨a, b, dx, dy, fs, gs, rfl, rfl, h1, h2, h⟩
theorem op_own {op : Operator} (hc : PySem.W.selfFirst X.K C = true) (hs : PySem.W.findIn X.K (.ref C) (PySem.dunder op.info.2) = some (some (.ref f))) (hf : PySem.W.isFn X.K (.ref f) = true)
    (F : FnOk X.prog X.w X.K X.mg X.base CX k f fd ps sp) (hr : Room k X.A) (hb : Binds X.K fd ps []) (hx : Passes CX X E) : OpR X (binaryOp op) (rOwn C sp E) := by
  intro pins s σ H x y v u Q I rx ry h
  obtain ⟨a, b, dx, dy, fs, gs, rfl, rfl, ha, hb', hq⟩ := h
  have rx' := rx
  have ry' := ry
  cases rx
  cases ry
  obtain ⟨mA, J, _⟩ := ins_get I.hok ha
  obtain ⟨mB, J', _⟩ := ins_get I.hok hb'
  obtain ⟨od, J, _⟩ := J.look
  obtain ⟨od', J', _⟩ := J'.look
  obtain ⟨m, hF⟩ := I.fr
  refine PySem.W.binop_K hF I.ok.mod.kin J J'.type hc hs hf (back_of ?_)
  exact run_fn F hr hb .nil hx I (.cons rx' (.cons ry' .nil)) (by simpa using hq)
/-- x == y, x != y by the class's own method (op: its own name) -/
theorem op_ownCmp {op : CmpOp} (hcmp : ∀ v u, compareOp op v u = richCompare op v u) (hc : PySem.W.notFirst X.K C (.ref C) = true) (hs : PySem.W.findIn X.K (.ref C) (cmpInfo op).2.1 = some (some (.ref f))) (hf : PySem.W.isFn X.K (.ref f) = true)
    (F : FnOk X.prog X.w X.K X.mg X.base CX k f fd ps sp) (hr : Room k X.A) (hb : Binds X.K fd ps []) (hx : Passes CX X E) : OpR X (compareOp op) (rOwn C sp E) := by
  intro pins s σ H x y v u Q I rx ry h
  obtain ⟨a, b, dx, dy, fs, gs, rfl, rfl, ha, hb', hq⟩ := h
  have rx' := rx
  have ry' := ry
  cases rx
  cases ry
  obtain ⟨mA, J, _⟩ := ins_get I.hok ha
  obtain ⟨mB, J', _⟩ := ins_get I.hok hb'
  obtain ⟨od, J, _⟩ := J.look
  obtain ⟨od', J', _⟩ := J'.look
  obtain ⟨m, hF⟩ := I.fr
  rw [hcmp]
  refine PySem.W.cmp_K hr.units0 hF I.ok.mod.kin J J'.type hc hs hf (back_of ?_)
  exact run_fn F hr hb .nil hx I (.cons rx' (.cons ry' .nil)) (by simpa using hq)
/-- -x by the class's own method -/
def uOwn (C : Addr) (sp : Sp) (E : XK) : V → Hp → VK → Prop := fun x H Q => ∃ a dx fs, x = .ref a ∧ H a = some (.ins C dx fs) ∧ sp [x] H Q E
theorem go_uOwn {a dx : Addr} {fs : List (Str × V)} (h1 : H a = some (.ins C dx fs)) (h : sp [.ref a] H Q E) : uOwn C sp E (.ref a) H Q := ⟨a, dx, fs, rfl, h1, h⟩
theorem un_own (hs : PySem.W.findIn X.K (.ref C) "__neg__" = some (some (.ref f))) (hf : PySem.W.isFn X.K (.ref f) = true)
    (F : FnOk X.prog X.w X.K X.mg X.base CX k f fd ps sp) (hr : Room k X.A) (hb : Binds X.K fd ps []) (hx : Passes CX X E) : UnR X (unaryOp .USub) (uOwn C sp E) := by
  intro pins s σ H x v Q I rx h
  obtain ⟨a, dx, fs, rfl, ha, hq⟩ := h
  have rx' := rx
  cases rx
  obtain ⟨mA, J, _⟩ := ins_get I.hok ha
  obtain ⟨od, J, _⟩ := J.look
  unfold unaryOp
  refine wpAny_holding ?_
  dsimp only
  rw [if_neg (by decide)]
  refine wpAny_bind (PySem.W.special_fn I.kIn J hs (beq_iff_eq.mp hf) ?_)
  exact wpAny_mono (run_fn F hr hb .nil hx I (.cons rx' .nil) (by simpa using hq)) (fun v s' q => wpAny_pure q) fun _ _ z => z
/-! ### great ints -/
def CDivX (_ j : Int) : Prop := j ≠ 0 ∧ j.natAbs.log2 < 9000
theorem op_fdivX : OpR X (binaryOp .FloorDiv) (rI CDivX fun i j => .int (i.fdiv j)) := opI fun _ _ _ _ _ _ _ hc q => floordiv_int hc.1 q (.inl (PyProof.noPylong_of_log2 hc.2))
theorem divX {i j : Int} {b : Nat} (h : j ≠ 0) (hb : j.natAbs < 2 ^ b) (h0 : 0 < b) (h9 : b ≤ 9000) : CDivX i j := ⟨h, Nat.lt_of_lt_of_le (PySem.Flt.log2_lt_of h0 hb) h9⟩
theorem go_gcd {a b : Int} (h : Q (.int ((Nat.gcd a.natAbs b.natAbs : Nat) : Int)) H) : rGcd [.int a, .int b] H Q := ⟨a, b, rfl, h⟩
/-- two numbers of up to 9000 bits -/
def rLcm : List V → Hp → VK → Prop := fun vs H Q => ∃ a b : Int, vs = [.int a, .int b] ∧ a.natAbs < 2 ^ 9000 ∧ b.natAbs < 2 ^ 9000 ∧ Q (.int ((Nat.lcm a.natAbs b.natAbs : Nat) : Int)) H
theorem log2_le {n k : Nat} (h : n < 2 ^ (k + 1)) : n.log2 ≤ k := PySem.W.mg_log h
theorem cr_lcm : CallR X (.builtin "math.lcm") rLcm := by
  intro pins s σ H vs us Q I r h
  obtain ⟨a, b, rfl, ha, hb, q⟩ := h
  obtain ⟨t, u, rfl⟩ := Vals.int2 r
  have h1 : (max 1 a.natAbs).log2 ≤ 8999 := log2_le (by
    have : 1 < 2 ^ 9000 := Nat.one_lt_two_pow (by decide)
    show max 1 a.natAbs < 2 ^ 9000
    omega)
  have h2 : (max a.natAbs b.natAbs).log2 ≤ 8999 := log2_le (by show max a.natAbs b.natAbs < 2 ^ 9000; omega)
  have e : (Nat.lcm 1 a.natAbs) = a.natAbs := Nat.lcm_one_left _
  have hz : ((((Nat.lcm 1 a.natAbs).lcm b.natAbs : Nat) : Int)).natAbs.log2 < bitsLine := by
    rw [e, Int.natAbs_natCast]
    have hm : a.natAbs.lcm b.natAbs ≤ a.natAbs * b.natAbs := Nat.div_le_self _ _
    have hl : a.natAbs.lcm b.natAbs < 2 ^ (17999 + 1) := by
      have : a.natAbs * b.natAbs < 2 ^ 9000 * 2 ^ 9000 := Nat.mul_lt_mul'' ha hb
      rw [← Nat.pow_add] at this
      exact Nat.lt_of_le_of_lt hm this
    have := log2_le hl
    have hb : bitsLine = 134217728 := by decide
    omega
  have g := PySem.W.mg_run_lcm a t b u (by omega) (by omega) hz
  refine call_function_meets PySem.W.MGF.kind_lcm PySem.W.MGF.plain_lcm PySem.W.MGF.entry_lcm (PySem.W.MGF.args_lcm _ _) g.meets ?_
  rw [e]
  exact ⟨.int _, H, I.tok _, ⟨_, rfl⟩, q⟩
theorem go_lcm {a b : Int} (ha : a.natAbs < 2 ^ 9000) (hb : b.natAbs < 2 ^ 9000) (h : Q (.int ((Nat.lcm a.natAbs b.natAbs : Nat) : Int)) H) : rLcm [.int a, .int b] H Q := ⟨a, b, rfl, ha, hb, h⟩
end
end Gx

set_option Elab.async false
set_option linter.all false
set_option maxRecDepth 100000
set_option maxHeartbeats 4000000
/-! Own lemmas: fractions in lowest terms; Euclid's loop. -/
namespace Gx
open PySem PySem.Spec PyProof.Rows L2
/-- the numerator and the denominator in lowest terms -/
def rN (a b : Int) : Int := if b < 0 then (-a) / (Int.gcd a b : Int) else a / (Int.gcd a b : Int)
def rD (a b : Int) : Int := if b < 0 then (-b) / (Int.gcd a b : Int) else b / (Int.gcd a b : Int)
theorem gcd_pos {a b : Int} (h : b ≠ 0) : 0 < (Int.gcd a b : Int) := by
  have := Int.gcd_pos_of_ne_zero_right a h
  omega
theorem gcd_l (a b : Int) : (Int.gcd a b : Int) ∣ a := Int.gcd_dvd_left _ _
theorem gcd_r (a b : Int) : (Int.gcd a b : Int) ∣ b := Int.gcd_dvd_right _ _
/-- one form for both signs -/
theorem rN_mul {a b : Int} (h : b ≠ 0) : rN a b * (if b < 0 then -(Int.gcd a b : Int) else (Int.gcd a b : Int)) = a := by
  unfold rN
  split
  · rw [Int.mul_neg, Int.ediv_mul_cancel (Int.dvd_neg.mpr (gcd_l a b)), Int.neg_neg]
  · exact Int.ediv_mul_cancel (gcd_l a b)
theorem rD_mul {a b : Int} (h : b ≠ 0) : rD a b * (if b < 0 then -(Int.gcd a b : Int) else (Int.gcd a b : Int)) = b := by
  unfold rD
  split
  · rw [Int.mul_neg, Int.ediv_mul_cancel (Int.dvd_neg.mpr (gcd_r a b)), Int.neg_neg]
  · exact Int.ediv_mul_cancel (gcd_r a b)
theorem rD_pos {a b : Int} (h : b ≠ 0) : 0 < rD a b := by
  have g := gcd_pos (a := a) h
  have e := rD_mul (a := a) h
  by_cases hb : b < 0
  · rw [if_pos hb] at e
    by_cases q : 0 < rD a b
    · exact q
    · have : 0 ≤ rD a b * -(Int.gcd a b : Int) := Int.mul_nonneg_of_nonpos_of_nonpos (by omega) (by omega)
      omega
  · rw [if_neg hb] at e
    by_cases q : 0 < rD a b
    · exact q
    · have : rD a b * (Int.gcd a b : Int) ≤ 0 := Int.mul_nonpos_of_nonpos_of_nonneg (by omega) (by omega)
      omega
theorem r_cross {a b : Int} (h : b ≠ 0) : rN a b * b = a * rD a b := by
  have e1 := rN_mul (a := a) h
  have e2 := rD_mul (a := a) h
  generalize (if b < 0 then -(Int.gcd a b : Int) else (Int.gcd a b : Int)) = g at e1 e2
  calc rN a b * b = rN a b * (rD a b * g) := by rw [e2]
    _ = (rN a b * g) * rD a b := by rw [Int.mul_comm (rD a b) g, ← Int.mul_assoc]
    _ = a * rD a b := by rw [e1]
theorem r_coprime {a b : Int} (h : b ≠ 0) : Int.gcd (rN a b) (rD a b) = 1 := by
  have g := gcd_pos (a := a) h
  have e1 := rN_mul (a := a) h
  have e2 := rD_mul (a := a) h
  have e3 : Int.gcd (rN a b * (if b < 0 then -(Int.gcd a b : Int) else (Int.gcd a b : Int))) (rD a b * (if b < 0 then -(Int.gcd a b : Int) else (Int.gcd a b : Int))) = Int.gcd a b := by rw [e1, e2]
  rw [Int.gcd_mul_right] at e3
  have e4 : (if b < 0 then -(Int.gcd a b : Int) else (Int.gcd a b : Int)).natAbs = Int.gcd a b := by
    split
    · rw [Int.natAbs_neg, Int.natAbs_natCast]
    · rw [Int.natAbs_natCast]
  rw [e4] at e3
  have hp : 0 < Int.gcd a b := by omega
  exact Nat.eq_of_mul_eq_mul_right hp (by omega)
theorem dvd_co {k m n : Int} (h : k ∣ m * n) (g : Int.gcd k m = 1) : k ∣ n := by
  have h' : k.natAbs ∣ m.natAbs * n.natAbs := by
    rw [← Int.natAbs_mul]
    exact Int.natAbs_dvd_natAbs.mpr h
  exact Int.natAbs_dvd_natAbs.mp (Nat.Coprime.dvd_of_dvd_mul_left (show Nat.gcd k.natAbs m.natAbs = 1 from g) h')
/-- lowest terms are one -/
theorem low_unique {n d n' d' : Int} (hd : 0 < d) (hd' : 0 < d') (h1 : Int.gcd n d = 1) (h2 : Int.gcd n' d' = 1) (h : n * d' = n' * d) : n = n' ∧ d = d' := by
  have k1 : d ∣ d' := by
    have : d ∣ n * d' := by rw [h]; exact Int.dvd_mul_left _ _
    exact dvd_co this (by rw [Int.gcd_comm]; exact h1)
  have k2 : d' ∣ d := by
    have : d' ∣ n' * d := by rw [← h]; exact Int.dvd_mul_left _ _
    exact dvd_co this (by rw [Int.gcd_comm]; exact h2)
  have e : d = d' := Int.dvd_antisymm (by omega) (by omega) k1 k2
  subst e
  exact ⟨Int.eq_of_mul_eq_mul_right (by omega) h, rfl⟩
theorem r_unique {a b n d : Int} (h : b ≠ 0) (hd : 0 < d) (hg : Int.gcd n d = 1) (e : n * b = a * d) : n = rN a b ∧ d = rD a b := by
  refine low_unique hd (rD_pos h) hg (r_coprime h) ?_
  have c := r_cross (a := a) h
  have : n * rD a b * b = rN a b * d * b := by
    calc n * rD a b * b = n * b * rD a b := by rw [Int.mul_right_comm]
      _ = a * d * rD a b := by rw [e]
      _ = a * rD a b * d := by rw [Int.mul_right_comm]
      _ = rN a b * b * d := by rw [c]
      _ = rN a b * d * b := by rw [Int.mul_right_comm]
  exact Int.eq_of_mul_eq_mul_right h this
theorem r_congr {a b a' b' : Int} (h : b ≠ 0) (h' : b' ≠ 0) (e : a * b' = a' * b) : rN a b = rN a' b' ∧ rD a b = rD a' b' := by
  refine r_unique h' (rD_pos h) (r_coprime h) ?_
  have c := r_cross (a := a) h
  have : rN a b * b' * b = a' * rD a b * b := by
    calc rN a b * b' * b = rN a b * b * b' := by rw [Int.mul_right_comm]
      _ = a * rD a b * b' := by rw [c]
      _ = a * b' * rD a b := by rw [Int.mul_right_comm]
      _ = a' * b * rD a b := by rw [e]
      _ = a' * rD a b * b := by rw [Int.mul_right_comm]
  exact Int.eq_of_mul_eq_mul_right h this
/-- what the program reckons -/
theorem rN_fdiv {a b : Int} (h : b ≠ 0) {p : Int} (hp : p = if b < 0 then -(Int.gcd a b : Int) else (Int.gcd a b : Int)) : a.fdiv p = rN a b ∧ b.fdiv p = rD a b ∧ p ≠ 0 := by
  have g := gcd_pos (a := a) h
  have hp0 : p ≠ 0 := by rw [hp]; split <;> omega
  have e1 := rN_mul (a := a) h
  have e2 := rD_mul (a := a) h
  rw [← hp] at e1 e2
  refine ⟨?_, ?_, hp0⟩
  · have := Int.mul_fdiv_cancel (rN a b) hp0
    rw [e1] at this
    exact this
  · have := Int.mul_fdiv_cancel (rD a b) hp0
    rw [e2] at this
    exact this
theorem mul_abs_le {x y z : Int} (hz : z ≠ 0) (e : x * z = y) : x.natAbs ≤ y.natAbs := by
  rw [← e, Int.natAbs_mul]
  exact Nat.le_mul_of_pos_right _ (by omega)
theorem rN_le (a b : Int) (h : b ≠ 0) : (rN a b).natAbs ≤ a.natAbs := by
  have g := gcd_pos (a := a) h
  exact mul_abs_le (by split <;> omega) (rN_mul h)
theorem rD_le (a b : Int) (h : b ≠ 0) : (rD a b).natAbs ≤ b.natAbs := by
  have g := gcd_pos (a := a) h
  exact mul_abs_le (by split <;> omega) (rD_mul h)
theorem r_self {n d : Int} (hd : 0 < d) (hg : Int.gcd n d = 1) : rN n d = n ∧ rD n d = d := by
  obtain ⟨e1, e2⟩ := r_unique (a := n) (b := d) (n := n) (d := d) (by omega) hd hg rfl
  exact ⟨e1.symm, e2.symm⟩
/-! ### sums, products of fractions that were brought to lowest terms -/
theorem r_add {a b c d : Int} (hb : b ≠ 0) (hd : d ≠ 0) : rN (rN a b * rD c d + rN c d * rD a b) (rD a b * rD c d) = rN (a * d + c * b) (b * d) ∧ rD (rN a b * rD c d + rN c d * rD a b) (rD a b * rD c d) = rD (a * d + c * b) (b * d) := by
  have p1 := rD_pos (a := a) hb
  have p2 := rD_pos (a := c) hd
  have c1 := r_cross (a := a) hb
  have c2 := r_cross (a := c) hd
  refine r_congr (Int.ne_of_gt (Int.mul_pos p1 p2)) (Int.mul_ne_zero hb hd) ?_
  generalize rN a b = n at *
  generalize rD a b = m at *
  generalize rN c d = n' at *
  generalize rD c d = m' at *
  rw [Int.add_mul, Int.add_mul]
  have e1 : n * m' * (b * d) = a * d * (m * m') := by
    calc n * m' * (b * d) = (n * b) * (m' * d) := by ac_rfl
      _ = (a * m) * (m' * d) := by rw [c1]
      _ = a * d * (m * m') := by ac_rfl
  have e2 : n' * m * (b * d) = c * b * (m * m') := by
    calc n' * m * (b * d) = (n' * d) * (m * b) := by ac_rfl
      _ = (c * m') * (m * b) := by rw [c2]
      _ = c * b * (m * m') := by ac_rfl
  rw [e1, e2]
theorem r_neg {a b : Int} (hb : b ≠ 0) : rN (-rN a b) (rD a b) = rN (-a) b ∧ rD (-rN a b) (rD a b) = rD (-a) b := by
  have p1 := rD_pos (a := a) hb
  have c1 := r_cross (a := a) hb
  refine r_congr (by omega) hb ?_
  rw [Int.neg_mul, Int.neg_mul, c1]
theorem r_sub {a b c d : Int} (hb : b ≠ 0) (hd : d ≠ 0) : rN (rN a b * rD c d - rN c d * rD a b) (rD a b * rD c d) = rN (a * d - c * b) (b * d) ∧ rD (rN a b * rD c d - rN c d * rD a b) (rD a b * rD c d) = rD (a * d - c * b) (b * d) := by
  have p1 := rD_pos (a := a) hb
  have p2 := rD_pos (a := c) hd
  have c1 := r_cross (a := a) hb
  have c2 := r_cross (a := c) hd
  refine r_congr (Int.ne_of_gt (Int.mul_pos p1 p2)) (Int.mul_ne_zero hb hd) ?_
  generalize rN a b = n at *
  generalize rD a b = m at *
  generalize rN c d = n' at *
  generalize rD c d = m' at *
  rw [Int.sub_mul, Int.sub_mul]
  have e1 : n * m' * (b * d) = a * d * (m * m') := by
    calc n * m' * (b * d) = (n * b) * (m' * d) := by ac_rfl
      _ = (a * m) * (m' * d) := by rw [c1]
      _ = a * d * (m * m') := by ac_rfl
  have e2 : n' * m * (b * d) = c * b * (m * m') := by
    calc n' * m * (b * d) = (n' * d) * (m * b) := by ac_rfl
      _ = (c * m') * (m * b) := by rw [c2]
      _ = c * b * (m * m') := by ac_rfl
  rw [e1, e2]
theorem r_mul {a b c d : Int} (hb : b ≠ 0) (hd : d ≠ 0) : rN (rN a b * rN c d) (rD a b * rD c d) = rN (a * c) (b * d) ∧ rD (rN a b * rN c d) (rD a b * rD c d) = rD (a * c) (b * d) := by
  have p1 := rD_pos (a := a) hb
  have p2 := rD_pos (a := c) hd
  have c1 := r_cross (a := a) hb
  have c2 := r_cross (a := c) hd
  refine r_congr (Int.ne_of_gt (Int.mul_pos p1 p2)) (Int.mul_ne_zero hb hd) ?_
  generalize rN a b = n at *
  generalize rD a b = m at *
  generalize rN c d = n' at *
  generalize rD c d = m' at *
  calc n * n' * (b * d) = (n * b) * (n' * d) := by ac_rfl
    _ = (a * m) * (c * m') := by rw [c1, c2]
    _ = a * c * (m * m') := by ac_rfl
/-! ### Euclid -/
theorem gcd_step {a b : Int} (ha : 0 ≤ a) (hb : 0 < b) : Int.gcd b (a % b) = Int.gcd a b := by
  have h : 0 ≤ a % b := Int.emod_nonneg _ (by omega)
  obtain ⟨n, rfl⟩ : ∃ n : Nat, a = n := ⟨a.toNat, by omega⟩
  obtain ⟨m, rfl⟩ : ∃ m : Nat, b = m := ⟨b.toNat, by omega⟩
  rw [← Int.natCast_emod, Int.gcd_natCast_natCast, Int.gcd_natCast_natCast, Nat.gcd_comm n m, Nat.gcd_rec m n, Nat.gcd_comm]
theorem euclid_drop {a b : Int} (hb : 0 < b) (h : b < a) : 2 * (b * (a % b)) ≤ a * b := by
  have h0 : 0 ≤ a % b := Int.emod_nonneg _ (by omega)
  have h1 : a % b < b := Int.emod_lt_of_pos _ hb
  have h2 : 1 ≤ a / b := by
    rw [Int.le_ediv_iff_mul_le hb]
    omega
  have h3 := Int.mul_ediv_add_emod a b
  have h4 : b * 1 ≤ b * (a / b) := Int.mul_le_mul_of_nonneg_left h2 (by omega)
  have h5 : 2 * (a % b) ≤ a := by omega
  have h6 : b * (2 * (a % b)) ≤ b * a := Int.mul_le_mul_of_nonneg_left h5 (by omega)
  rw [Int.mul_comm a b]
  calc 2 * (b * (a % b)) = b * (2 * (a % b)) := by ac_rfl
    _ ≤ b * a := h6
/-! ### a ratio as an object -/
def rf (n d : Int) : List (Str × V) := [("num", .int n), ("den", .int d)]
theorem nd_ne : ¬ (("num" : Str) = "den") := by decide +kernel
theorem rf_num (n d : Int) : (rf n d).lookup ("num" : Str) = some (.int n) := by
  unfold rf
  rw [List.lookup_cons, beq_self_eq_true]
theorem rf_den (n d : Int) : (rf n d).lookup ("den" : Str) = some (.int d) := by
  unfold rf
  rw [List.lookup_cons, show (("den" : Str) == "num") = false by decide +kernel, List.lookup_cons, beq_self_eq_true]
theorem rf_none (n d : Int) {m : Str} (h1 : ¬ m = "num") (h2 : ¬ m = "den") : (rf n d).lookup m = none := by
  unfold rf
  rw [List.lookup_cons, beq_eq_false_iff_ne.mpr h1, List.lookup_cons, beq_eq_false_iff_ne.mpr h2]
  rfl
theorem rf_put (n d : Int) : putF "den" (.int d) (putF "num" (.int n) []) = rf n d := by
  show (if ("num" : Str) = "den" then [(("num" : Str), V.int d)] else (("num" : Str), V.int n) :: putF "den" (V.int d) []) = _
  rw [if_neg nd_ne]
  rfl
/-- a ratio n / d stands at x -/
def RatAt (C : Addr) (H : Hp) (x : Addr) (n d : Int) : Prop := ∃ dx, H x = some (.ins C dx (rf n d))
theorem RatAt.same {C : Addr} {H H' : Hp} {x : Addr} {n d : Int} (h : RatAt C H x n d) (s : Same H H') : RatAt C H' x n d := let ⟨dx, e⟩ := h; ⟨dx, s _ _ e⟩
section
variable {K : PySem.W.Frag} {σ : L2.St} {H : Hp} {Q : VK} {ta : TE} {f : Str}
def qFld (K : PySem.W.Frag) (f : Str) (Q : VK) : VK := fun x H1 => ∃ a C dx fs v, x = .ref a ∧ H1 a = some (.ins C dx fs) ∧ Cls K C ∧ NoAttr K C f ∧ fs.lookup f = some v ∧ Q v H1
theorem go_fld (h : ta σ H (qFld K f Q)) : tFld K ta f σ H Q := h
theorem go_fldV {a C dx : Addr} {fs : List (Str × V)} {v : V} (e : H a = some (.ins C dx fs)) (c : Cls K C) (n : NoAttr K C f) (l : fs.lookup f = some v) (h : Q v H) : qFld K f Q (.ref a) H := ⟨a, C, dx, fs, v, rfl, e, c, n, l, h⟩
theorem go_rnum {a C dx : Addr} {m d : Int} (e : H a = some (.ins C dx (rf m d))) (c : Cls K C) (n : NoAttr K C "num") (h : Q (.int m) H) : qFld K "num" Q (.ref a) H := go_fldV e c n (rf_num m d) h
theorem go_rden {a C dx : Addr} {m d : Int} (e : H a = some (.ins C dx (rf m d))) (c : Cls K C) (n : NoAttr K C "den") (h : Q (.int d) H) : qFld K "den" Q (.ref a) H := go_fldV e c n (rf_den m d) h
theorem go_make {C : Addr} {sp : Sp} {dvs : List V} {E : XK} {t : TA} (h : t σ H fun vs H1 => ∀ x dx, H1 x = none → H1 dx = none → dx ≠ x →
  sp (.ref x :: (vs ++ dvs)) (upd (upd H1 dx (.own x)) x (.ins C dx [])) (fun v H2 => v = .non ∧ Q (.ref x) H2) E) : tMake C sp dvs E t σ H Q := h
theorem go_meth {C : Addr} {m : Str} {sp : Sp} {dvs : List V} {E : XK} {t : TA} (h : ta σ H fun x H1 => ∃ a dx fs, x = .ref a ∧ H1 a = some (.ins C dx fs) ∧ fs.lookup m = none ∧
  t σ H1 fun vs H2 => sp (x :: (vs ++ dvs)) H2 Q E) : tMeth C m sp dvs E ta t σ H Q := h
def sFldN (K : PySem.W.Frag) (f : Str) (y : V) (σ : L2.St) (D : Ends) : VK := fun x H2 => ∃ a C dx fs, x = .ref a ∧ H2 a = some (.ins C dx fs) ∧ Cls K C ∧ NoAttr K C f ∧ fs.length < 1000 ∧ D.nx σ (upd H2 a (.ins C dx (putF f y fs)))
theorem go_sfld {D : Ends} {tv : TE} (h : tv σ H fun y H1 => ta σ H1 (sFldN K f y σ D)) : sFld K ta tv f D σ H := h
theorem go_sfldV {D : Ends} {y : V} {a C dx : Addr} {fs : List (Str × V)} (e : H a = some (.ins C dx fs)) (c : Cls K C) (n : NoAttr K C f) (l : fs.length < 1000) (h : D.nx σ (upd H a (.ins C dx (putF f y fs)))) : sFldN K f y σ D (.ref a) H :=
  ⟨a, C, dx, fs, rfl, e, c, n, l, h⟩
end
theorem same_made {H H1 : Hp} {z dz : Addr} {o1 o2 : HO} (hz : H z = none) (hdz : H dz = none) (s : ∀ c o, c ≠ z → upd (upd H dz o1) z o2 c = some o → H1 c = some o) : Same H H1 := fun t o ht => by
  refine s t o (ne_of_none ht hz) ?_
  rw [upd_ne (ne_of_none ht hz), upd_ne (ne_of_none ht hdz)]
  exact ht
theorem p_mono {x : Int} {k n : Nat} (h : x.natAbs < 2 ^ k) (hk : k ≤ n) : x.natAbs < 2 ^ n := Nat.lt_of_lt_of_le h (Nat.pow_le_pow_right (by decide) hk)
theorem p30 {x : Int} (h : x.natAbs ≤ 10 ^ 30 + 1) : x.natAbs < 2 ^ 100 := Nat.lt_of_le_of_lt h (by decide)
theorem p_add {x y : Int} {k : Nat} (h1 : x.natAbs < 2 ^ k) (h2 : y.natAbs < 2 ^ k) : (x + y).natAbs < 2 ^ (k + 1) := by
  have := Int.natAbs_add_le x y
  rw [Nat.pow_succ]
  omega
theorem p_sub {x y : Int} {k : Nat} (h1 : x.natAbs < 2 ^ k) (h2 : y.natAbs < 2 ^ k) : (x - y).natAbs < 2 ^ (k + 1) := by
  have := Int.natAbs_sub_le x y
  rw [Nat.pow_succ]
  omega
/-! ### lists of ratios -/
/-- each of xs is a ratio, with the terms of rs -/
def RatsAt (C : Addr) (H : Hp) (xs : List V) (rs : List (Int × Int)) : Prop := xs.length = rs.length ∧ ∀ (i : Nat) x r, xs[i]? = some x → rs[i]? = some r → ∃ p dx, x = .ref p ∧ H p = some (.ins C dx (rf r.1 r.2))
theorem RatsAt.same {C : Addr} {H H' : Hp} {xs : List V} {rs : List (Int × Int)} (h : RatsAt C H xs rs) (s : Same H H') : RatsAt C H' xs rs :=
  ⟨h.1, fun i x r a b => let ⟨p, dx, e, k⟩ := h.2 i x r a b; ⟨p, dx, e, s _ _ k⟩⟩
theorem RatsAt.get {C : Addr} {H : Hp} {xs : List V} {rs : List (Int × Int)} (h : RatsAt C H xs rs) {i : Nat} {x : V} (e : xs[i]? = some x) : ∃ r p dx, rs[i]? = some r ∧ x = .ref p ∧ H p = some (.ins C dx (rf r.1 r.2)) := by
  have hi := (List.getElem?_eq_some_iff.mp e).1
  have hi2 : i < rs.length := by rw [← h.1]; exact hi
  obtain ⟨p, dx, e2, k⟩ := h.2 i x _ e (List.getElem?_eq_getElem hi2)
  exact ⟨_, p, dx, List.getElem?_eq_getElem hi2, e2, k⟩
theorem RatsAt.nil {C : Addr} {H : Hp} : RatsAt C H [] [] := ⟨rfl, fun i x r h _ => by simp at h⟩
theorem RatsAt.snoc {C : Addr} {H : Hp} {xs : List V} {rs : List (Int × Int)} (h : RatsAt C H xs rs) {p dx : Addr} {n d : Int} (e : H p = some (.ins C dx (rf n d))) : RatsAt C H (xs ++ [.ref p]) (rs ++ [(n, d)]) := by
  refine ⟨by simp [h.1], fun i x r a b => ?_⟩
  rcases Nat.lt_or_ge i xs.length with q | q
  · rw [List.getElem?_append_left q] at a
    rw [List.getElem?_append_left (by rw [← h.1]; exact q)] at b
    exact h.2 i x r a b
  · rw [List.getElem?_append_right q] at a
    rw [List.getElem?_append_right (by rw [← h.1]; exact q), ← h.1] at b
    rcases Nat.eq_zero_or_pos (i - xs.length) with z | z
    · rw [z] at a b
      cases a
      cases b
      exact ⟨p, dx, rfl, e⟩
    · rw [List.getElem?_eq_none (by simp; omega)] at a
      cases a
/-- a comprehension's list, by what was made at each place -/
theorem rats_of {C : Addr} {H : Hp} {ys : List V} {rs : List (Int × Int)} (hl : ys.length = rs.length) (h : ∀ (k : Nat) y, ys[k]? = some y → ∃ r p dx, rs[k]? = some r ∧ y = .ref p ∧ H p = some (.ins C dx (rf r.1 r.2))) : RatsAt C H ys rs :=
  ⟨hl, fun i x r a b => by
    obtain ⟨r', p, dx, e1, e2, e3⟩ := h i x a
    rw [b] at e1
    cases e1
    exact ⟨p, dx, e2, e3⟩⟩
/-- the denominator of the common form -/
def cden (rs : List (Int × Int)) : Nat := rs.foldl (fun m r => Nat.lcm m r.2.natAbs) 1
theorem cden_snoc (rs : List (Int × Int)) (r : Int × Int) : cden (rs ++ [r]) = Nat.lcm (cden rs) r.2.natAbs := by
  unfold cden
  rw [List.foldl_append]
  rfl
theorem cden_take {rs : List (Int × Int)} {i : Nat} {r : Int × Int} (h : rs[i]? = some r) : cden (rs.take (i + 1)) = Nat.lcm (cden (rs.take i)) r.2.natAbs := by
  rw [List.take_add_one, h, show (some r).toList = [r] from rfl, cden_snoc]
theorem lfold_pos : ∀ (rs : List (Int × Int)) (m : Nat), 0 < m → (∀ r ∈ rs, 0 < r.2) → 0 < rs.foldl (fun m r => Nat.lcm m r.2.natAbs) m
  | [], m, h, _ => h
  | r :: t, m, h, hr => by
    rw [List.foldl_cons]
    refine lfold_pos t _ (Nat.lcm_pos h ?_) fun z hz => hr z (List.mem_cons_of_mem _ hz)
    have := hr r List.mem_cons_self
    omega
theorem cden_pos {rs : List (Int × Int)} (h : ∀ r ∈ rs, 0 < r.2) : 0 < cden rs := lfold_pos rs 1 (by decide) h
theorem lfold_dvd : ∀ (rs : List (Int × Int)) (m : Nat), m ∣ rs.foldl (fun m r => Nat.lcm m r.2.natAbs) m ∧ ∀ r ∈ rs, r.2.natAbs ∣ rs.foldl (fun m r => Nat.lcm m r.2.natAbs) m
  | [], m => ⟨Nat.dvd_refl _, fun r h => nomatch h⟩
  | s :: t, m => by
    rw [List.foldl_cons]
    obtain ⟨h1, h2⟩ := lfold_dvd t (Nat.lcm m s.2.natAbs)
    refine ⟨Nat.dvd_trans (Nat.dvd_lcm_left _ _) h1, fun r hr => ?_⟩
    rcases List.mem_cons.mp hr with rfl | hr
    · exact Nat.dvd_trans (Nat.dvd_lcm_right _ _) h1
    · exact h2 r hr
theorem cden_dvd {rs : List (Int × Int)} {r : Int × Int} (h : r ∈ rs) : r.2.natAbs ∣ cden rs := (lfold_dvd rs 1).2 r h
theorem lfold_least : ∀ (rs : List (Int × Int)) (m k : Nat), m ∣ k → (∀ r ∈ rs, r.2.natAbs ∣ k) → rs.foldl (fun m r => Nat.lcm m r.2.natAbs) m ∣ k
  | [], m, k, h, _ => h
  | s :: t, m, k, h, hr => by
    rw [List.foldl_cons]
    exact lfold_least t _ k (Nat.lcm_dvd h (hr s List.mem_cons_self)) fun z hz => hr z (List.mem_cons_of_mem _ hz)
theorem cden_least {rs : List (Int × Int)} {k : Nat} (h : ∀ r ∈ rs, r.2.natAbs ∣ k) : cden rs ∣ k := lfold_least rs 1 k (Nat.one_dvd _) h
theorem lfold_lt : ∀ (rs : List (Int × Int)) (m e : Nat), m < 2 ^ e → (∀ r ∈ rs, r.2.natAbs < 2 ^ 100) → rs.foldl (fun m r => Nat.lcm m r.2.natAbs) m < 2 ^ (e + 100 * rs.length)
  | [], m, e, h, _ => h
  | s :: t, m, e, h, hr => by
    rw [List.foldl_cons]
    have h1 : Nat.lcm m s.2.natAbs ≤ m * s.2.natAbs := Nat.div_le_self _ _
    have h2 : m * s.2.natAbs < 2 ^ e * 2 ^ 100 := Nat.mul_lt_mul'' h (hr s List.mem_cons_self)
    rw [← Nat.pow_add] at h2
    have := lfold_lt t (Nat.lcm m s.2.natAbs) (e + 100) (Nat.lt_of_le_of_lt h1 h2) fun z hz => hr z (List.mem_cons_of_mem _ hz)
    rw [List.length_cons, show e + 100 * (t.length + 1) = e + 100 + 100 * t.length by omega]
    exact this
theorem cden_lt {rs : List (Int × Int)} (h : ∀ r ∈ rs, r.2.natAbs < 2 ^ 100) (hl : rs.length ≤ 60) : cden rs < 2 ^ 9000 :=
  Nat.lt_of_lt_of_le (lfold_lt rs 1 1 (by decide) h) (Nat.pow_le_pow_right (by decide) (by omega))
/-- the numbers of the common form -/
def cnum (rs : List (Int × Int)) : List Int := rs.map fun r => r.1 * ((cden rs : Int) / r.2)
section
variable {K : PySem.W.Frag} {σ : L2.St} {H : Hp} {R : L2.St → Hp → Prop} {t : TG} {u : TGs}
theorem go_gtup {n : Nat} {a : Addr} {xs : List V} (h : SqT K H a xs) (hl : xs.length = n) (q : u xs σ H R) : gTup K n u (.ref a) σ H R := ⟨a, xs, rfl, h, hl, q⟩
theorem go_gcons {v : V} {r : List V} (h : t v σ H fun σ' H' => u r σ' H' R) : gCons t u (v :: r) σ H R := ⟨v, r, rfl, h⟩
theorem go_gnil (h : R σ H) : gNil [] σ H R := ⟨rfl, h⟩
end
/-! ### comprehensions that make objects -/
/-- what is told of an item stays as the heap grows, and as a list is written -/
structure Stays (P : Hp → Nat → V → Prop) : Prop where
  same : ∀ H H' k y, Same H H' → P H k y → P H' k y
  lst : ∀ H D zs zs' k y, H D = some (.lst zs) → P H k y → P (upd H D (.lst zs')) k y
theorem stays_rat {C : Addr} {rs : List (Int × Int)} : Stays fun H k y => ∃ r p dx, rs[k]? = some r ∧ y = .ref p ∧ H p = some (.ins C dx (rf r.1 r.2)) :=
  ⟨fun H H' k y s ⟨r, p, dx, a, b, c⟩ => ⟨r, p, dx, a, b, s _ _ c⟩, fun H D zs zs' k y e ⟨r, p, dx, a, b, c⟩ => ⟨r, p, dx, a, b, by rw [upd_ne (ne_of c e (by intro z; cases z))]; exact c⟩⟩
section
variable {K : PySem.W.Frag} {σ : L2.St} {H H1 : Hp} {Q : VK} {tl te : TE} {vs : List Nat} {j : Nat}
theorem lcLh {R : Addr → Hp → Prop} {a : Addr} (xs : List V) {P : Hp → Nat → V → Prop} (hP : Stays P) (hs : SqL K H1 a xs) (hz : xs.length ≤ 100000) (hw : ∀ x, wipe ((wipe σ vs).set j x) vs = wipe σ vs)
    (he : ∀ (i : Nat) x H', xs[i]? = some x → Same H1 H' → ∀ R : VK, (∀ y H'', Same H' H'' → P H'' i y → R y H'') → te ((wipe σ vs).set j (some x)) H' R)
    (q : ∀ D (ys : List V) H2, H1 D = none → Same H1 H2 → H2 D = some (.lst ys) → ys.length = xs.length → (∀ k y, ys[k]? = some y → P H2 k y) → R D H2) :
    ∃ b, V.ref a = .ref b ∧ (∃ xs, SqL K H1 b xs) ∧ ∀ D, H1 D = none → ∃ W : Nat → Nat → Hp → Prop, (∃ m, W 0 m (upd H1 D (.lst []))) ∧ ∀ i m H, W i m H →
      ((Itl K b).stop i H ∧ R D H) ∨ ((Itl K b).go i H ∧ ∃ Nx : Hp → Prop, (∀ H', Nx H' → ∃ m', m' < m ∧ W (i + 1) m' H') ∧ ∀ x H', (Itl K b).yld i H x H' → gName j x (wipe σ vs) H' fun σ2 H2 => wipe σ2 vs = wipe σ vs ∧ tYes σ2 H2 fun b H3 =>
        if b = true then te σ2 H3 fun y H4 => ∃ acc, H4 D = some (.lst acc) ∧ acc.length < sizeLine ∧ Nx (upd H4 D (.lst (acc ++ [y]))) else Nx H3) := by
  refine ⟨a, rfl, ⟨xs, hs⟩, fun D hD => ?_⟩
  refine lc_list (xs := xs) (fun i H' => Same H1 H' ∧ ∃ ys : List V, H' D = some (.lst ys) ∧ ys.length = i ∧ ∀ k y, ys[k]? = some y → P H' k y) ⟨same_new hD, [], upd_same, rfl, fun k y h => by simp at h⟩ (fun i H _ p => same_sqL p.1 hs) (fun i x H hx p => ?_) fun H p => ?_
  · obtain ⟨s, ys, e, hl, hp⟩ := p
    refine ⟨hw _, ?_⟩
    refine go_yes ?_
    refine iteT ?_
    refine he i x H hx s _ fun y H4 s4 hy => ?_
    have hi := (List.getElem?_eq_some_iff.mp hx).1
    have e4 := s4 _ _ e
    refine ⟨ys, e4, szlt (by omega), same_mut (s.trans s4) hD, ys ++ [y], upd_same, by simp [hl], fun k z hz => ?_⟩
    refine hP.lst _ _ ys _ _ _ e4 ?_
    rcases Nat.lt_or_ge k ys.length with h | h
    · rw [List.getElem?_append_left h] at hz
      exact hP.same _ _ _ _ s4 (hp k z hz)
    · rw [List.getElem?_append_right h] at hz
      rcases Nat.eq_or_lt_of_le h with e2 | e2
      · rw [← e2, Nat.sub_self] at hz
        cases hz
        rw [← e2, hl]
        exact hy
      · rw [List.getElem?_eq_none (by simp; omega)] at hz
        cases hz
  · obtain ⟨s, ys, e, hl, hp⟩ := p
    exact q D ys H hD s e hl hp
end
/-! ### lists of pairs -/
def PairsAt (H : Hp) (xs : List V) (ts : List (Int × Int)) : Prop := xs.length = ts.length ∧ ∀ (i : Nat) x t, xs[i]? = some x → ts[i]? = some t → ∃ p, x = .ref p ∧ H p = some (.tup [.int t.1, .int t.2])
theorem PairsAt.nil {H : Hp} : PairsAt H [] [] := ⟨rfl, fun i x r h _ => by simp at h⟩
theorem PairsAt.same {H H' : Hp} {xs : List V} {ts : List (Int × Int)} (h : PairsAt H xs ts) (s : Same H H') : PairsAt H' xs ts :=
  ⟨h.1, fun i x r a b => let ⟨p, e, k⟩ := h.2 i x r a b; ⟨p, e, s _ _ k⟩⟩
theorem PairsAt.get {H : Hp} {xs : List V} {ts : List (Int × Int)} (h : PairsAt H xs ts) {i : Nat} {t : Int × Int} (e : ts[i]? = some t) : ∃ p, xs[i]? = some (.ref p) ∧ H p = some (.tup [.int t.1, .int t.2]) := by
  have hi := (List.getElem?_eq_some_iff.mp e).1
  have hi2 : i < xs.length := by rw [h.1]; exact hi
  obtain ⟨p, e2, k⟩ := h.2 i _ t (List.getElem?_eq_getElem hi2) e
  exact ⟨p, by rw [List.getElem?_eq_getElem hi2, e2], k⟩
/-- a list is written: the pairs stand -/
theorem PairsAt.lst {H : Hp} {xs : List V} {ts : List (Int × Int)} {D : Addr} {zs zs' : List V} (h : PairsAt H xs ts) (e : H D = some (.lst zs)) : PairsAt (upd H D (.lst zs')) xs ts :=
  ⟨h.1, fun i x r a b => let ⟨p, e1, k⟩ := h.2 i x r a b; ⟨p, e1, by rw [upd_ne (ne_of k e (by intro z; cases z))]; exact k⟩⟩
theorem PairsAt.snoc {H : Hp} {xs : List V} {ts : List (Int × Int)} (h : PairsAt H xs ts) {p : Addr} {n d : Int} (e : H p = some (.tup [.int n, .int d])) : PairsAt H (xs ++ [.ref p]) (ts ++ [(n, d)]) := by
  refine ⟨by simp [h.1], fun i x r a b => ?_⟩
  rcases Nat.lt_or_ge i xs.length with q | q
  · rw [List.getElem?_append_left q] at a
    rw [List.getElem?_append_left (by rw [← h.1]; exact q)] at b
    exact h.2 i x r a b
  · rw [List.getElem?_append_right q] at a
    rw [List.getElem?_append_right (by rw [← h.1]; exact q), ← h.1] at b
    rcases Nat.eq_zero_or_pos (i - xs.length) with z | z
    · rw [z] at a b
      cases a
      cases b
      exact ⟨p, rfl, e⟩
    · rw [List.getElem?_eq_none (by simp; omega)] at a
      cases a
/-! ### the common form is the least -/
theorem form_coprime {rs : List (Int × Int)} (hpos : ∀ r ∈ rs, 0 < r.2) (hco : ∀ r ∈ rs, Int.gcd r.1 r.2 = 1) {g : Nat} (h1 : g ∣ cden rs) (h2 : ∀ n ∈ cnum rs, (g : Int) ∣ n) : g = 1 := by
  have hL := cden_pos hpos
  obtain ⟨m, hm⟩ := h1
  have hg : 0 < g := by
    rcases Nat.eq_zero_or_pos g with z | z
    · rw [z, Nat.zero_mul] at hm
      omega
    · exact z
  have hmp : 0 < m := by
    rcases Nat.eq_zero_or_pos m with z | z
    · rw [z, Nat.mul_zero] at hm
      omega
    · exact z
  have key : cden rs ∣ m := cden_least fun r hr => by
    have hd := cden_dvd hr
    have d0 := hpos r hr
    have co := hco r hr
    have hn : (g : Int) ∣ r.1 * ((cden rs : Int) / r.2) := h2 _ (List.mem_map_of_mem hr)
    obtain ⟨k, hk⟩ := hd
    have hrd : r.2 = (r.2.natAbs : Int) := by omega
    have hq : (cden rs : Int) / r.2 = (k : Int) := by
      rw [hk, hrd]
      push_cast
      rw [Int.natAbs_natCast]
      exact Int.mul_ediv_cancel_left _ (by omega)
    rw [hq] at hn
    have hn2 : g ∣ r.1.natAbs * k := by
      have := Int.natAbs_dvd_natAbs.mpr hn
      rw [Int.natAbs_natCast, Int.natAbs_mul, Int.natAbs_natCast] at this
      exact this
    have hn3 : g ∣ r.2.natAbs * k := by rw [← hk]; exact ⟨m, hm⟩
    have hgk : g ∣ k := by
      have := Nat.dvd_gcd hn2 hn3
      rw [Nat.gcd_mul_right] at this
      have e : Nat.gcd r.1.natAbs r.2.natAbs = 1 := co
      rw [e, Nat.one_mul] at this
      exact this
    obtain ⟨j, hj⟩ := hgk
    refine ⟨j, ?_⟩
    have : g * m = g * (r.2.natAbs * j) := by rw [← hm, hk, hj]; ac_rfl
    exact Nat.eq_of_mul_eq_mul_left hg this
  have := Nat.le_of_dvd hmp key
  rw [hm] at this
  rcases Nat.lt_or_ge 1 g with z | z
  · exfalso
    have : 2 * m ≤ g * m := Nat.mul_le_mul_right _ z
    omega
  · omega
theorem cnum_len (rs : List (Int × Int)) : (cnum rs).length = rs.length := by unfold cnum; rw [List.length_map]
theorem cnum_at {rs : List (Int × Int)} {i : Nat} {r : Int × Int} (h : rs[i]? = some r) : (cnum rs)[i]? = some (r.1 * ((cden rs : Int) / r.2)) := by
  unfold cnum
  rw [List.getElem?_map, h]
  rfl
theorem cnum_mul {rs : List (Int × Int)} {r : Int × Int} (h : r ∈ rs) : r.1 * ((cden rs : Int) / r.2) * r.2 = r.1 * (cden rs : Int) := by
  have : r.2 ∣ (cden rs : Int) := Int.natAbs_dvd_natAbs.mp (by rw [Int.natAbs_natCast]; exact cden_dvd h)
  rw [Int.mul_assoc, Int.ediv_mul_cancel this]
end Gx

set_option Elab.async false
set_option linter.all false
set_option maxRecDepth 100000
set_option maxHeartbeats 4000000
/-! Own lemmas: texts, sign by sign; numbers as texts. -/
namespace Gx
open PySem PySem.Spec PyProof.Rows L2
section
variable {X : Cx} {σ : L2.St} {H H1 : Hp} {Q : VK} {K : PySem.W.Frag}
def qInC : R2 := fun x y H Q => ∃ (c : Nat) (z : Str), x = .str ⟨#[c]⟩ ∧ y = .str z ∧ Q (.bl (decide (c ∈ z.cps.toList))) H
theorem o_in_sign : OpR X (compareOp .In) qInC := op_in_sign
theorem go_inC {c : Nat} {z : Str} (h : Q (.bl (decide (c ∈ z.cps.toList))) H) : qInC (.str (S [c])) (.str z) H Q := ⟨c, z, rfl, rfl, h⟩
def qNiC : R2 := fun x y H Q => ∃ (c : Nat) (z : Str), x = .str ⟨#[c]⟩ ∧ y = .str z ∧ Q (.bl (!decide (c ∈ z.cps.toList))) H
theorem o_notIn_sign : OpR X (compareOp .NotIn) qNiC := op_notIn_sign
theorem go_niC {c : Nat} {z : Str} (h : Q (.bl (!decide (c ∈ z.cps.toList))) H) : qNiC (.str (S [c])) (.str z) H Q := ⟨c, z, rfl, rfl, h⟩
def qIntStr : List V → Hp → VK → Prop := fun xs H Q => ∃ a n, xs = [.str a] ∧ PySem.intText? a = some n ∧ a.length ≤ 640 ∧ Q (.int n) H
theorem k_int_str : CallR X (.type "int") qIntStr := call_int_str
theorem go_intStr {a : Str} {n : Int} (e : PySem.intText? a = some n) (hl : a.length ≤ 640) (h : Q (.int n) H) : qIntStr [.str a] H Q := ⟨a, n, rfl, e, hl, h⟩
theorem go_intDigits {a : Str} (h : NumText.AllDigits a.cps.toList) (h1 : a.cps.toList ≠ []) (hl : a.length ≤ 640) (q : Q (.int ((NumText.digitsVal a.cps.toList : Nat) : Int)) H) : qIntStr [.str a] H Q :=
  go_intStr (intText_digits h h1 (by omega)) hl q
theorem len_toList (z : Str) : z.length = z.cps.toList.length := by simp [Str.length]
/-- the sign at a place -/
theorem atS_get {z : Str} {k : Nat} {c : Nat} (h : z.cps.toList[k]? = some c) : atI z.cps.toList (k : Int) = some c := atI_nat h
/-- for c in x -/
theorem foX {D : Ends} {tb : TS} {g : TG} (x : Str) (Pv : Nat → L2.St → Hp → Prop) (h0 : Pv 0 σ H1)
    (hs : ∀ i c σ H, x.cps.toList[i]? = some c → Pv i σ H → g (.str (S [c])) σ H fun σ2 H2 => tb { D with nx := Pv (i + 1), ct := Pv (i + 1), bk := D.nx } σ2 H2) (hd : ∀ σ H, Pv x.cps.toList.length σ H → D.nx σ H) :
    ∃ y, V.str x = .str y ∧ ∃ W : Nat → Nat → L2.St → Hp → Prop, (∃ m, W 0 m σ H1) ∧ ∀ i m σ H, W i m σ H →
      ((Its y).stop i H ∧ D.nx σ H) ∨ ((Its y).go i H ∧ ∃ N : L2.St → Hp → Prop, (∀ σ' H', N σ' H' → ∃ m', m' < m ∧ W (i + 1) m' σ' H') ∧ ∀ x2 H', (Its y).yld i H x2 H' → g x2 σ H' fun σ2 H2 => tb { D with nx := N, ct := N, bk := D.nx } σ2 H2) :=
  foS (x.cps.toList) Pv h0 hs hd
/-- an item of a written list at an int -/
theorem at_pick {xs : List V} {k : Int} (h0 : 0 ≤ k) (h : k < xs.length) : ∃ v, v ∈ xs ∧ atI xs k = some v := by
  have e : k = (k.toNat : Int) := by omega
  have h2 : k.toNat < xs.length := by omega
  rw [e]
  exact ⟨xs[k.toNat], List.getElem_mem h2, atI_nat (List.getElem?_eq_getElem h2)⟩
theorem at_pick2 {P : V → Prop} {xs : List V} {k : Int} (h0 : 0 ≤ k) (h : k < xs.length) (hp : ∀ v ∈ xs, P v) : ∃ v, P v ∧ atI xs k = some v := by
  obtain ⟨v, hm, e⟩ := at_pick h0 h
  exact ⟨v, hp v hm, e⟩
/-- one sign against another -/
theorem lt_sign (a b : Nat) : decide ((S [a]).cps.toList < (S [b]).cps.toList) = decide (a < b) := by
  show decide ([a] < [b]) = _
  by_cases h : a < b
  · rw [decide_eq_true h, decide_eq_true (by exact List.Lex.rel h)]
  · rw [decide_eq_false h, decide_eq_false]
    intro z
    cases z with
    | rel z => exact h z
    | cons z => cases z
/-- a text in a list of texts -/
theorem inV_str (x : Str) : ∀ ks : List Str, inV (.str x) (ks.map V.str) = ks.any (fun k => k == x)
  | [] => rfl
  | k :: r => by
    have := inV_str x r
    unfold inV at this ⊢
    rw [List.map_cons, List.any_cons, List.any_cons, this]
    rfl
theorem flat_strs (ks : List Str) : (ks.map V.str).all flatV = true := by
  rw [List.all_map, List.all_eq_true]
  intro k _
  rfl
theorem str_one (x : Str) (h : x.length = 1) : ∃ c, x = S [c] := by
  have : x.cps.toList.length = 1 := by rw [← len_toList]; exact h
  obtain ⟨c, hc⟩ := List.length_eq_one_iff.mp this
  exact ⟨c, by rw [← hc]⟩
end
/-! ### digits -/
theorem snocRec {α : Type} {P : List α → Prop} (nil : P []) (append_singleton : ∀ l a, P l → P (l ++ [a])) (l : List α) : P l := by
  have h : ∀ r : List α, P r.reverse := fun r => by
    induction r with
    | nil => exact nil
    | cons a r ih => rw [List.reverse_cons]; exact append_singleton _ _ ih
  have := h l.reverse
  rw [List.reverse_reverse] at this
  exact this
def isDig (c : Nat) : Bool := decide (48 ≤ c ∧ c ≤ 57)
theorem allDig {cs : List Nat} (h : cs.all isDig = true) : NumText.AllDigits cs := fun c hc => by
  have := List.all_eq_true.mp h c hc
  simpa [isDig] using this
theorem numL_dig (n : Nat) : (TL.numL n).all isDig = true := List.all_eq_true.mpr fun c hc => by
  have := TL.numL_digits n c hc
  simpa [isDig] using this
theorem digitsVal_snoc (cs : List Nat) (c : Nat) : NumText.digitsVal (cs ++ [c]) = NumText.digitsVal cs * 10 + (c - 48) := by
  unfold NumText.digitsVal
  rw [List.foldl_append]
  rfl
/-- a number's first sign -/
theorem numL_head : ∀ {n : Nat}, 0 < n → ∃ c r, TL.numL n = c :: r ∧ 49 ≤ c := by
  intro n
  induction n using Nat.strongRecOn with
  | _ n ih =>
    intro h0
    by_cases h : n < 10
    · exact ⟨48 + n, [], TL.numL_lt h, by omega⟩
    · obtain ⟨c, r, e, hc⟩ := ih (n / 10) (by omega) (by omega)
      refine ⟨c, r ++ [48 + n % 10], ?_, hc⟩
      rw [TL.numL_step (by omega), e]
      rfl
theorem val_zero_all : ∀ cs : List Nat, NumText.AllDigits cs → NumText.digitsVal cs = 0 → ∀ c ∈ cs, c = 48 := by
  intro cs
  induction cs using snocRec with
  | nil => intro _ _ c hc; cases hc
  | append_singleton l d ih =>
    intro h e c hc
    rw [digitsVal_snoc] at e
    have hd := h d (by simp)
    have h2 : NumText.AllDigits l := fun c hc => h c (List.mem_append_left _ hc)
    rcases List.mem_append.mp hc with hc | hc
    · exact ih h2 (by omega) c hc
    · rw [List.mem_singleton.mp hc]; omega
/-- digits without a zero ahead are the number's own -/
theorem numL_canon : ∀ cs : List Nat, NumText.AllDigits cs → cs ≠ [] → (∀ r, cs = 48 :: r → r = []) → TL.numL (NumText.digitsVal cs) = cs := by
  intro cs
  induction cs using snocRec with
  | nil => intro _ h; exact absurd rfl h
  | append_singleton l d ih =>
    intro h _ hz
    have hd := h d (by simp)
    have h2 : NumText.AllDigits l := fun c hc => h c (List.mem_append_left _ hc)
    rw [digitsVal_snoc]
    cases l with
    | nil =>
      show TL.numL (0 * 10 + (d - 48)) = [d]
      rw [TL.numL_lt (by omega)]
      congr 1
      omega
    | cons c r =>
      have hc := h2 c (by simp)
      have hc0 : c ≠ 48 := fun e => by
        subst e
        have := hz (r ++ [d]) rfl
        simp at this
      have e := ih h2 (by simp) (fun r' e' => by cases e'; exact absurd rfl hc0)
      have hp : 0 < NumText.digitsVal (c :: r) := by
        rcases Nat.eq_zero_or_pos (NumText.digitsVal (c :: r)) with z | z
        · exact absurd (val_zero_all _ h2 z c (by simp)) hc0
        · exact z
      rw [TL.numL_step (by omega)]
      have e1 : (NumText.digitsVal (c :: r) * 10 + (d - 48)) / 10 = NumText.digitsVal (c :: r) := by omega
      have e2 : 48 + (NumText.digitsVal (c :: r) * 10 + (d - 48)) % 10 = d := by omega
      rw [e1, e2, e]
theorem numL_iff {cs : List Nat} (h : NumText.AllDigits cs) : TL.numL (NumText.digitsVal cs) = cs ↔ cs ≠ [] ∧ ∀ r, cs = 48 :: r → r = [] := by
  constructor
  · intro e
    refine ⟨fun z => ?_, fun r er => ?_⟩
    · rw [z] at e
      exact TL.numL_ne _ e
    · rcases Nat.eq_zero_or_pos (NumText.digitsVal cs) with z | z
      · rw [z, er] at e
        have : TL.numL 0 = [48] := TL.numL_lt (by decide)
        rw [this] at e
        injection e with _ e
        exact e.symm
      · obtain ⟨c, r', e', hc⟩ := numL_head z
        rw [e, er] at e'
        injection e' with e1 _
        omega
  · rintro ⟨h1, h2⟩
    exact numL_canon cs h h1 h2
theorem val_lt : ∀ cs : List Nat, NumText.AllDigits cs → NumText.digitsVal cs < 10 ^ cs.length := by
  intro cs
  induction cs using snocRec with
  | nil => intro _; decide
  | append_singleton l d ih =>
    intro h
    have hd := h d (by simp)
    have := ih fun c hc => h c (List.mem_append_left _ hc)
    rw [digitsVal_snoc, List.length_append, List.length_singleton, Nat.pow_succ]
    omega
end Gx

set_option Elab.async false
set_option linter.all false
set_option maxRecDepth 100000
set_option maxHeartbeats 4000000
/-! Own lemmas: data at any depth (Dp), tuples joined and cut, a range with a step, a list turned round. -/
namespace Gx
open PySem PySem.Spec PyProof.Rows L2
section
variable {K : PySem.W.Frag} {H H' : Hp}
mutual
theorem dp_same (s : Same H H') : ∀ (d : PyData) (v : V), Dp K H v d → Dp K H' v d
  | .none, _, h => by cases h; exact .non
  | .bool b, _, h => by cases h; exact .bl b
  | .int i, _, h => by cases h; exact .int i
  | .str x, _, h => by cases h; exact .str x
  | .list ds, _, h => by
    cases h with
    | lst hs ha => exact .lst (Same.seq s hs) (dpAll_same s ds _ ha)
  | .tuple ds, _, h => by
    cases h with
    | tup hs ha => exact .tup (same_sqT s hs) (dpAll_same s ds _ ha)
  | .dict _, _, h => by cases h
theorem dpAll_same (s : Same H H') : ∀ (ds : List PyData) (vs : List V), DpAll K H vs ds → DpAll K H' vs ds
  | [], _, h => by cases h; exact .nil
  | d :: ds, _, h => by
    cases h with
    | cons h1 h2 => exact .cons (dp_same s d _ h1) (dpAll_same s ds _ h2)
end
theorem dpAll_len : ∀ {ds : List PyData} {vs : List V}, DpAll K H vs ds → vs.length = ds.length
  | [], _, h => by cases h; rfl
  | d :: ds, _, h => by
    cases h with
    | cons h1 h2 => simp [dpAll_len h2]
theorem dpAll_get : ∀ {ds : List PyData} {vs : List V} {i : Nat} {d : PyData}, DpAll K H vs ds → ds[i]? = some d → ∃ v, vs[i]? = some v ∧ Dp K H v d
  | [], _, i, d, _, e => by simp at e
  | d :: ds, _, 0, d', h, e => by
    cases h with
    | cons h1 h2 =>
      simp at e
      subst e
      exact ⟨_, rfl, h1⟩
  | d :: ds, _, i + 1, d', h, e => by
    cases h with
    | cons h1 h2 =>
      simp at e
      obtain ⟨v, e2, h3⟩ := dpAll_get h2 e
      exact ⟨v, by simpa using e2, h3⟩
theorem dpAll_last {K : PySem.W.Frag} {H : Hp} {ds : List PyData} {vs : List V} {v : V} (h : DpAll K H vs ds) (e : vs.getLast? = some v) : ∃ d, ds.getLast? = some d ∧ Dp K H v d := by
  have hl := dpAll_len h
  rw [List.getLast?_eq_getElem?] at e
  have hlt := (List.getElem?_eq_some_iff.mp e).1
  obtain ⟨d, ed⟩ : ∃ d, ds[ds.length - 1]? = some d := ⟨_, List.getElem?_eq_getElem (by omega)⟩
  obtain ⟨v2, e2, h2⟩ := dpAll_get h ed
  rw [← hl, e] at e2
  cases e2
  exact ⟨d, by rw [List.getLast?_eq_getElem?]; exact ed, h2⟩
theorem dpAll_append : ∀ {ds es : List PyData} {vs us : List V}, DpAll K H vs ds → DpAll K H us es → DpAll K H (vs ++ us) (ds ++ es)
  | [], es, _, us, h, k => by cases h; exact k
  | d :: ds, es, _, us, h, k => by
    cases h with
    | cons h1 h2 => exact .cons h1 (dpAll_append h2 k)
theorem dpAll_take : ∀ {ds : List PyData} {vs : List V} (n : Nat), DpAll K H vs ds → DpAll K H (vs.take n) (ds.take n)
  | [], _, n, h => by cases h; simp; exact .nil
  | d :: ds, _, 0, h => by simp; exact .nil
  | d :: ds, _, n + 1, h => by
    cases h with
    | cons h1 h2 => exact .cons h1 (dpAll_take n h2)
theorem dpAll_reverse : ∀ {ds : List PyData} {vs : List V}, DpAll K H vs ds → DpAll K H vs.reverse ds.reverse
  | [], _, h => by cases h; exact .nil
  | d :: ds, _, h => by
    cases h with
    | cons h1 h2 =>
      rw [List.reverse_cons, List.reverse_cons]
      exact dpAll_append (dpAll_reverse h2) (.cons h1 .nil)
/-! data without lists: they outlast what is stored into a list -/
mutual
def noL : PyData → Bool
  | .list _ => false
  | .dict _ => false
  | .tuple xs => noLAll xs
  | _ => true
def noLAll : List PyData → Bool
  | [] => true
  | d :: ds => noL d && noLAll ds
end
theorem sqT_put {l a : Addr} {ys zs xs : List V} (hl : H l = some (.lst ys)) (h : SqT K H a xs) : SqT K (upd H l (.lst zs)) a xs := by
  have ne : ∀ {o : HO}, H a = some o → o ≠ .lst ys → a ≠ l := fun e n z => by
    rw [z, hl] at e
    exact n (Option.some.inj e).symm
  rcases h with (h | ⟨o, h⟩) | h
  · exact .inl (.inl (by rw [upd_ne (ne h (fun z => by cases z))]; exact h))
  · exact .inl (.inr ⟨o, by rw [upd_ne (ne h (fun z => by cases z))]; exact h⟩)
  · exact .inr h
mutual
theorem dp_put {l : Addr} {ys zs : List V} (hl : H l = some (.lst ys)) : ∀ (d : PyData) (v : V), noL d = true → Dp K H v d → Dp K (upd H l (.lst zs)) v d
  | .none, _, _, h => by cases h; exact .non
  | .bool b, _, _, h => by cases h; exact .bl b
  | .int i, _, _, h => by cases h; exact .int i
  | .str x, _, _, h => by cases h; exact .str x
  | .list ds, _, n, _ => by simp [noL] at n
  | .tuple ds, _, n, h => by
    cases h with
    | tup hs ha => exact .tup (sqT_put hl hs) (dpAll_put hl ds _ (by simpa [noL] using n) ha)
  | .dict _, _, n, _ => by simp [noL] at n
theorem dpAll_put {l : Addr} {ys zs : List V} (hl : H l = some (.lst ys)) : ∀ (ds : List PyData) (vs : List V), noLAll ds = true → DpAll K H vs ds → DpAll K (upd H l (.lst zs)) vs ds
  | [], _, _, h => by cases h; exact .nil
  | d :: ds, _, n, h => by
    have n' : noL d = true ∧ noLAll ds = true := by simpa [noLAll] using n
    cases h with
    | cons h1 h2 => exact .cons (dp_put hl d _ n'.1 h1) (dpAll_put hl ds _ n'.2 h2)
end
theorem noL_all : ∀ {ds : List PyData}, (∀ d ∈ ds, noL d = true) → noLAll ds = true
  | [], _ => rfl
  | d :: ds, h => by
    show (noL d && noLAll ds) = true
    rw [h d (List.mem_cons_self ..), noL_all fun x hx => h x (List.mem_cons_of_mem _ hx)]
    rfl
theorem dp_tup {v : V} {ds : List PyData} (h : Dp K H v (.tuple ds)) : ∃ a xs, v = .ref a ∧ SqT K H a xs ∧ DpAll K H xs ds := by
  cases h with
  | tup hs ha => exact ⟨_, _, rfl, hs, ha⟩
variable {Q : VK} {R : L2.St → Hp → Prop}
theorem go_catA {a b : Addr} {xs ys : List V} (h1 : SqT K H a xs) (h2 : SqT K H b ys) (hz : xs.length + ys.length ≤ 100000) (hy : ys ≠ [])
    (q : ∀ p H', Same H H' → SqT K H' p (xs ++ ys) → Q (.ref p) H') : rCatA K (.ref a) (.ref b) H Q := by
  refine ⟨a, b, xs, ys, rfl, rfl, h1, h2, Nat.le_trans hz (by rw [sizeLine_eq]; decide), fun e => ?_, fun _ e => absurd e hy, fun _ _ p hp => ?_⟩
  · subst e
    exact q b H (Same.refl _) h2
  · exact q p _ (fun c o hc => by rw [upd_ne (ne_of_none hc hp)]; exact hc) (.inl (.inl upd_same))
theorem go_slTo {a : Addr} {xs : List V} {k : Nat} (h : SqT K H a xs) (hk : k ≤ xs.length) (q : ∀ p H', Same H H' → SqT K H' p (xs.take k) → Q (.ref p) H') : rSlA K (.ref a) none (some (k : Int)) H Q := by
  refine ⟨a, xs, rfl, h, fun e => ?_, fun _ p hp => ?_⟩
  · have e2 := e.2
    rw [HT.sIx_nat] at e2
    have : xs.take k = xs := List.take_of_length_le (by omega)
    exact q a H (Same.refl _) (by rw [this]; exact h)
  · have e : cutV xs none (some (k : Int)) = xs.take k := by
      unfold cutV
      rw [HT.sIx_none, HT.sIx_nat]
      simp
    exact q p _ (fun c o hc => by rw [upd_ne (ne_of_none hc hp)]; exact hc) (.inl (.inl (by rw [upd_same, e])))
theorem go_eqD {x y : V} {d : PyData} (h1 : Dp K H x d) (h2 : Dp K H y d) (hs : SeqAt.shaped d = true) (q : Q (.bl true) H) : rEqD K x y H Q :=
  ⟨d, d, h1, h2, hs, hs, by rw [SeqAt.eqv_refl d (SeqAt.canLay_of_shaped hs)]; exact q⟩
theorem go_neD {x y : V} {d : PyData} (h1 : Dp K H x d) (h2 : Dp K H y d) (hs : SeqAt.shaped d = true) (q : Q (.bl false) H) : rNeD K x y H Q :=
  ⟨d, d, h1, h2, hs, hs, by rw [SeqAt.eqv_refl d (SeqAt.canLay_of_shaped hs)]; exact q⟩
theorem at_0 {x : V} {l : List V} : atI (x :: l) 0 = some x := at_nat (xs := x :: l) (i := 0) rfl
theorem at_1 {x y : V} {l : List V} : atI (x :: y :: l) 1 = some y := at_nat (xs := x :: y :: l) (i := 1) rfl
theorem at_2 {x y z : V} {l : List V} : atI (x :: y :: z :: l) 2 = some z := at_nat (xs := x :: y :: z :: l) (i := 2) rfl
theorem at_last {xs : List V} (h : xs ≠ []) : atI xs (-1) = xs.getLast? := by
  have hl : 0 < xs.length := List.length_pos_iff.mpr h
  have e : ixN xs.length (-1) = some (xs.length - 1) := by
    unfold ixN
    rw [if_neg (by decide), if_pos (by omega)]
    congr 1
    omega
  unfold atI
  rw [e, Option.bind_some, List.getLast?_eq_getElem?]
theorem go_iRng3 {σ : L2.St} {ta : TA} {R : It → Hp → Prop} (h : ta σ H fun vs H1 => ∃ (i j c : Int) (n : Nat), vs = [.int i, .int j, .int c] ∧ RgC i j c n ∧ R (Itc i c n) H1) : iRng3 ta σ H R := h
/-- for i in range(n - 1, -1, -1) -/
theorem foRdn {σ : L2.St} {D : Ends} {g : TG} {tb : TS} {n : Nat} (Pv : Nat → L2.St → Hp → Prop) (hn : n ≤ 1000000) (h0 : Pv 0 σ H)
    (hs : ∀ (i : Nat) σ H, i < n → Pv i σ H → g (.int ((n - 1 - i : Nat) : Int)) σ H fun σ2 H2 => tb { D with nx := Pv (i + 1), ct := Pv (i + 1), bk := D.nx } σ2 H2) (hd : ∀ σ H, Pv n σ H → D.nx σ H) :
    ∃ (i j c : Int) (k : Nat), [V.int ((n : Int) - 1), .int (-1), .int (-1)] = [.int i, .int j, .int c] ∧ RgC i j c k ∧ ∃ W : Nat → Nat → L2.St → Hp → Prop, (∃ m, W 0 m σ H) ∧ ∀ i' m σ H, W i' m σ H →
      ((Itc i c k).stop i' H ∧ D.nx σ H) ∨ ((Itc i c k).go i' H ∧ ∃ N : L2.St → Hp → Prop, (∀ σ' H', N σ' H' → ∃ m', m' < m ∧ W (i' + 1) m' σ' H') ∧ ∀ x H', (Itc i c k).yld i' H x H' → g x σ H' fun σ2 H2 => tb { D with nx := N, ct := N, bk := D.nx } σ2 H2) := by
  have r := RgC.neg (i := (n : Int) - 1) (j := -1) (by omega) (by omega) (by omega) (by omega)
  have e : ((n : Int) - 1 - -1).toNat = n := by omega
  rw [e] at r
  refine ⟨_, _, _, n, rfl, r, for_rangeC Pv h0 (fun i σ H hi p => ?_) hd⟩
  have e2 : (n : Int) - 1 + (i : Nat) * (-1) = ((n - 1 - i : Nat) : Int) := by omega
  rw [e2]
  exact hs i σ H hi p
/-- t + ((..),): a view with one more item -/
theorem add_dp {vw p p2 : Addr} {xs : List V} {ds es : List PyData} (hv : Dp K H (.ref vw) (.tuple ds)) (hp : H p = none) (hp2 : upd H p (.tup xs) p2 = none) (hx : ∀ H', DpAll K H' xs es) (hl : ds.length ≤ 1000)
    (q : ∀ p3 H3, Same H H3 → Dp K H3 (.ref p3) (.tuple (ds ++ [.tuple es])) → Q (.ref p3) H3) : rCatA K (.ref vw) (.ref p2) (upd (upd H p (.tup xs)) p2 (.tup [.ref p])) Q := by
  obtain ⟨a, ys, e, h1, h2⟩ := dp_tup hv
  cases e
  have s1 : Same H (upd (upd H p (.tup xs)) p2 (.tup [.ref p])) := fun c o hc => by
    have h3 : upd H p (.tup xs) c = some o := by rw [upd_ne (ne_of_none hc hp)]; exact hc
    rw [upd_ne (ne_of_none h3 hp2)]
    exact h3
  have hpp : upd (upd H p (.tup xs)) p2 (.tup [.ref p]) p = some (.tup xs) := by
    have h3 : upd H p (.tup xs) p = some (.tup xs) := upd_same
    rw [upd_ne (ne_of_none h3 hp2)]
    exact h3
  have hlen := dpAll_len h2
  refine go_catA (same_sqT s1 h1) (.inl (.inl upd_same)) (by simp; omega) (by simp) fun p3 H3 s3 e3 => ?_
  refine q p3 H3 (s1.trans s3) (.tup e3 (dpAll_append (dpAll_same (s1.trans s3) _ _ h2) (.cons (.tup (.inl (.inl (s3 _ _ hpp))) (hx H3)) .nil)))
theorem go_revL {te : TE} {σ : L2.St} (h : te σ H fun x H1 => ∃ a xs, x = .ref a ∧ SqL K H1 a xs ∧ ∀ p, H1 p = none → Q (.ref p) (upd H1 p (.lst xs.reverse))) : tRevL K te σ H Q := h
end
end Gx

set_option Elab.async false
set_option linter.all false
set_option maxRecDepth 100000
set_option maxHeartbeats 4000000
/-! Own lemmas: what stands while one list is written. -/
namespace Gx
open PySem PySem.Spec PyProof.Rows L2
theorem PairsAt.but {q : Addr} {H H' : Hp} {zs xs : List V} {ts : List (Int × Int)} (h : PairsAt H xs ts) (e : H q = some (.lst zs)) (B : But q H H') : PairsAt H' xs ts :=
  ⟨h.1, fun i x r a b => let ⟨p, e1, k⟩ := h.2 i x r a b; ⟨p, e1, B _ _ (ne_of k e (by intro z; cases z)) k⟩⟩
theorem Pool.but {p : Pl} {b : Int} {q : Addr} {H H' : Hp} (h : Pool H p b) (B : But q H H') (n1 : q ≠ p.a) (n2 : q ≠ p.l) : Pool H' p b := by
  obtain ⟨p1, p2, p3, p4, e, k⟩ := h.ex
  exact ⟨⟨p1, p2, p3, p4, B _ _ n1.symm e, k⟩, B _ _ n2.symm h.li, h.ne⟩
end Gx

set_option Elab.async false
set_option linter.all false
set_option maxRecDepth 100000
set_option maxHeartbeats 4000000
/-! Own lemmas: data while one list is written; dicts of texts; expressions. -/
namespace Gx
open PySem PySem.Spec PyProof.Rows L2
section
variable {K : PySem.W.Frag} {H H' : Hp}
theorem sqT_but {l a : Addr} {ys xs : List V} (hl : H l = some (.lst ys)) (B : But l H H') (h : SqT K H a xs) : SqT K H' a xs := by
  have ne : ∀ {o : HO}, H a = some o → o ≠ .lst ys → a ≠ l := fun e n z => by
    rw [z, hl] at e
    exact n (Option.some.inj e).symm
  rcases h with (h | ⟨o, h⟩) | h
  · exact .inl (.inl (B _ _ (ne h (fun z => by cases z)) h))
  · exact .inl (.inr ⟨o, B _ _ (ne h (fun z => by cases z)) h⟩)
  · exact .inr h
mutual
theorem dp_but {l : Addr} {ys : List V} (hl : H l = some (.lst ys)) (B : But l H H') : ∀ (d : PyData) (v : V), noL d = true → Dp K H v d → Dp K H' v d
  | .none, _, _, h => by cases h; exact .non
  | .bool b, _, _, h => by cases h; exact .bl b
  | .int i, _, _, h => by cases h; exact .int i
  | .str x, _, _, h => by cases h; exact .str x
  | .list ds, _, n, _ => by simp [noL] at n
  | .tuple ds, _, n, h => by
    cases h with
    | tup hs ha => exact .tup (sqT_but hl B hs) (dpAll_but hl B ds _ (by simpa [noL] using n) ha)
  | .dict _, _, n, _ => by simp [noL] at n
theorem dpAll_but {l : Addr} {ys : List V} (hl : H l = some (.lst ys)) (B : But l H H') : ∀ (ds : List PyData) (vs : List V), noLAll ds = true → DpAll K H vs ds → DpAll K H' vs ds
  | [], _, _, h => by cases h; exact .nil
  | d :: ds, _, n, h => by
    have n' : noL d = true ∧ noLAll ds = true := by simpa [noLAll] using n
    cases h with
    | cons h1 h2 => exact .cons (dp_but hl B d _ n'.1 h1) (dpAll_but hl B ds _ n'.2 h2)
end
theorem Turn.dp {p : Pl} {b b0 : Int} {d : PyData} {v : V} (t : Turn p b H H') (hp : Pool H p b0) (n : noL d = true) (h : Dp K H v d) : Dp K H' v d := by
  obtain ⟨zs, ez⟩ := hp.there
  exact dp_but ez t.but d v n h
theorem Turn.sqT {p : Pl} {b b0 : Int} {a : Addr} {xs : List V} (t : Turn p b H H') (hp : Pool H p b0) (h : SqT K H a xs) : SqT K H' a xs := by
  obtain ⟨zs, ez⟩ := hp.there
  exact sqT_but ez t.but h
/-! how deep data are -/
mutual
def dDeep : PyData → Nat
  | .list ds => dDeepAll ds + 1
  | .tuple ds => dDeepAll ds + 1
  | _ => 0
def dDeepAll : List PyData → Nat
  | [] => 0
  | d :: ds => max (dDeep d) (dDeepAll ds)
end
mutual
def noDict : PyData → Bool
  | .dict _ => false
  | .list ds => noDictAll ds
  | .tuple ds => noDictAll ds
  | _ => true
def noDictAll : List PyData → Bool
  | [] => true
  | d :: ds => noDict d && noDictAll ds
end
mutual
def small : PyData → Bool
  | .list ds => decide (ds.length ≤ 100000) && smallAll ds
  | .tuple ds => decide (ds.length ≤ 100000) && smallAll ds
  | .dict _ => false
  | _ => true
def smallAll : List PyData → Bool
  | [] => true
  | d :: ds => small d && smallAll ds
end
theorem small_at : ∀ {ds : List PyData} {i : Nat} {d : PyData}, smallAll ds = true → ds[i]? = some d → small d = true
  | [], _, _, _, h => by cases h
  | e :: ds, 0, d, s, h => by
    cases h
    have : small e = true ∧ smallAll ds = true := by simpa [smallAll] using s
    exact this.1
  | e :: ds, i + 1, d, s, h => by
    have : small e = true ∧ smallAll ds = true := by simpa [smallAll] using s
    exact small_at this.2 (by simpa using h)
theorem deep_at : ∀ {ds : List PyData} {i : Nat} {d : PyData}, ds[i]? = some d → dDeep d ≤ dDeepAll ds
  | [], _, _, h => by cases h
  | e :: ds, 0, d, h => by cases h; exact Nat.le_max_left _ _
  | e :: ds, i + 1, d, h => Nat.le_trans (deep_at (ds := ds) (i := i) (by simpa using h)) (Nat.le_max_right _ _)
theorem eqd_of : ∀ (n : Nat) (d : PyData) (x y : V), dDeep d ≤ n → small d = true → Dp K H x d → Dp K H y d → Eqd K H n x y
  | n, .none, _, _, _, _, h, k => by cases h; cases k; exact .non
  | n, .bool b, _, _, _, _, h, k => by cases h; cases k; exact .bl b
  | n, .int i, _, _, _, _, h, k => by cases h; cases k; exact .int i
  | n, .str z, _, _, _, _, h, k => by cases h; cases k; exact .str z
  | n, .dict _, _, _, _, s, _, _ => by simp [small] at s
  | 0, .list ds, _, _, hd, _, _, _ => by simp [dDeep] at hd
  | 0, .tuple ds, _, _, hd, _, _, _ => by simp [dDeep] at hd
  | n + 1, .list ds, _, _, hd, s, h, k => by
    have s2 : ds.length ≤ 100000 ∧ smallAll ds = true := by simpa [small] using s
    have hd2 : dDeepAll ds ≤ n := by simpa [dDeep] using hd
    cases h with
    | lst h1 h2 =>
      cases k with
      | lst k1 k2 =>
        have l1 := dpAll_len h2
        have l2 := dpAll_len k2
        refine .lst h1 k1 (by omega) (by omega) fun i x y hx hy => ?_
        have hi := (List.getElem?_eq_some_iff.mp hx).1
        have e : ds[i]? = some ds[i] := List.getElem?_eq_getElem (by omega)
        obtain ⟨x', e1, d1⟩ := dpAll_get h2 e
        obtain ⟨y', e2, d2⟩ := dpAll_get k2 e
        rw [hx] at e1
        rw [hy] at e2
        cases e1
        cases e2
        exact eqd_of n _ _ _ (Nat.le_trans (deep_at e) hd2) (small_at s2.2 e) d1 d2
  | n + 1, .tuple ds, _, _, hd, s, h, k => by
    have s2 : ds.length ≤ 100000 ∧ smallAll ds = true := by simpa [small] using s
    have hd2 : dDeepAll ds ≤ n := by simpa [dDeep] using hd
    cases h with
    | tup h1 h2 =>
      cases k with
      | tup k1 k2 =>
        have l1 := dpAll_len h2
        have l2 := dpAll_len k2
        refine .tup h1 k1 (by omega) (by omega) fun i x y hx hy => ?_
        have hi := (List.getElem?_eq_some_iff.mp hx).1
        have e : ds[i]? = some ds[i] := List.getElem?_eq_getElem (by omega)
        obtain ⟨x', e1, d1⟩ := dpAll_get h2 e
        obtain ⟨y', e2, d2⟩ := dpAll_get k2 e
        rw [hx] at e1
        rw [hy] at e2
        cases e1
        cases e2
        exact eqd_of n _ _ _ (Nat.le_trans (deep_at e) hd2) (small_at s2.2 e) d1 d2
end
theorem upd_id {H : Hp} {a : Addr} {o : HO} (e : H a = some o) : upd H a o = H := by
  funext b
  unfold upd
  split
  · rename_i h
    rw [h, e]
  · rfl
section
variable {K : PySem.W.Frag} {H H' : Hp}
theorem sqT_ext (ht : ∀ c xs, H c = some (.tup xs) → H' c = some (.tup xs)) (hf : ∀ c o u, H c = some (.frz o u) → H' c = some (.frz o u)) {a : Addr} {xs : List V} (h : SqT K H a xs) : SqT K H' a xs := by
  rcases h with (h | ⟨o, h⟩) | h
  · exact .inl (.inl (ht _ _ h))
  · exact .inl (.inr ⟨o, hf _ _ _ h⟩)
  · exact .inr h
mutual
theorem dp_ext (ht : ∀ c xs, H c = some (.tup xs) → H' c = some (.tup xs)) (hf : ∀ c o u, H c = some (.frz o u) → H' c = some (.frz o u)) : ∀ (d : PyData) (v : V), noL d = true → Dp K H v d → Dp K H' v d
  | .none, _, _, h => by cases h; exact .non
  | .bool b, _, _, h => by cases h; exact .bl b
  | .int i, _, _, h => by cases h; exact .int i
  | .str x, _, _, h => by cases h; exact .str x
  | .list ds, _, n, _ => by simp [noL] at n
  | .tuple ds, _, n, h => by
    cases h with
    | tup hs ha => exact .tup (sqT_ext ht hf hs) (dpAll_ext ht hf ds _ (by simpa [noL] using n) ha)
  | .dict _, _, n, _ => by simp [noL] at n
theorem dpAll_ext (ht : ∀ c xs, H c = some (.tup xs) → H' c = some (.tup xs)) (hf : ∀ c o u, H c = some (.frz o u) → H' c = some (.frz o u)) : ∀ (ds : List PyData) (vs : List V), noLAll ds = true → DpAll K H vs ds → DpAll K H' vs ds
  | [], _, _, h => by cases h; exact .nil
  | d :: ds, _, n, h => by
    have n' : noL d = true ∧ noLAll ds = true := by simpa [noLAll] using n
    cases h with
    | cons h1 h2 => exact .cons (dp_ext ht hf d _ n'.1 h1) (dpAll_ext ht hf ds _ n'.2 h2)
end
end
section
variable {K : PySem.W.Frag} {H H' : Hp}
/-- the script's list is not the new list at l, or it is a written one -/
theorem sqL_split {a l : Addr} {xs : List V} (h : SqL K H a xs) (n : H l = none) : a ≠ l ∨ ∀ H' : Hp, SqL K H' a xs := by
  rcases h with (h | ⟨o, h⟩) | h
  · exact .inl (ne_of_none h n)
  · exact .inl (ne_of_none h n)
  · exact .inr fun H' => .inr h
theorem sqL_but {a l : Addr} {xs : List V} (hA : a ≠ l ∨ ∀ H' : Hp, SqL K H' a xs) (B : But l H H') (h : SqL K H a xs) : SqL K H' a xs := by
  rcases hA with n | hA
  · rcases h with (h | ⟨o, h⟩) | h
    · exact .inl (.inl (B _ _ n h))
    · exact .inl (.inr ⟨o, B _ _ n h⟩)
    · exact .inr h
  · exact hA H'
theorem sqL_updK {a l : Addr} {xs : List V} {kvs kvs' : List (Key × V)} (e : H l = some (.dK kvs)) (h : SqL K H a xs) : SqL K (upd H l (.dK kvs')) a xs := by
  rcases h with (h | ⟨o, h⟩) | h
  · exact .inl (.inl (by rw [upd_ne (ne_of h e (by intro z; cases z))]; exact h))
  · exact .inl (.inr ⟨o, by rw [upd_ne (ne_of h e (by intro z; cases z))]; exact h⟩)
  · exact .inr h
theorem sqT_updK {a l : Addr} {xs : List V} {kvs kvs' : List (Key × V)} (e : H l = some (.dK kvs)) (h : SqT K H a xs) : SqT K (upd H l (.dK kvs')) a xs :=
  sqT_ext (fun c xs h => by rw [upd_ne (ne_of h e (by intro z; cases z))]; exact h) (fun c o u h => by rw [upd_ne (ne_of h e (by intro z; cases z))]; exact h) h
theorem dp_updK {l : Addr} {kvs kvs' : List (Key × V)} (e : H l = some (.dK kvs)) {d : PyData} {v : V} (n : noL d = true) (h : Dp K H v d) : Dp K (upd H l (.dK kvs')) v d :=
  dp_ext (fun c xs h => by rw [upd_ne (ne_of h e (by intro z; cases z))]; exact h) (fun c o u h => by rw [upd_ne (ne_of h e (by intro z; cases z))]; exact h) d v n h
end
/-! ### tests of written texts -/
theorem ite_df {a b : Str} {A B : Prop} (h : ¬ a = b) (k : B) : if decide (a = b) = true then A else B := by rw [decide_eq_false h]; exact k
theorem ite_ndt {a : Str} {A B : Prop} (k : B) : if (!decide (a = a)) = true then A else B := by rw [decide_eq_true rfl]; exact k
theorem ite_ndtI {a : Int} {A B : Prop} (k : B) : if (!decide (a = a)) = true then A else B := by rw [decide_eq_true rfl]; exact k
theorem ite_ndf {a b : Str} {A B : Prop} (h : ¬ a = b) (k : A) : if (!decide (a = b)) = true then A else B := by rw [decide_eq_false h]; exact k
/-! ### dicts of texts -/
section
variable {K : PySem.W.Frag} {σ : L2.St} {H H1 : Hp} {Q : VK} {td ty tv : TE} {D : Ends}
def qDGet (y : V) (Q : VK) (x : V) (H2 : Hp) : Prop := ∃ a v, x = .ref a ∧ DGet H2 a y (some v) ∧ Q v H2
theorem go_dget (h : td σ H fun x H1 => ty σ H1 fun y H2 => qDGet y Q x H2) : tDGet td ty σ H Q := h
theorem go_dgetS {a : Addr} {kvs : List (Key × V)} {k : Str} {v : V} (e : H a = some (.dK kvs)) (hv : valV kvs (.inr k) = some v) (h : Q v H) : qDGet (.str k) Q (.ref a) H :=
  ⟨a, v, rfl, by have g := DGet.k (k := Sum.inr k) e; rw [hv] at g; exact g, h⟩
def qDPut (y v : V) (D : Ends) (σ : L2.St) (x : V) (H3 : Hp) : Prop := ∃ a H4, x = .ref a ∧ DPut H3 a y v H4 ∧ D.nx σ H4
theorem go_dput (h : tv σ H fun v H1 => td σ H1 fun x H2 => ty σ H2 fun y H3 => qDPut y v D σ x H3) : sDPut td ty tv D σ H := h
theorem go_dputS {a : Addr} {kvs : List (Key × V)} {k : Str} {v : V} (e : H a = some (.dK kvs)) (hz : kvs.length ≤ 100000) (h : D.nx σ (upd H a (.dK (putK kvs (.inr k) v)))) : qDPut (.str k) v D σ (.ref a) H :=
  ⟨a, _, rfl, DPut.k (k := Sum.inr k) e (szlt hz), h⟩
theorem go_dnew (h : ∀ p, H p = none → Q (.ref p) (upd H p (.dK []))) : tDNewK σ H Q := h
theorem go_iTup {tl : TE} {R : It → Hp → Prop} (h : tl σ H fun x H1 => ∃ a, x = .ref a ∧ (∃ xs, SqT K H1 a xs) ∧ R (Itt K a) H1) : iTup K tl σ H R := h
/-- for x in a tuple, behind its reading -/
theorem foT {g : TG} {tb : TS} {a : Addr} (xs : List V) (Pv : Nat → L2.St → Hp → Prop) (h0 : Pv 0 σ H1) (hl : ∀ i σ H, i ≤ xs.length → Pv i σ H → SqT K H a xs)
    (hs : ∀ i x σ H, xs[i]? = some x → Pv i σ H → g x σ H fun σ2 H2 => tb { D with nx := Pv (i + 1), ct := Pv (i + 1), bk := D.nx } σ2 H2) (hd : ∀ σ H, Pv xs.length σ H → D.nx σ H) :
    ∃ b, V.ref a = .ref b ∧ (∃ xs, SqT K H1 b xs) ∧ ∃ W : Nat → Nat → L2.St → Hp → Prop, (∃ m, W 0 m σ H1) ∧ ∀ i m σ H, W i m σ H →
      ((Itt K b).stop i H ∧ D.nx σ H) ∨ ((Itt K b).go i H ∧ ∃ N : L2.St → Hp → Prop, (∀ σ' H', N σ' H' → ∃ m', m' < m ∧ W (i + 1) m' σ' H') ∧ ∀ x H', (Itt K b).yld i H x H' → g x σ H' fun σ2 H2 => tb { D with nx := N, ct := N, bk := D.nx } σ2 H2) :=
  ⟨a, rfl, ⟨xs, hl 0 σ H1 (Nat.zero_le _) h0⟩, for_tup Pv h0 hl hs hd⟩
theorem go_tupOf {a : Addr} {xs : List V} (hs : SqL K H a xs) (h : ∀ l, H l = none → Q (.ref l) (upd H l (.tup xs))) : qTupOf K [.ref a] H Q := go_tupOfL hs h
end
theorem valV_put {kvs : List (Key × V)} {k : Key} {v : V} : valV (putK kvs k v) k = some v := by
  unfold putK
  split
  · rename_i h
    induction kvs with
    | nil => cases h
    | cons p r ih =>
      by_cases e : p.1 = k
      · rw [List.map_cons, if_pos e]
        exact valV_pos e
      · rw [List.map_cons, if_neg e, valV_neg e]
        refine ih ?_
        simpa [List.any_cons, e] using h
  · rename_i h
    induction kvs with
    | nil => exact valV_pos rfl
    | cons p r ih =>
      have e : ¬ p.1 = k := fun e => h (by simp [List.any_cons, e])
      rw [List.cons_append, valV_neg e]
      refine ih ?_
      simpa [List.any_cons, e] using h
theorem valV_put_ne {kvs : List (Key × V)} {k j : Key} {v : V} (n : j ≠ k) : valV (putK kvs k v) j = valV kvs j := by
  unfold putK
  split
  · rename_i h
    clear h
    induction kvs with
    | nil => rfl
    | cons p r ih =>
      rw [List.map_cons]
      by_cases e : p.1 = k
      · rw [if_pos e]
        have e2 : ¬ p.1 = j := fun z => n (z.symm.trans e)
        rw [valV_neg (p := (p.1, v)) e2, valV_neg e2]
        exact ih
      · rw [if_neg e]
        by_cases e2 : p.1 = j
        · rw [valV_pos e2, valV_pos e2]
        · rw [valV_neg e2, valV_neg e2]
          exact ih
  · rename_i h
    clear h
    induction kvs with
    | nil => exact valV_neg (Ne.symm n)
    | cons p r ih =>
      rw [List.cons_append]
      by_cases e2 : p.1 = j
      · rw [valV_pos e2, valV_pos e2]
      · rw [valV_neg e2, valV_neg e2]
        exact ih
def keyPut (ks : List Key) (k : Key) : List Key := if (ks.any fun j => decide (j = k)) = true then ks else ks ++ [k]
theorem putK_keys {kvs : List (Key × V)} {k : Key} {v : V} : (putK kvs k v).map (·.1) = keyPut (kvs.map (·.1)) k := by
  unfold putK keyPut
  have e : ((kvs.map (·.1)).any fun j => decide (j = k)) = (kvs.any fun kv => decide (kv.1 = k)) := by rw [List.any_map]; rfl
  rw [e]
  split
  · rw [List.map_map]
    refine List.map_congr_left fun p _ => ?_
    show (if p.1 = k then (p.1, v) else p).1 = p.1
    split <;> rfl
  · rw [List.map_append]
    rfl
theorem putK_len {kvs : List (Key × V)} {k : Key} {v : V} : (putK kvs k v).length ≤ kvs.length + 1 := by
  unfold putK
  split <;> simp
theorem putK_mem {kvs : List (Key × V)} {k : Key} {v : V} {p : Key × V} (h : p ∈ putK kvs k v) : p = (k, v) ∨ p ∈ kvs := by
  unfold putK at h
  split at h
  · obtain ⟨q, hq, e⟩ := List.mem_map.mp h
    split at e
    · rename_i hk
      exact .inl (by rw [← e, hk])
    · exact .inr (e ▸ hq)
  · rcases List.mem_append.mp h with h | h
    · exact .inr h
    · exact .inl (List.mem_singleton.mp h)
theorem valV_mem {kvs : List (Key × V)} {k : Key} {v : V} (h : valV kvs k = some v) : (k, v) ∈ kvs := by
  induction kvs with
  | nil => cases h
  | cons p r ih =>
    by_cases e : p.1 = k
    · rw [valV_pos e] at h
      cases h
      rw [← e]
      exact List.mem_cons_self
    · rw [valV_neg e] at h
      exact List.mem_cons_of_mem _ (ih h)
/-! ### truth -/
section
variable {X : Cx} {K : PySem.W.Frag} {a : Expr} {ta : TE} {σ : L2.St} {H : Hp} {QB : Bool → Hp → Prop}
def qTru (K : PySem.W.Frag) (QB : Bool → Hp → Prop) (x : V) (H : Hp) : Prop := ∃ k, TruV K x H k ∧ QB k H
def tTr (K : PySem.W.Frag) (ta : TE) : TT := fun σ H QB => ta σ H (qTru K QB)
theorem p_truthK (hK : X.K = K) (ha : PE X a ta) (he : ∀ whole, isTrue a X.env whole = (do let v ← whole; standAt a.pos; holding [v] (truthy v))) : PT X a (tTr K ta) := by
  subst hK
  exact pt_truth ha he
theorem go_tTr (h : ta σ H (qTru K QB)) : tTr K ta σ H QB := h
theorem go_truL {l : Addr} {xs : List V} (h : SqL K H l xs) (q : QB (!xs.isEmpty) H) : qTru K QB (.ref l) H := ⟨_, .inl ⟨xs, h, rfl⟩, q⟩
theorem go_truT {l : Addr} {xs : List V} (h : SqT K H l xs) (q : QB (!xs.isEmpty) H) : qTru K QB (.ref l) H := ⟨_, .inr (.inl ⟨xs, h, rfl⟩), q⟩
theorem go_truI {i : Int} (q : QB (i != 0) H) : qTru K QB (.int i) H := ⟨_, rfl, q⟩
theorem go_truB {b : Bool} (q : QB b H) : qTru K QB (.bl b) H := ⟨_, rfl, q⟩
theorem go_truN (q : QB false H) : qTru K QB .non H := ⟨_, rfl, q⟩
end
/-- {x} * k, of one item -/
def rRep1 (K : PySem.W.Frag) : R2 := fun x y H Q => ∃ l k z, x = .ref l ∧ y = .int k ∧ SqT K H l [z] ∧ 2 ≤ k ∧ k ≤ 1000000 ∧ ∀ p, H p = none → Q (.ref p) (upd H p (.tup (List.replicate k.toNat z)))
theorem flat_one {α : Type} (z : α) : ∀ n : Nat, (List.replicate n [z]).flatten = List.replicate n z
  | 0 => rfl
  | n + 1 => by
    rw [List.replicate_succ, List.flatten_cons, flat_one z n]
    rfl
theorem op_rep1 {X : Cx} : OpR X (binaryOp .Mult) (rRep1 X.K) := by
  intro pins s σ H x y v u Q I rx ry h
  obtain ⟨l, k, z, rfl, rfl, hT, h2, h6, q⟩ := h
  obtain ⟨t, rfl⟩ := ry
  cases rx
  obtain ⟨its, r, ⟨⟨oc, od, oda, osl⟩, ho, hcl, m, hda⟩, hsz⟩ := I.tuple hT
  dsimp only at hcl hda
  subst hcl hda
  obtain ⟨zu, rfl⟩ : ∃ zu, its = [zu] := by
    cases r with
    | cons _ rt => cases rt; exact ⟨_, rfl⟩
  have one : ∀ w : Int, (((([zu] : List Value).toArray).size : Nat) : Int) * w = w := fun w => by
    show ((1 : Nat) : Int) * w = w
    omega
  have line : (List.replicate k.toNat [zu]).flatten.length ≤ sizeLine := by
    rw [flat_one, List.length_replicate, sizeLine_eq]
    omega
  have d0 : (decide (k < -(2 ^ 63)) || decide (k ≥ 2 ^ 63)) = false := by simp; omega
  have d1 : ((([zu] : List Value).toArray).isEmpty || k == 1) = false := by
    show (false || k == 1) = false
    simp
    omega
  have d2 : (decide (k ≤ 0) || (([zu] : List Value).toArray).isEmpty) = false := by
    show (decide (k ≤ 0) || false) = false
    simp
    omega
  have d4 : Builtin.Tuple.tupleTooMany (((([zu] : List Value).toArray).size : Nat) * k) = false := by
    rw [one]
    unfold Builtin.Tuple.tupleTooMany
    rw [sizeLine_eq]
    simp
    omega
  have run := tuple_mulW l [zu].toArray m od osl k t d0 d1 d2 (by rw [one]; omega) d4 (by rw [size_rep, List.size_toArray]; exact line)
  refine wpAny_binaryOp_repeat_ref (T := "tuple") (U := "int") (by decide) ⟨_, ho, rfl⟩ (fun z => typeIs_int z k t) noFill_tuple_mul F.fills_int_mul F.slot_int_rmul repeat_tuple F.slot_int_index.lookup ?_
  refine call_meets F.slot_int_rmul (typeIs_int s k t) F.entry_int_rmul (F.args_int_rmul_2 _ _) (int_rmul_tuple k t l [zu].toArray m od osl) ⟨ho, rfl, ⟨_, ho, rfl⟩, ?_⟩
  refine call_meets F.slot_tuple_mul ⟨_, ho, rfl⟩ F.entry_tuple_mul (F.args_tuple_mul_2 _ _) run ⟨ho, ?_⟩
  rw [size_rep]
  have hv : Vals (List.replicate k.toNat z) (List.replicate k.toNat zu) := by
    have rz : RelV z zu := by cases r with | cons a _ => exact a
    generalize k.toNat = j
    induction j with
    | zero => exact .nil
    | succ j ih => exact .cons rz ih
  have fresh := I.hok.fresh (Nat.le_refl _)
  refine ⟨.ref s.heap.objs.size, _, I.laid (t' := s.toks) (o := .tup (List.replicate k.toNat z)) (fun b ob e => Heap.get?_push_of_some _ e) (Nat.le_refl _) ⟨?_, List.replicate k.toNat zu, hv, ?_⟩, rfl, q _ fresh⟩
  · rw [List.length_replicate, sizeLine_eq]
    omega
  · rw [flat_one]
    exact IsTup.new _ _
/-! ### expressions -/
inductive Ex where
  | num (n : Int)
  | var (x : Str)
  | long
  | view (e : Ex)
  | pick (x : Str) (a b : Ex)
  | op (s : Nat) (a b : Ex)
def signsS : List Str := ["+", "-", "*", "/", "mod", "<", "="]
def signS (s : Nat) : Str := signsS.getD s "+"
def exD : Ex → PyData
  | .num n => .tuple [.str "number", .int n]
  | .var x => .tuple [.str "variable", .str x]
  | .long => .tuple [.str "long"]
  | .view e => .tuple [.str "view", exD e]
  | .pick x a b => .tuple [.str "pick", .str x, exD a, exD b]
  | .op s a b => .tuple [.str (signS s), exD a, exD b]
def ExIn (ns ps : List Str) : Nat → Ex → Prop
  | 0, _ => False
  | _ + 1, .num n => 0 ≤ n ∧ n < 65536
  | _ + 1, .var x => x ∈ ns
  | _ + 1, .long => True
  | d + 1, .view e => ExIn ns ps d e
  | d + 1, .pick x a b => x ∈ ps ∧ ExIn ns ps d a ∧ ExIn ns ps d b
  | d + 1, .op s a b => s < 7 ∧ ExIn ns ps d a ∧ ExIn ns ps d b
theorem ExIn.up {ns ps : List Str} : ∀ {d : Nat} {e : Ex}, ExIn ns ps d e → ExIn ns ps (d + 1) e
  | 0, _, h => h.elim
  | _ + 1, .num n, h => h
  | _ + 1, .var x, h => h
  | _ + 1, .long, h => h
  | d + 1, .view e, h => ExIn.up (d := d) h
  | d + 1, .pick x a b, h => ⟨h.1, ExIn.up (d := d) h.2.1, ExIn.up (d := d) h.2.2⟩
  | d + 1, .op s a b, h => ⟨h.1, ExIn.up (d := d) h.2.1, ExIn.up (d := d) h.2.2⟩
theorem ExIn.le {ns ps : List Str} {d m : Nat} {e : Ex} (h : ExIn ns ps d e) (hm : d ≤ m) : ExIn ns ps m e := by
  induction hm with
  | refl => exact h
  | step _ ih => exact ih.up
theorem exD_noL : ∀ e : Ex, noL (exD e) = true
  | .num n => rfl
  | .var x => rfl
  | .long => rfl
  | .view e => by
    show (true && (noL (exD e) && true)) = true
    rw [exD_noL e]
    rfl
  | .pick x a b => by
    show (true && (true && (noL (exD a) && (noL (exD b) && true)))) = true
    rw [exD_noL a, exD_noL b]
    rfl
  | .op s a b => by
    show (true && (noL (exD a) && (noL (exD b) && true))) = true
    rw [exD_noL a, exD_noL b]
    rfl
def comb (s : Nat) (l r : Int) : Int := match s with
  | 0 => (l + r) % 65536
  | 1 => if l - r > 0 then l - r else 0
  | 2 => l * r % 65536
  | 3 => if r > 0 then l / r else 0
  | 4 => if r > 0 then l % r else 0
  | 5 => if l < r then 1 else 0
  | _ => if l = r then 1 else 0
theorem comb_in {s : Nat} {l r : Int} (h1 : 0 ≤ l ∧ l < 65536) (h2 : 0 ≤ r ∧ r < 65536) : 0 ≤ comb s l r ∧ comb s l r < 65536 := by
  unfold comb
  split
  · omega
  · split <;> omega
  · exact ⟨Int.emod_nonneg _ (by decide), Int.emod_lt_of_pos _ (by decide)⟩
  · split
    · rename_i h
      exact ⟨Int.ediv_nonneg h1.1 h2.1, Int.lt_of_le_of_lt (Int.ediv_le_self _ h1.1) h1.2⟩
    · omega
  · split
    · rename_i h
      exact ⟨Int.emod_nonneg _ (by omega), Int.lt_trans (Int.emod_lt_of_pos _ h) h2.2⟩
    · omega
  · split <;> omega
  · split <;> omega
def evalE (tab : Str → Int) (on : Str → Bool) (seen : List Int) : Ex → Int
  | .num n => n
  | .var x => tab x
  | .long => min (seen.length : Int) 65535
  | .view e => if evalE tab on seen e < seen.length then seen.getD (evalE tab on seen e).toNat 0 else 0
  | .pick x a b => if on x = true then evalE tab on seen a else evalE tab on seen b
  | .op s a b => comb s (evalE tab on seen a) (evalE tab on seen b)
theorem evalE_in {tab : Str → Int} {on : Str → Bool} {seen : List Int} {ns ps : List Str} (ht : ∀ x ∈ ns, 0 ≤ tab x ∧ tab x < 65536) (hs : ∀ n ∈ seen, 0 ≤ n ∧ n < 65536) :
    ∀ (d : Nat) (e : Ex), ExIn ns ps d e → 0 ≤ evalE tab on seen e ∧ evalE tab on seen e < 65536
  | 0, _, h => h.elim
  | d + 1, .num n, h => h
  | d + 1, .var x, h => ht x h
  | d + 1, .long, _ => by show 0 ≤ min (seen.length : Int) 65535 ∧ _; unfold evalE; omega
  | d + 1, .view e, h => by
    obtain ⟨h0, h1⟩ := evalE_in (on := on) ht hs d e h
    show 0 ≤ (if evalE tab on seen e < seen.length then seen.getD (evalE tab on seen e).toNat 0 else 0) ∧ (if evalE tab on seen e < seen.length then seen.getD (evalE tab on seen e).toNat 0 else 0) < 65536
    split
    · rename_i hl
      have hlt : (evalE tab on seen e).toNat < seen.length := by omega
      rw [List.getD_eq_getElem?_getD, List.getElem?_eq_getElem hlt]
      exact hs _ (List.getElem_mem hlt)
    · omega
  | d + 1, .pick x a b, h => by
    show 0 ≤ (if on x = true then evalE tab on seen a else evalE tab on seen b) ∧ (if on x = true then evalE tab on seen a else evalE tab on seen b) < 65536
    split
    · exact evalE_in ht hs d a h.2.1
    · exact evalE_in ht hs d b h.2.2
  | d + 1, .op s a b, h => comb_in (evalE_in ht hs d a h.2.1) (evalE_in ht hs d b h.2.2)
/-- names with ints, names with truth values -/
def TabOk (H : Hp) (t : Addr) (ns : List Str) (tab : Str → Int) : Prop := ∃ kvs, H t = some (.dK kvs) ∧ kvs.length ≤ 1000 ∧ ∀ x ∈ ns, valV kvs (.inr x) = some (.int (tab x)) ∧ 0 ≤ tab x ∧ tab x < 65536
def OnOk (H : Hp) (t : Addr) (ps : List Str) (on : Str → Bool) : Prop := ∃ kvs, H t = some (.dK kvs) ∧ kvs.length ≤ 1000 ∧ ∀ x ∈ ps, valV kvs (.inr x) = some (.bl (on x))
theorem TabOk.same {H H' : Hp} {t : Addr} {ns : List Str} {tab : Str → Int} (h : TabOk H t ns tab) (s : Same H H') : TabOk H' t ns tab := let ⟨kvs, e, r⟩ := h; ⟨kvs, s _ _ e, r⟩
theorem OnOk.same {H H' : Hp} {t : Addr} {ns : List Str} {on : Str → Bool} (h : OnOk H t ns on) (s : Same H H') : OnOk H' t ns on := let ⟨kvs, e, r⟩ := h; ⟨kvs, s _ _ e, r⟩
theorem TabOk.turn {H H' : Hp} {t : Addr} {ns : List Str} {tab : Str → Int} {p : Pl} {b b0 : Int} (h : TabOk H t ns tab) (hp : Pool H p b0) (s : Turn p b H H') : TabOk H' t ns tab := by
  obtain ⟨kvs, e, r⟩ := h
  obtain ⟨zs, ez⟩ := hp.there
  exact ⟨kvs, s.but _ _ (ne_of e ez (by intro z; cases z)) e, r⟩
theorem OnOk.turn {H H' : Hp} {t : Addr} {ns : List Str} {on : Str → Bool} {p : Pl} {b b0 : Int} (h : OnOk H t ns on) (hp : Pool H p b0) (s : Turn p b H H') : OnOk H' t ns on := by
  obtain ⟨kvs, e, r⟩ := h
  obtain ⟨zs, ez⟩ := hp.there
  exact ⟨kvs, s.but _ _ (ne_of e ez (by intro z; cases z)) e, r⟩
/-- a dict that was filled over the names xs, its values so -/
structure DB (kvs : List (Key × V)) (xs : List Str) (P : V → Prop) : Prop where
  keys : kvs.map (·.1) = xs.foldl (fun ks x => keyPut ks (.inr x)) []
  len : kvs.length ≤ xs.length
  has : ∀ x ∈ xs, ∃ v, valV kvs (.inr x) = some v ∧ P v
  all : ∀ p ∈ kvs, P p.2
theorem DB.nil {P : V → Prop} : DB [] [] P := ⟨rfl, Nat.le_refl _, (fun _ h => nomatch h), fun _ h => nomatch h⟩
theorem DB.put {kvs : List (Key × V)} {xs : List Str} {P : V → Prop} {x : Str} {v : V} (h : DB kvs xs P) (hv : P v) : DB (putK kvs (.inr x) v) (xs ++ [x]) P := by
  refine ⟨by rw [putK_keys, h.keys, List.foldl_append]; rfl, ?_, fun y hy => ?_, fun p hp => ?_⟩
  · have := h.len
    have := putK_len (kvs := kvs) (k := .inr x) (v := v)
    rw [List.length_append, List.length_singleton]
    omega
  · by_cases e : y = x
    · exact ⟨v, by rw [e]; exact valV_put, hv⟩
    · have hm : y ∈ xs := by
        rcases List.mem_append.mp hy with hy | hy
        · exact hy
        · exact absurd (List.mem_singleton.mp hy) e
      obtain ⟨u, h1, h2⟩ := h.has y hm
      exact ⟨u, by rw [valV_put_ne (fun z => e (Sum.inr.inj z))]; exact h1, h2⟩
  · rcases putK_mem hp with rfl | hp
    · exact hv
    · exact h.all p hp
/-- a dict that was filled over the same names, each with its value in kvs -/
structure DC (k0 : List (Key × V)) (xs : List Str) (kvs : List (Key × V)) : Prop where
  keys : k0.map (·.1) = xs.foldl (fun ks x => keyPut ks (.inr x)) []
  len : k0.length ≤ xs.length
  same : ∀ p ∈ k0, valV kvs p.1 = some p.2
  has : ∀ x ∈ xs, valV k0 (.inr x) = valV kvs (.inr x)
theorem DC.nil {kvs : List (Key × V)} : DC [] [] kvs := ⟨rfl, Nat.le_refl _, (fun _ h => nomatch h), fun _ h => nomatch h⟩
theorem DC.put {k0 kvs : List (Key × V)} {xs : List Str} {x : Str} {v : V} (h : DC k0 xs kvs) (hv : valV kvs (.inr x) = some v) : DC (putK k0 (.inr x) v) (xs ++ [x]) kvs := by
  refine ⟨by rw [putK_keys, h.keys, List.foldl_append]; rfl, ?_, fun p hp => ?_, fun y hy => ?_⟩
  · have := h.len
    have := putK_len (kvs := k0) (k := .inr x) (v := v)
    rw [List.length_append, List.length_singleton]
    omega
  · rcases putK_mem hp with rfl | hp
    · exact hv
    · exact h.same p hp
  · by_cases e : y = x
    · rw [e, hv]
      exact valV_put
    · have hm : y ∈ xs := by
        rcases List.mem_append.mp hy with hy | hy
        · exact hy
        · exact absurd (List.mem_singleton.mp hy) e
      rw [valV_put_ne (fun z => e (Sum.inr.inj z))]
      exact h.has y hm
theorem DC.eqV {K : PySem.W.Frag} {H : Hp} {k0 kvs : List (Key × V)} {xs : List Str} {P : V → Prop} (h : DC k0 xs kvs) (g : DB kvs xs P) (hP : ∀ v, P v → flatB v = true) {a b : Addr} (ha : H a = some (.dK k0)) (hb : H b = some (.dK kvs)) : EqV K H 2 (.ref a) (.ref b) := by
  refine .inr (.inr (.inr ⟨a, b, k0, kvs, rfl, rfl, ha, hb, ?_, fun p hp => ⟨p.2, h.same p hp, .inl ⟨rfl, hP _ (g.all (p.1, p.2) (valV_mem (h.same p hp)))⟩⟩⟩))
  have e := congrArg List.length (h.keys.trans g.keys.symm)
  rw [List.length_map, List.length_map] at e
  exact e
/-- the table's values, as functions -/
def tabOf (kvs : List (Key × V)) (x : Str) : Int := match valV kvs (.inr x) with | some (.int n) => n | _ => 0
def onOf (kvs : List (Key × V)) (x : Str) : Bool := match valV kvs (.inr x) with | some (.bl b) => b | _ => false
def IsNum (v : V) : Prop := ∃ n : Int, v = .int n ∧ 0 ≤ n ∧ n < 65536
def IsBl (v : V) : Prop := ∃ b : Bool, v = .bl b
theorem DB.tab {H : Hp} {t : Addr} {kvs : List (Key × V)} {xs : List Str} (h : DB kvs xs IsNum) (hx : xs.length ≤ 1000) (e : H t = some (.dK kvs)) : TabOk H t xs (tabOf kvs) := by
  have := h.len
  refine ⟨kvs, e, by omega, fun x hm => ?_⟩
  obtain ⟨v, h1, n, rfl, h2⟩ := h.has x hm
  have et : tabOf kvs x = n := by unfold tabOf; rw [h1]
  rw [et]
  exact ⟨h1, h2⟩
theorem DB.on {H : Hp} {t : Addr} {kvs : List (Key × V)} {xs : List Str} (h : DB kvs xs IsBl) (hx : xs.length ≤ 1000) (e : H t = some (.dK kvs)) : OnOk H t xs (onOf kvs) := by
  have := h.len
  refine ⟨kvs, e, by omega, fun x hm => ?_⟩
  obtain ⟨v, h1, b, rfl⟩ := h.has x hm
  have et : onOf kvs x = b := by unfold onOf; rw [h1]
  rw [et]
  exact h1
theorem DC.tab {H : Hp} {t : Addr} {k0 kvs : List (Key × V)} {xs : List Str} (h : DC k0 xs kvs) (g : DB kvs xs IsNum) (hx : xs.length ≤ 1000) (e : H t = some (.dK k0)) : TabOk H t xs (tabOf kvs) := by
  have := h.len
  refine ⟨k0, e, by omega, fun x hm => ?_⟩
  obtain ⟨v, h1, n, rfl, h2⟩ := g.has x hm
  have et : tabOf kvs x = n := by unfold tabOf; rw [h1]
  rw [et, h.has x hm]
  exact ⟨h1, h2⟩
theorem DC.on {H : Hp} {t : Addr} {k0 kvs : List (Key × V)} {xs : List Str} (h : DC k0 xs kvs) (g : DB kvs xs IsBl) (hx : xs.length ≤ 1000) (e : H t = some (.dK k0)) : OnOk H t xs (onOf kvs) := by
  have := h.len
  refine ⟨k0, e, by omega, fun x hm => ?_⟩
  obtain ⟨v, h1, b, rfl⟩ := g.has x hm
  have et : onOf kvs x = b := by unfold onOf; rw [h1]
  rw [et, h.has x hm]
  exact h1
theorem take_snoc {α : Type} {xs : List α} {i : Nat} {x : α} (h : xs[i]? = some x) : xs.take (i + 1) = xs.take i ++ [x] := by
  rw [List.take_add_one, h]
  rfl
theorem strs_at {xs : List Str} {i : Nat} {v : V} (h : (xs.map V.str)[i]? = some v) : ∃ x, v = .str x ∧ xs[i]? = some x := by
  rw [List.getElem?_map] at h
  cases e : xs[i]? with
  | none => rw [e] at h; cases h
  | some x => rw [e] at h; cases h; exact ⟨x, rfl, rfl⟩
theorem strs_pick {xs : List Str} {k : Int} (h0 : 0 ≤ k) (h : k < xs.length) : ∃ x, x ∈ xs ∧ atI (xs.map V.str) k = some (.str x) := by
  obtain ⟨v, hv, e⟩ := at_pick (xs := xs.map V.str) h0 (by rw [List.length_map]; exact h)
  obtain ⟨x, hx, rfl⟩ := List.mem_map.mp hv
  exact ⟨x, hx, e⟩
/-- a text for a sign -/
theorem sign_cases {s : Nat} (h : s < 7) : s = 0 ∨ s = 1 ∨ s = 2 ∨ s = 3 ∨ s = 4 ∨ s = 5 ∨ s = 6 := by omega
end Gx

set_option Elab.async false
set_option linter.all false
set_option maxRecDepth 100000
set_option maxHeartbeats 4000000
/-! Own lemmas: tuples made by tuple(..), asked for a place; displays with stars; codes of expressions. -/
namespace Gx
open PySem PySem.Spec PyProof.Rows L2
/-- a tuple that is known to its object -/
def KnT (H : Hp) (p : Addr) (xs : List V) : Prop := ∃ ob : Obj, H p = some (.frz ob (.tup xs)) ∧ ob.cls = .type "tuple" ∧ ob.dict = none
theorem KnT.sq {K : PySem.W.Frag} {H : Hp} {p : Addr} {xs : List V} (h : KnT H p xs) : SqT K H p xs := let ⟨ob, e, _⟩ := h; .inl (.inr ⟨ob, e⟩)
theorem KnT.same {H H' : Hp} {p : Addr} {xs : List V} (h : KnT H p xs) (s : Same H H') : KnT H' p xs := let ⟨ob, e, r⟩ := h; ⟨ob, s _ _ e, r⟩
section
variable {X : Cx}
def qTupF (K : PySem.W.Frag) : List V → Hp → VK → Prop := fun xs H Q => ∃ p ys, xs = [.ref p] ∧ SqL K H p ys ∧ ∀ l H', H l = none → Same H H' → KnT H' l ys → Q (.ref l) H'
theorem k_tupF : CallR X (.type "tuple") (qTupF X.K) := by
  intro pins s σ H args vals Q I rv h
  obtain ⟨p, ys, rfl, hl, q⟩ := h
  obtain ⟨u, rfl, ru⟩ := vals1 rv
  cases ru
  obtain ⟨its, ri, pl, hz⟩ := I.list hl
  have hlen := ri.length
  refine call_tuple_list pl.isList (fun h1 kp => ?_) (by rw [List.size_toArray]; omega)
  have J : Inv X pins σ H { s with heap := h1 } := I.kept (t' := s.toks) kp
  have nf := J.hok.fresh (Nat.le_refl _)
  have at0 : (h1.push { cls := .type "tuple", data := .seq its.toArray }).get? h1.objs.size = some { cls := .type "tuple", data := .seq its.toArray } := Heap.get?_push_size _ rfl
  have ok : ObjOk X.prog X.w (upd H h1.objs.size (.frz { cls := .type "tuple", data := .seq its.toArray } (.tup ys))) (h1.push { cls := .type "tuple", data := .seq its.toArray }) h1.objs.size (.frz { cls := .type "tuple", data := .seq its.toArray } (.tup ys)) :=
    ⟨at0, hz, its, ri, IsTup.new _ _⟩
  have J2 := J.laid (t' := s.toks) (fun b o e => Heap.get?_push_of_some _ e) (Nat.le_refl _) ok
  exact ⟨.ref h1.objs.size, _, J2, rfl, q _ _ nf (fun b o e => by rw [upd_ne (ne_of_none e nf)]; exact e) ⟨_, upd_same, rfl, rfl⟩⟩
theorem k_tupFK {K : PySem.W.Frag} (hK : X.K = K) : CallR X (.type "tuple") (qTupF K) := by subst hK; exact k_tupF
def tyT (K : PySem.W.Frag) (x : V) (H : Hp) : Prop := ∃ p, x = .ref p ∧ ((∃ ys, KnT H p ys) ∨ ∃ ob, K.lookup p = some ob ∧ ob.cls = .type "tuple" ∧ ob.dict = none)
def tTM (K : PySem.W.Frag) (r : V → List V → Hp → VK → Prop) (to : TE) (t : TA) : TE := fun σ H Q => to σ H fun x H1 => tyT K x H1 ∧ t σ H1 fun xs H2 => r x xs H2 Q
variable {o e : Expr} {es : List Expr} {to : TE} {t : TA} {name : Str} {apos cpos : Pos} {id : String} {r : V → List V → Hp → VK → Prop}
theorem pe_tupM (pa : PlainAttrs "tuple") (slot : Slot "tuple" name id) (hty : typeOf (.builtin id) = pure (.type "method_descriptor")) (hm : MtR X id r) (ho : PE X o to) (ha : PA X (e :: es) t) (hbase : attributeBase o name X.env (eval o X.env) = eval o X.env := by rfl)
    (hfew : ((backTo cpos (starEach (e :: es) X.env)).all (fun x => !x.1) && (backToKw cpos (keywordEach [] X.env)).all (fun x => x.1.isSome) && decide ((e :: es).length + ([] : List Keyword).length + (if ([] : List Keyword).isEmpty then 0 else 1) < 30)) = true := by rfl) (hline : (apos.endLine == cpos.line) = true := by rfl)
    (hs : starEach (e :: es) X.env = (false, eval e X.env) :: starEach es X.env := by rfl) (hplain : (backTo cpos (starEach es X.env)).any (·.1) = false := by rfl) : PE X (.Call (.Attribute o name apos) (e :: es) [] cpos) (tTM X.K r to t) := by
  constructor
  intro pins s σ H Q I h
  refine wpAny_Call_method_late hbase hfew hline rfl (thn (ho.run pins s σ H _ I h) fun v s1 hv => ?_)
  obtain ⟨x, H1, I1, r1, ⟨p, rfl, ty⟩, q1⟩ := hv
  have r1' := r1
  cases r1'
  have facts : s1.TypeIs (.ref p) "tuple" ∧ ∀ a, Value.ref p = .ref a → ∃ ob, s1.heap.get? a = some ob ∧ ob.dict = none := by
    rcases ty with ⟨ys, ob, e1, c1, d1⟩ | ⟨ob, k1, c1, d1⟩
    · obtain ⟨g, _⟩ := I1.hok p _ e1
      exact ⟨⟨ob, g, c1⟩, fun a z => by cases z; exact ⟨ob, g, d1⟩⟩
    · have g := I1.kIn p ob k1
      exact ⟨⟨ob, g, c1⟩, fun a z => by cases z; exact ⟨ob, g, d1⟩⟩
  refine ⟨"tuple", id, pa, slot, hty, facts.1, facts.2, ?_⟩
  have run := ha.run cpos pins s1 σ H1 _ I1 q1
  rw [hs] at run ⊢
  have one : (false || (backTo cpos (starEach es X.env)).any (·.1)) = false := by rw [hplain]; rfl
  exact Calls.callWith_builtin one (Calls.evalArgs_plain (thn run fun us s2 ⟨vs, H2, I2, r2, q2⟩ => hm pins s2 σ H2 (.ref p) vs (.ref p) us Q I2 r1 r2 q2))
def qTIdx (K : PySem.W.Frag) : V → List V → Hp → VK → Prop := fun x xs H Q => ∃ p, ∃ ys : List Str, ∃ z j, x = .ref p ∧ xs = [.str z] ∧ SqT K H p (ys.map V.str) ∧ ys[j]? = some z ∧ (∀ m, m < j → ys[m]? ≠ some z) ∧ Q (.int (j : Nat)) H
theorem m_tup_index : MtR X "tuple.index" (qTIdx X.K) := mt_tup_index
theorem m_tup_indexK {K : PySem.W.Frag} (hK : X.K = K) : MtR X "tuple.index" (qTIdx K) := by subst hK; exact mt_tup_index
def qStrStr : List V → Hp → VK → Prop := fun xs H Q => ∃ a, xs = [.str a] ∧ Q (.str a) H
theorem k_str_str : CallR X (.type "str") qStrStr := SkE.call_str_str
end
section
variable {K : PySem.W.Frag} {σ : L2.St} {H : Hp} {Q : VK} {to te : TE} {t : TA}
theorem go_tTM {r : V → List V → Hp → VK → Prop} (h : to σ H fun x H1 => tyT K x H1 ∧ t σ H1 fun xs H2 => r x xs H2 Q) : tTM K r to t σ H Q := h
theorem go_strStr {a : Str} (h : Q (.str a) H) : qStrStr [.str a] H Q := ⟨a, rfl, h⟩
theorem go_lenT2 {a : Addr} {x y : V} (hs : SqT K H a [x, y]) (h : Q (.int 2) H) : qLen K [.ref a] H Q := go_lenT hs h
/-- the first place of a text -/
theorem first_at : ∀ (ys : List Str) (z : Str), z ∈ ys → ys[ys.idxOf z]? = some z ∧ ∀ m, m < ys.idxOf z → ys[m]? ≠ some z
  | [], _, h => nomatch h
  | y :: ys, z, h => by
    by_cases e : y = z
    · subst e
      rw [List.idxOf_cons_self]
      exact ⟨rfl, fun m hm => nomatch hm⟩
    · have hm : z ∈ ys := by
        rcases List.mem_cons.mp h with k | k
        · exact absurd k.symm e
        · exact k
      obtain ⟨h1, h2⟩ := first_at ys z hm
      have ei : (y :: ys).idxOf z = ys.idxOf z + 1 := by
        rw [List.idxOf_cons, beq_eq_false_iff_ne.mpr e]
        rfl
      rw [ei]
      refine ⟨by simpa using h1, fun m hlt => ?_⟩
      cases m with
      | zero => intro k; exact e (Option.some.inj k)
      | succ m => simpa using h2 m (by omega)
theorem eqV_str (a b : Str) : eqV (.str a) (.str b) = decide (a = b) := by
  simp only [eqV]
  by_cases h : a = b <;> simp [h]
theorem go_lindexS {K : PySem.W.Frag} {H : Hp} {Q : VK} {a : Addr} {ys : List Str} {z : Str} (hs : SqL K H a (ys.map V.str)) (hz : z ∈ ys) (q : Q (.int ((ys.idxOf z : Nat) : Int)) H) : rIndex K (.ref a) [.str z] H Q := by
  obtain ⟨hget, hno⟩ := first_at ys z hz
  refine ⟨a, _, .str z, ys.idxOf z, .str z, rfl, rfl, hs, rfl, flat_strs ys, by rw [List.getElem?_map, hget]; rfl, by rw [eqV_str, decide_eq_true rfl], fun m z' hm hz' => ?_, q⟩
  obtain ⟨x, rfl, hx⟩ := strs_at hz'
  rw [eqV_str]
  exact decide_eq_false fun e => hno m hm (e ▸ hx)
theorem go_tidx {p : Addr} {ys : List Str} {z : Str} (h : SqT K H p (ys.map V.str)) (hz : z ∈ ys) (q : Q (.int ((ys.idxOf z : Nat) : Int)) H) : qTIdx K (.ref p) [.str z] H Q :=
  ⟨p, ys, z, _, rfl, rfl, h, (first_at ys z hz).1, (first_at ys z hz).2, q⟩
theorem go_star {R : List V → Hp → Prop} (h : te σ H fun x H1 => ∃ p xs, x = V.ref p ∧ (SqT K H1 p xs ∨ SqL K H1 p xs) ∧ t σ H1 fun ys H2 => R (xs ++ ys) H2) : StX.tStar K te t σ H R := h
theorem go_pop {l : Addr} {xs : List V} {y : V} (e : H l = some (.lst (xs ++ [y]))) (q : Q y (upd H l (.lst xs))) : rPop (.ref l) [] H Q :=
  ⟨l, xs ++ [y], y, rfl, rfl, e, by simp, by rw [List.dropLast_concat]; exact q⟩
end
/-! ### codes -/
inductive CIn where
  | push (n : Int)
  | load (k : Nat)
  | long
  | view
  | sign (s : Nat)
def inD : CIn → PyData
  | .push n => .tuple [.str "push", .int n]
  | .load k => .tuple [.str "load", .int (k : Int)]
  | .long => .tuple [.str "long", .int 0]
  | .view => .tuple [.str "view", .int 0]
  | .sign s => .tuple [.str "sign", .int (s : Int)]
def codeE (ns : List Str) (on : Str → Bool) : Ex → List CIn
  | .num n => [.push n]
  | .var x => [.load (ns.idxOf x)]
  | .long => [.long]
  | .view e => codeE ns on e ++ [.view]
  | .pick x a b => if on x = true then codeE ns on a else codeE ns on b
  | .op s a b => codeE ns on a ++ (codeE ns on b ++ [.sign s])
def InOk (m : Nat) : CIn → Prop
  | .push n => 0 ≤ n ∧ n < 65536
  | .load k => k < m
  | .sign s => s < 7
  | _ => True
theorem code_ok {ns ps : List Str} {on : Str → Bool} : ∀ (d : Nat) (e : Ex), ExIn ns ps d e → ∀ c ∈ codeE ns on e, InOk ns.length c
  | 0, _, h => h.elim
  | d + 1, .num n, h => fun c hc => by rw [List.mem_singleton.mp hc]; exact h
  | d + 1, .var x, h => fun c hc => by
    rw [List.mem_singleton.mp hc]
    exact List.idxOf_lt_length_of_mem h
  | d + 1, .long, h => fun c hc => by rw [List.mem_singleton.mp hc]; trivial
  | d + 1, .view e, h => fun c hc => by
    rcases List.mem_append.mp hc with hc | hc
    · exact code_ok d e h c hc
    · rw [List.mem_singleton.mp hc]; trivial
  | d + 1, .pick x a b, h => fun c hc => by
    have hc : c ∈ if on x = true then codeE ns on a else codeE ns on b := hc
    split at hc
    · exact code_ok d a h.2.1 c hc
    · exact code_ok d b h.2.2 c hc
  | d + 1, .op s a b, h => fun c hc => by
    rcases List.mem_append.mp hc with hc | hc
    · exact code_ok d a h.2.1 c hc
    · rcases List.mem_append.mp hc with hc | hc
      · exact code_ok d b h.2.2 c hc
      · rw [List.mem_singleton.mp hc]; exact h.1
/-- one step on a stack (its top last) -/
def stepI (cells seen : List Int) : CIn → List Int → Option (List Int)
  | .push n, st => some (st ++ [n])
  | .load k, st => (cells[k]?).map fun v => st ++ [v]
  | .long, st => some (st ++ [(seen.length : Int)])
  | .view, st => (st.getLast?).map fun (a : Int) => st.dropLast ++ [if a < seen.length then seen.getD a.toNat 0 else 0]
  | .sign s, st => (st.getLast?).bind fun r => (st.dropLast.getLast?).map fun l => st.dropLast.dropLast ++ [comb s l r]
def runI (cells seen : List Int) : List CIn → List Int → Option (List Int)
  | [], st => some st
  | c :: r, st => (stepI cells seen c st).bind (runI cells seen r)
theorem run_app (cells seen : List Int) : ∀ (a b : List CIn) (st : List Int), runI cells seen (a ++ b) st = (runI cells seen a st).bind (runI cells seen b)
  | [], b, st => rfl
  | c :: a, b, st => by
    show (stepI cells seen c st).bind (runI cells seen (a ++ b)) = ((stepI cells seen c st).bind (runI cells seen a)).bind _
    cases stepI cells seen c st with
    | none => rfl
    | some s2 => exact run_app cells seen a b s2
/-- THE LAW of the code -/
theorem run_code {ns ps : List Str} {tab : Str → Int} {on : Str → Bool} {seen : List Int} (hs : seen.length ≤ 65535) : ∀ (d : Nat) (e : Ex) (st : List Int), ExIn ns ps d e → runI (ns.map tab) seen (codeE ns on e) st = some (st ++ [evalE tab on seen e])
  | 0, _, _, h => h.elim
  | d + 1, .num n, st, h => rfl
  | d + 1, .var x, st, h => by
    have e := (first_at ns x h).1
    show ((((ns.map tab)[ns.idxOf x]?).map fun v => st ++ [v]).bind fun s => some s) = _
    rw [List.getElem?_map, e]
    rfl
  | d + 1, .long, st, h => by
    show some (st ++ [(seen.length : Int)]) = some (st ++ [min (seen.length : Int) 65535])
    have : min (seen.length : Int) 65535 = seen.length := by omega
    rw [this]
  | d + 1, .view e, st, h => by
    show runI _ _ (codeE ns on e ++ [.view]) st = _
    rw [run_app, run_code hs d e st h, Option.bind_some]
    show ((((st ++ [evalE tab on seen e]).getLast?).map fun (a : Int) => (st ++ [evalE tab on seen e]).dropLast ++ [if a < seen.length then seen.getD a.toNat 0 else 0]).bind fun s => some s) = _
    rw [List.getLast?_concat, List.dropLast_concat]
    rfl
  | d + 1, .pick x a b, st, h => by
    show runI _ _ (if on x = true then codeE ns on a else codeE ns on b) st = some (st ++ [if on x = true then evalE tab on seen a else evalE tab on seen b])
    split
    · exact run_code hs d a st h.2.1
    · exact run_code hs d b st h.2.2
  | d + 1, .op s a b, st, h => by
    show runI _ _ (codeE ns on a ++ (codeE ns on b ++ [.sign s])) st = _
    rw [run_app, run_code hs d a st h.2.1, Option.bind_some, run_app, run_code hs d b _ h.2.2, Option.bind_some]
    show ((((st ++ [evalE tab on seen a] ++ [evalE tab on seen b]).getLast?).bind fun r => ((st ++ [evalE tab on seen a] ++ [evalE tab on seen b]).dropLast.getLast?).map fun l => (st ++ [evalE tab on seen a] ++ [evalE tab on seen b]).dropLast.dropLast ++ [comb s l r]).bind fun s => some s) = _
    rw [List.getLast?_concat, List.dropLast_concat, Option.bind_some, List.getLast?_concat, List.dropLast_concat]
    rfl
end Gx

set_option Elab.async false
set_option linter.all false
set_option maxRecDepth 100000
set_option maxHeartbeats 4000000
/-! Own lemmas: an error of the program whose maker says super().__init__(text); self.f = a, and whose class stands below a class of the program. -/
namespace ErX
open PySem PySem.W PySem.Calls PyProof.Rows PySem.HandSPX
def eA (an : Str) (p1 p2 : Pos) : Arguments := { posonlyargs := [], args := [{ arg := "self", annotation := none, pos := p1 }, { arg := an, annotation := none, pos := p2 }], vararg := none, kwonlyargs := [], kw_defaults := [], kwarg := none, defaults := [] }
def eB (an fn msg : Str) (j : Nat) (q1 q2 q3 q4 q5 q6 q7 q8 q9 q0 : Pos) : List Stmt :=
  [.Expr (.Call (.Attribute (.Call (.Name "super" q1) [] [] q2) "__init__" q3) [.Constant (.str msg) j q4] [] q5) q6, .Assign [.Attribute (.Name "self" q7) fn q8] (.Name an q9) q0]
def eS (an : Str) : Scope := { kind := .function, names := [(PySem.Str.ofString "self", .local), (an, .local), (PySem.Str.ofString "__class__", .free), (PySem.Str.ofString "super", .globalImplicit)], isGenerator := false, isCoroutine := false, more := [] }
/-- what the names must be -/
structure Nm (an : Str) : Prop where
  n1 : an ≠ "self"
  n2 : an ≠ "__class__"
  n3 : an ≠ "super"
  n4 : (an == ("__debug__" : Str)) = false
  bd : ∀ (qual : Str) (p1 p2 : Pos) (body : List Stmt) (doc pm : Value) (an' : Option Addr) (cda cc x : Addr) (ct v : Value), bindArgs (ksFn "__init__" qual (eA an p1 p2) body (eS an) .none .none doc pm an' (.ref cda) ct cc) ⟨[.ref x, v], []⟩ = (pure [(PySem.Str.ofString "self", Value.ref x), (an, v)] : Sem (List (Str × Value)))
/-- how the call of the maker above is read -/
def Ev (msg : Str) (j : Nat) (q1 q2 q3 q4 q5 : Pos) : Prop := ∃ pl : Sem Bool, ∀ env : Env,
  eval (.Call (.Attribute (.Call (.Name "super" q1) [] [] q2) "__init__" q3) [.Constant (.str msg) j q4] [] q5) env = (do
      let ov ← attributeBase (.Call (.Name "super" q1) [] [] q2) "__init__" env (eval (.Call (.Name "super" q1) [] [] q2) env)
      standAt q3.atName
      let (f, first) ← holding [ov] (getMethod ov "__init__" pl)
      callWith q5 f first (backTo q5 (starEach [.Constant (.str msg) j q4] env)) [])
/-- what the written part says of the class at C, and of its maker, at fI -/
structure ErrT (P : Program) (K : Frag) (mg : Str → Option Value) (C fI : Addr) (an fn : Str) : Prop where
  cls : ∃ nm q N bs bm sn sub ab col dd k0 k1 k2 k3 k5, K.lookup C = some (excClassObj nm q C N bs bm true sn sub ab col dd k0 k1 k2 k3 k5 "ValueError.__new__") ∧ refsVE bm = true
  sa : findIn K (.ref C) "__setattr__" = some (some (.builtin "object.__setattr__"))
  noN : findIn K (.ref C) fn = some none
  iC : findIn K (.ref C) "__init__" = some (some (.ref fI))
  tC : typeIn K (.ref fI) = some (.type "function")
  kC : keepIn K (.ref C) = true
  exC : subIn K (.ref C) (.type "BaseException") = some true
  tyC : typeIn K (.ref C) = some (.type "type")
  opq : nsIn K cStatics "thirdparty.any" = some none
  sup : ks_superIn K C C "__init__" = some (some (.builtin "ValueError.__init__"))
  sVE : subIn K (.ref C) (.type "ValueError") = some true
  mC : mroIn K C (.ref C) = some true
  mgS : mg "super" = none
  top : (P.main.scope.names.lookup ("super" : Str)).isSome = false
  nm : Nm an
  fn : ∃ (oc : Value) (od : Option Addr) (qual : Str) (doc pm : Value) (an' : Option Addr) (cda cc : Addr) (ct : Value) (osl : Array (Option Value)) (p1 p2 : Pos) (msg : Str) (j : Nat) (q1 q2 q3 q4 q5 q6 q7 q8 q9 q0 : Pos)
      (ccl : Value) (cdd : Option Addr) (vs : Array Value) (ccs : Array (Option Value)) (file : Str) (tf : Tok) (cl : Value) (cld : Option Addr) (csl : Array (Option Value)),
    K.lookup fI = some ⟨oc, od, .func (ksFn "__init__" qual (eA an p1 p2) (eB an fn msg j q1 q2 q3 q4 q5 q6 q7 q8 q9 q0) (eS an) .none .none doc pm an' (.ref cda) ct cc), osl⟩ ∧ codeIn K (.ref cda) qual = true ∧
      K.lookup cda = some ⟨ccl, cdd, .fields vs, ccs⟩ ∧ vs[2]? = some (.str file tf) ∧ ((P.main.file : Str) == file) = true ∧ K.lookup cc = some ⟨cl, cld, .cell (some (.ref C)), csl⟩ ∧
      Ev msg j q1 q2 q3 q4 q5
/-- what the maker leaves of a fresh exception at x -/
structure InitEnd (h h' : Heap) (x C dx t1 : Addr) (fn : Str) (v : Value) : Prop where
  keep : ∀ b o, b ≠ x → h.get? b = some o → h'.get? b = some o
  obj : h'.get? x = some { cls := .ref C, dict := some dx, data := .fields #[.ref t1, .none, .none, .none, .bool false, .none] }
  dbig : h.objs.size ≤ dx
  dne : dx ≠ x
  ns : h'.Ns1 dx (fun y => if y = fn then some v else none)
structure Made (h h' : Heap) (e C d : Addr) (fn : Str) (v : Value) : Prop where
  keep : ∀ b o, h.get? b = some o → h'.get? b = some o
  new : h.objs.size ≤ e
  obj : ∃ oe vs, h'.get? e = some oe ∧ oe.cls = .ref C ∧ oe.dict = some d ∧ oe.data = .fields vs ∧ vs[1]? = some .none
  dbig : h.objs.size ≤ d
  dne : d ≠ e
  ns : h'.Ns1 d (fun y => if y = fn then some v else none)
theorem one_size (v : Value) : [v].length ≤ sizeLine := by
  rw [sizeLine_eq]
  exact (by decide : 1 ≤ 16777216)
section
variable {prog : Program} {w : World} {A : Around} {E : Value → Shared → Prop} {h : Heap} {g : Array GenState} {d : Drawn} {t : Nat} {os : OsState}
variable {nm q : Str} {C N : Addr} {bs bm : List Value} {hdct : Bool} {sn : List Str} {sub : List Value} {ab : Bool} {col : Option Bool} {dd : Option Addr} {k0 k1 k2 k3 k5 : Option Value}
theorem call_bv {u e t0 : Addr} {rest : List Value} {Q : Value → Shared → Prop}
    (hC : h.get? C = some (excClassObj nm q C N bs bm hdct sn sub ab col dd k0 k1 k2 k3 k5 "ValueError.__new__")) (he : h.get? e = some (excO C t0)) (hu : h.get? u = some (kxs_mw "ValueError.__init__" e)) (hrest : rest.length ≤ sizeLine)
    (hq : ∀ h' t1, (∀ b o, b ≠ e → h.get? b = some o → h'.get? b = some o) → h'.get? e = some (excO C t1) → Q .none ⟨h', g, d, t, os⟩) :
    wpAny (model prog w) A (call (.ref u) rest) Q E ⟨h, g, d, t, os⟩ := by
  refine wpAny_call (codeAny_of_tree ?_)
  show wpAny _ A.in1 (callAny (.ref u) ⟨rest, []⟩) _ _ _
  simp only [callAny]
  refine wpAny_bind (wpAny_load hu ?_)
  simp only [kxs_mw, show (Value.type "method-wrapper" == Value.type "method" || Value.type "method-wrapper" == Value.type "builtin_function_or_method" || Value.type "method-wrapper" == Value.type "method-wrapper") = true by decide, if_true]
  refine W.KFB.if_so (by decide) ?_
  refine wpAny_bind (PySem.ESX.check_bound F.excBase_ValueError hC he rfl ?_)
  refine wpAny_bind (wpAny_pure (wpAny_pure ?_))
  refine ⟨Code.quiet_builtin _ (by decide +kernel), codeAny_builtin F.excBase_ValueError.initEntry ?_⟩
  rw [Around.under_plainId F.excBase_ValueError.init.plain _]
  wp_walk
  refine hq _ h.objs.size (fun b o hb ho => ?_) ?_
  · rw [Heap.get?_update_other _ _ (Ne.symm hb)]
    exact Heap.get?_push_of_some _ ho
  · rw [Heap.get?_update_self _ (Heap.get?_push_of_some _ he) rfl]
    rfl
end
section
variable {P : Program} {w : World} {A : Around} {R : Result → Shared → Prop} {K : Frag} {mg mb : Str → Option Value} {C fI : Addr} {an fn : Str}
theorem lk_self : (eS an).names.lookup ("self" : Str) = some .local := by simp [eS, List.lookup]
theorem lk_an (n : Nm an) : (eS an).names.lookup an = some .local := by
  have h : (an == (PySem.Str.ofString "self")) = false := by simpa using n.n1
  simp [eS, List.lookup, h]
theorem lk_cls (n : Nm an) : (eS an).names.lookup ("__class__" : Str) = some .free := by
  have h : ((PySem.Str.ofString "__class__") == an) = false := by simpa using n.n2.symm
  have h0 : ((PySem.Str.ofString "__class__") == (PySem.Str.ofString "self")) = false := by decide
  show List.lookup (PySem.Str.ofString "__class__") [(PySem.Str.ofString "self", _), (an, _), (PySem.Str.ofString "__class__", _), (PySem.Str.ofString "super", _)] = _
  simp [List.lookup, h, h0]
theorem lk_sup (n : Nm an) : (eS an).names.lookup ("super" : Str) = some .globalImplicit := by
  have h : ((PySem.Str.ofString "super") == an) = false := by simpa using n.n3.symm
  have h0 : ((PySem.Str.ofString "super") == (PySem.Str.ofString "self")) = false := by decide
  have h1 : ((PySem.Str.ofString "super") == (PySem.Str.ofString "__class__")) = false := by decide
  show List.lookup (PySem.Str.ofString "super") [(PySem.Str.ofString "self", _), (an, _), (PySem.Str.ofString "__class__", _), (PySem.Str.ofString "super", _)] = _
  simp [List.lookup, h, h0, h1]
theorem nocell : ∀ x ∈ (eS an).names, x.2 ≠ NameKind.cell := by
  intro x hx
  simp only [eS, List.mem_cons, List.not_mem_nil, or_false] at hx
  rcases hx with rfl | rfl | rfl | rfl <;> simp
theorem err_init (T : ErrT P K mg C fI an fn) {hp : Heap} {g : Array GenState} {d : Drawn} {t : Nat} {os : OsState} {x t0 : Addr} {v : Value} (X : K.In hp) (hlim : hp.NoLimit) (hG : hp.Ns mainGlobals mg) (hB : hp.Ns builtinsNs mb)
    (hbb : ∀ x : Str, x ≠ "__name__" → mb x = bootBuiltins x) (hx : hp.get? x = some (excO C t0)) (hnx : K.lookup x = none) (hroom : A.depth < recursionLimit)
    (hq : ∀ h' tk dx t1, InitEnd hp h' x C dx t1 fn v → R (.ok (.ret .none)) ⟨h', g, d, tk, os⟩) :
    codeAny (model P w) A (.call (.ref fI) ⟨[.ref x, v], []⟩) R ⟨hp, g, d, t, os⟩ := by
  obtain ⟨oc, od, qual, doc, pm, an', cda, cc, ct, osl, p1, p2, msg, j, q1, q2, q3, q4, q5, q6, q7, q8, q9, q0, ccl, cdd, vs, ccs, file, tf, cl, cld, csl, ho, hcd, hco, hvs, hfile, hcell, pl, hev⟩ := T.fn
  obtain ⟨nm, q, N, bs, bm, sn, sub, ab, col, dd, k0, k1, k2, k3, k5, hC, hbm⟩ := T.cls
  have hcl : clsIn K C = some { name := nm, bases := bs, mro := .ref C :: bm, ns := N, qualname := q, hasDict := true, slotNames := sn, subclasses := sub, abstract := ab, collection := col, hasDel := false } := by unfold clsIn; rw [hC] <;> rfl
  refine ks_codeAny_call_defAt (fd := ksFn "__init__" qual (eA an p1 p2) (eB an fn msg j q1 q2 q3 q4 q5 q6 q7 q8 q9 q0) (eS an) .none .none doc pm an' (.ref cda) ct cc)
    (body := eB an fn msg j q1 q2 q3 q4 q5 q6 q7 q8 q9 q0) (binds := [(PySem.Str.ofString "self", .ref x), (an, v)]) hroom (X _ _ ho) rfl hlim (codeRec_of X hcd) rfl (BindsTo.of_eq (T.nm.bd _ _ _ _ _ _ _ _ _ _ _ _)) nocell ?_ (fun h₁ hns hk₁ => ?_) rfl rfl rfl
  · intro y hy
    simp only [List.mem_cons, List.not_mem_nil, or_false] at hy
    rcases hy with rfl | rfl
    · exact lk_self
    · exact lk_an T.nm
  have X₁ : K.In h₁ := X.keeps hk₁
  have hx₁ := hk₁ _ _ hx
  obtain ⟨oD, hD1, hD2⟩ : ∃ oD, h₁.get? C = some oD ∧ oD.data = .cls { name := nm, bases := bs, mro := .ref C :: bm, ns := N, qualname := q, hasDict := true, slotNames := sn, subclasses := sub, abstract := ab, collection := col, hasDel := false } := ⟨_, X₁ _ _ hC, rfl⟩
  have I₁ : InstAt h₁ x (excO C t0) C none := ⟨hx₁, rfl, rfl, trivial⟩
  have hnS : List.lookup ("self" : Str) [(an, v), (PySem.Str.ofString "self", Value.ref x)] = some (.ref x) := by
    have h : (("self" : Str) == an) = false := by simpa using T.nm.n1.symm
    simp [List.lookup, h]
  have hnA : List.lookup an [(an, v), (PySem.Str.ofString "self", Value.ref x)] = some v := by simp [List.lookup]
  refine ks_wpAt_execs_cons (ks_wpAt_Expr_any (ks_wpAt_MethodCall (pl := pl) ?_ (hev _)))
  refine ks_wpAt_super_base (fd := ksFn "__init__" qual (eA an p1 p2) (eB an fn msg j q1 q2 q3 q4 q5 q6 q7 q8 q9 q0) (eS an) .none .none doc pm an' (.ref cda) ct cc) (lk_sup T.nm) (lk_cls T.nm) rfl rfl (X₁ _ _ ho) rfl rfl rfl (X₁ _ _ hco) rfl hvs hfile T.top ?_
  refine ks_loadName_global rfl (lk_sup T.nm) (loadGlobal_builtin (hG.keeps hk₁) T.mgS (hB.keeps hk₁) ((hbb _ (by decide)).trans (by first | boot_by_name | rfl | kernel_rfl)) ⟨rfl, ?_⟩)
  refine wpAny_loadName_free rfl (lk_cls T.nm) rfl ⟨_, X₁ _ _ hcell, rfl⟩ ?_
  refine wpAny_loadName_local rfl lk_self hns hnS ?_
  refine ks_wpAny_isType_cls hD1 hD2 ⟨rfl, ?_⟩
  refine ks_wpAny_call_super hD1 hD2 hx₁ rfl (fun c e => by cases e) (looks_mroIn X₁ T.mC) (fun h₂ e₂ k₂ => ?_)
  have X₂ : K.In h₂ := X₁.keeps k₂
  have hx₂ := k₂ _ _ hx₁
  have I₂ : InstAt h₂ x (excO C t0) C none := ⟨hx₂, rfl, rfl, trivial⟩
  have hsup := T.sup
  unfold ks_superIn at hsup
  rw [hcl] at hsup
  refine kxs_getMethod kxs_ValueError e₂ (looks_opaque X₂ T.opq) (l₀ := .ref C :: bm) (fun A Q E s k q => wpAny_bind ((looks_clsIn X₂ hcl) A _ E s k (wpAny_pure q))) rfl X₂ hsup (I₂.type.andThen (looks_subIn X₂ T.sVE)) (ks_ne X₂ I₂ hcl) rfl ?_
  have hs1 : ∀ env : Env, starEach [Expr.Constant (Const.str msg) j q4] env = (false, eval (Expr.Constant (Const.str msg) j q4) env) :: starEach [] env := fun _ => rfl
  rw [hs1]
  show wpAny _ _ (callWith q5 (.ref h₂.objs.size) [] ((false, eval (Expr.Constant (Const.str msg) j q4) _) :: backTo q5 (starEach [] _)) []) _ _ _
  have hu₃ : (h₂.push (kxs_mw "ValueError.__init__" x)).get? h₂.objs.size = some (kxs_mw "ValueError.__init__" x) := Heap.get?_push_at rfl rfl
  have k₃ : ∀ b o, h₂.get? b = some o → (h₂.push (kxs_mw "ValueError.__init__" x)).get? b = some o := fun b o e => Heap.get?_push_of_some _ e
  refine kxs_callWith (i := "ValueError.__init__") (x := x) (u := h₂.objs.size) rfl (Calls.evalArgs_plain (Calls.spliced_cons (Calls.Constant_str (Calls.spliced_nil ⟨hu₃, ?_⟩))))
  refine call_bv (X₂.keeps k₃ _ _ hC) (k₃ _ _ hx₂) hu₃ (one_size _) (fun h₄ t1 k₄ hx₄ => ?_)
  have nx : ∀ b o, K.lookup b = some o → b ≠ x := fun b o e z => by rw [z, hnx] at e; cases e
  have X₄ : K.In h₄ := fun b o e => k₄ b o (nx b o e) (k₃ _ _ (X₂ b o e))
  have hn₄ : h₄.Ns hp.objs.size (fun y => List.lookup y [(an, v), (PySem.Str.ofString "self", Value.ref x)]) := by
    have hLx : hp.objs.size ≠ x := Nat.ne_of_gt (Heap.lt_size hx)
    exact hns.at fun o e => k₄ _ o hLx (k₃ _ _ (k₂ _ _ e))
  refine ks_wpAt_execs_cons (wpAt_of_wpAny (plainObj_wpAny_Assign_Attribute ?_))
  refine wpAny_Name (wpAny_loadName_local rfl (lk_an T.nm) hn₄ hnA ?_) T.nm.n4
  refine wpAny_Name (wpAny_loadName_local rfl lk_self hn₄ hnS ?_) (by decide)
  refine set_plain X₄ (ox := excO C t1) (od := none) ⟨hx₄, rfl, rfl, trivial⟩ T.sa ?_
  refine exc_osa X₄ hx₄ hcl (show refsVE (.ref C :: bm) = true from hbm) rfl T.noN (fun h₅ tk₅ dx k₅ dn dne hx₅ hn₅ => ?_)
  show PySem.wpAt _ _ _ (execs [] _) _ _ _
  have kk : ∀ b o, b ≠ x → hp.get? b = some o → h₄.get? b = some o := fun b o hb e => k₄ b o hb (k₃ _ _ (k₂ _ _ (hk₁ _ _ e)))
  have z : hp.objs.size ≤ h₄.objs.size := by
    obtain ⟨oL, es, ep, hL, _⟩ := hn₄
    exact Nat.le_of_lt (Heap.lt_size hL)
  exact wpAt_of_wpAny (wpAny_execs_nil (hq h₅ tk₅ dx t1 ⟨fun b o hb e => k₅ b o hb (kk b o hb e), hx₅, Nat.le_trans z dn, dne, hn₅⟩))
theorem err_made (T : ErrT P K mg C fI an fn) {hp : Heap} {g : Array GenState} {dr : Drawn} {tk : Nat} {os : OsState} {v : Value} (X : K.In hp) (hlim : hp.NoLimit) (hG : hp.Ns mainGlobals mg) (hB : hp.Ns builtinsNs mb)
    (hbb : ∀ x : Str, x ≠ "__name__" → mb x = bootBuiltins x) (hroom : A.depth + 1 < recursionLimit)
    (hq : ∀ h' tk e d, Made hp h' e C d fn v → R (.ok (.ret (.ref e))) ⟨h', g, dr, tk, os⟩) :
    codeAny (model P w) A (.call (.ref C) ⟨[v], []⟩) R ⟨hp, g, dr, tk, os⟩ := by
  obtain ⟨nm, q, N, bs, bm, sn, sub, ab, col, dd, k0, k1, k2, k3, k5, hC, hbm⟩ := T.cls
  have k : ∀ b o, hp.get? b = some o → ((hp.push (kdv_tup [v])).push (excO C hp.objs.size)).get? b = some o := fun b o e => Heap.get?_push_of_some _ (Heap.get?_push_of_some _ e)
  have hget : ((hp.push (kdv_tup [v])).push (excO C hp.objs.size)).get? (hp.objs.size + 1) = some (excO C hp.objs.size) := by heap_get
  have hnx : K.lookup (hp.objs.size + 1) = none := by
    cases e : K.lookup (hp.objs.size + 1) with
    | none => rfl
    | some o =>
      have z : hp.get? (hp.objs.size + 1) = some o := X _ _ e
      exact absurd (Nat.lt_of_succ_lt (Heap.lt_size z)) (Nat.lt_irrefl _)
  refine call_own F.excBase_ValueError (fun X => refsVE_contains X bm hbm) (X _ _ hC) (looks_findIn X T.iC) (fun self => bind_fn X self T.tC) (one_size v) ?_
  refine err_init T (X.keeps k) (hlim.keeps k) (hG.keeps k) (hB.keeps k) hbb hget hnx ?_ fun h' tk' dx t1 ⟨k', hx, dn, dne, hns⟩ => ?_
  · show A.depth + 1 < recursionLimit
    exact hroom
  · have old : ∀ b o, hp.get? b = some o → h'.get? b = some o := fun b o e => k' b o (Nat.ne_of_lt (Nat.lt_succ_of_lt (Heap.lt_size e))) (k b o e)
    have z : hp.objs.size + 1 + 1 ≤ dx := by
      first
        | (simpa only [Heap.size_push] using dn)
        | exact dn
        | (have q := dn; rw [Heap.size_push, Heap.size_push] at q; exact q)
    exact ⟨rfl, hq h' tk' (hp.objs.size + 1) dx ⟨old, Nat.le_succ _, ⟨_, _, hx, rfl, rfl, rfl, rfl⟩, Nat.le_trans (Nat.le_trans (Nat.le_succ _) (Nat.le_succ _)) z, dne, hns⟩⟩
end
end ErX
namespace Gx
open PySem PySem.Spec PyProof.Rows L2
section
variable {X : Cx} {C fI : Addr} {an fn : Str}
theorem relO_err {v : V} {v' : Value} (r : RelV v v') (fn f : Str) : RelO (List.lookup f [(fn, v)]) (if f = fn then some v' else none) := by
  by_cases hw : f = fn
  · subst hw
    rw [if_pos rfl]
    have q : List.lookup f [(f, v)] = some v := by simp [List.lookup]
    rw [q]
    exact r
  · rw [if_neg hw]
    have qw : (f == fn) = false := by simpa using hw
    have q2 : List.lookup f [(fn, v)] = none := by simp [List.lookup, qw]
    rw [q2]
    trivial
/-- C(e) -/
def tMkErr (C : Addr) (fn : Str) (ta : TA) : L2.St → Hp → XK → Prop := fun σ H Q => ta σ H fun vs H1 => ∃ v, vs = [v] ∧ ∀ d, H1 d = none → Q (.ref C) (some d) (upd H1 d (.xd [(fn, v)]))
theorem pmk_err {x : Str} {a : Expr} {ta : TA} {p pos : Pos} {k : Nat} (T : ErX.ErrT X.prog X.K X.mg C fI an fn) (hr : Room k X.A) (hm : X.mg x = some (.ref C)) (ha : PA X [a] ta) (hg : Gl X x := by rfl) (hdb : (x == ("__debug__" : Str)) = false := by decide)
    (he : starEach (a :: []) X.env = (false, eval a X.env) :: starEach [] X.env := by rfl) (hpl : (backTo pos (starEach [] X.env)).any (·.1) = false := by rfl) :
    PMk X (.Call (.Name x p) [a] [] pos) (tMkErr C fn ta) := by
  intro pins s σ H Q I h
  refine wpAny_Call_Name_kw (ld_glob I hg hm ?_ hdb)
  refine PySem.W.callWith_K (h₀ := X.base) I.ok.mod.kin T.kC (thn (ha.run pos pins s σ H _ I h) fun us s1 hh => ?_) he hpl
  obtain ⟨vs, H1, I1, r1, v, ev, q1⟩ := hh
  subst ev
  refine ⟨I1.kIn, ?_⟩
  cases r1 with
  | cons rv rn =>
    rename_i v' us'
    cases rn
    show wpAny _ _ (call (.ref C) [v']) _ _ _
    have hlim := I1.nolimit
    have hG := I1.mod.glob.keeps I1.bk
    obtain ⟨mb, h1, h2⟩ := I1.mod.blt
    have hB := h1.keeps I1.bk
    obtain ⟨hp, g, dr, tk, os⟩ := s1
    refine wpAny_call (ErX.err_made T I1.kIn hlim hG hB h2 (by have := hr.dp; omega) fun h' tk' e d M => ?_)
    show MkP X pins σ Q (.ref e) ⟨h', g, dr, tk', os⟩
    obtain ⟨oe, fv, hoe, hc, hd, hdat, h1⟩ := M.obj
    have hns := M.ns
    obtain ⟨G', g1, g2⟩ := restrict h' fun b => decide (b ≠ e)
    have gk : ∀ b, b ≠ e → G'.get? b = h'.get? b := fun b hb => g1 b (decide_eq_true hb)
    have ge : G'.get? e = none := g2 e (by simp)
    have old : ∀ b o, hp.get? b = some o → G'.get? b = some o := fun b o q => (gk b (Nat.ne_of_lt (Nat.lt_of_lt_of_le (Heap.lt_size q) M.new))).trans (M.keep b o q)
    have ob : ObjOk X.prog X.w (upd H1 d (.xd [(fn, v)])) G' d (.xd [(fn, v)]) :=
      ⟨_, hns.at (fun o q => (gk d M.dne).trans q), fun f => relO_err rv fn f⟩
    have J : Inv X pins σ (upd H1 d (.xd [(fn, v)])) ⟨G', g, dr, tk', os⟩ := I1.laid (t' := tk') old M.dbig ob
    refine ⟨e, oe, fv, ⟨G', g, dr, tk', os⟩, _, .ref C, some d, rfl, J, fun b o q => ?_, ge, hoe, ⟨hc, hd⟩, hdat, h1, ?_, rfl, I1.bare, raises_own T.exC T.tyC, q1 d (I1.hok.fresh M.dbig)⟩
    · by_cases hb : b = e
      · have q' : G'.get? b = some o := q
        rw [hb, ge] at q'; cases q'
      · exact (gk b hb).symm.trans q
    · rw [upd_ne (Ne.symm M.dne)]
      exact I1.hok.fresh M.new
/-- raise C(e) -/
def tRaiseErr (C : Addr) (fn : Str) (W : WX) (ta : TA) : TS := fun _ σ H => tMkErr C fn ta σ H fun cls d H' => W cls d σ H'
theorem ps_raiseErr {x : Str} {a : Expr} {ta : TA} {W : WX} {p pos pos2 : Pos} {k : Nat} (hc : X.calm = true) (T : ErX.ErrT X.prog X.K X.mg C fI an fn) (hr : Room k X.A) (hm : X.mg x = some (.ref C)) (tk : Takes X W) (ha : PA X [a] ta) (hg : Gl X x := by rfl) (hdb : (x == ("__debug__" : Str)) = false := by decide)
    (he : starEach (a :: []) X.env = (false, eval a X.env) :: starEach [] X.env := by rfl) (hpl : (backTo pos (starEach [] X.env)).any (·.1) = false := by rfl) :
    PS X (.Raise (some (.Call (.Name x p) [a] [] pos)) none pos2) (tRaiseErr C fn W ta) := ps_raise hc tk (pmk_err T hr hm ha hg hdb he hpl)
end
/-! calls of defs that may raise: what is raised is wished for at the caller's slots -/
section
variable {X : Cx} {CX : CXT} {k : Nat} {f C : Addr} {fd : FuncData} {ps : List Str} {sp : Sp} {dvs : List V} {ds : List Value} {E : L2.St → XK} {x m : Str} {p pos apos : Pos} {e o : Expr} {es : List Expr} {ta : TE} {t : TA}
def tMethSD (C : Addr) (m : Str) (sp : Sp) (dvs : List V) (E : L2.St → XK) (ta : TE) (t : TA) : TE := fun σ H Q => ta σ H fun x H1 => ∃ a dx fs, x = .ref a ∧ H1 a = some (.ins C dx fs) ∧ fs.lookup m = none ∧
  t σ H1 fun vs H2 => sp (x :: (vs ++ dvs)) H2 Q (E σ)
def tMakeSD (C : Addr) (sp : Sp) (dvs : List V) (E : L2.St → XK) (t : TA) : TE := fun σ H Q => t σ H fun vs H1 => ∀ x dx, H1 x = none → H1 dx = none → dx ≠ x →
  sp (.ref x :: (vs ++ dvs)) (upd (upd H1 dx (.own x)) x (.ins C dx [])) (fun v H2 => v = .non ∧ Q (.ref x) H2) (E σ)
theorem pe_callSD0 (F : FnOk X.prog X.w X.K X.mg X.base CX k f fd ps sp) (hr : Room k X.A) (hg : Gl X x) (hm : X.mg x = some (.ref f)) (hk : PySem.W.keepIn X.K (.ref f) = true) (hb : Binds X.K fd ps ds) (hd : Vals dvs ds) (hx : ∀ σ, PassesAt CX X σ (E σ))
    (hdb : (x == ("__debug__" : Str)) = false := by decide) : PE X (.Call (.Name x p) [] [] pos) (tCallSD sp dvs E tNil) := by
  refine ⟨fun pins s σ H Q I h => ?_⟩
  refine wpAny_Call_Name_kw (ld_glob I hg hm ?_ hdb)
  exact PySem.W.callWith_K0 I.kIn hk (run_fnSD (us := []) F hr hb hd (hx σ) I .nil h)
theorem pe_methSD {pl : Sem Bool} (he : PE X o ta) (c : Cls X.K C) (hm : Meth X.K C m f) (F : FnOk X.prog X.w X.K X.mg X.base CX k f fd ps sp) (hr : Room k X.A) (hb : Binds X.K fd ps ds) (hd : Vals dvs ds) (hx : ∀ σ, PassesAt CX X σ (E σ)) (ha : PA X (e :: es) t)
    (hst : starEach (e :: es) X.env = (false, eval e X.env) :: starEach es X.env := by rfl) (hpl : (backTo pos (starEach es X.env)).any (·.1) = false := by rfl)
    (ht : eval (.Call (.Attribute o m apos) (e :: es) [] pos) X.env = (do
      let ov ← eval o X.env
      standAt apos.atName
      let (f, first) ← holding [ov] (getMethod ov m pl)
      callWith pos f first (backTo pos (starEach (e :: es) X.env)) (backToKw pos (keywordEach [] X.env))) := by rfl) :
    PE X (.Call (.Attribute o m apos) (e :: es) [] pos) (tMethSD C m sp dvs E ta t) := by
  refine ⟨fun pins s σ H Q I h => ?_⟩
  refine PySem.W.methodCall_KW (pl := pl) (thn (he.run pins s σ H _ I h) fun u s1 ⟨x, H1, I1, rx, a, dx, fs, ex, ea, l, q⟩ => ?_) ht
  subst ex
  obtain rfl : u = Value.ref a := rx
  refine getmeth_ok I1 ea c hm l ?_
  refine PySem.W.callWith_K (first := [.ref a]) (h₀ := X.base) I.ok.mod.kin hm.kp (thn (ha.run pos pins s1 σ H1 _ I1 q) fun us s2 ⟨vs, H2, I2, r, q2⟩ => ⟨I2.kIn, ?_⟩) hst hpl
  exact run_fnSD (us := .ref a :: us) (vs := .ref a :: vs) F hr hb hd (hx σ) I2 (.cons rfl r) q2
theorem pe_methSD0 {pl : Sem Bool} (he : PE X o ta) (c : Cls X.K C) (hm : Meth X.K C m f) (F : FnOk X.prog X.w X.K X.mg X.base CX k f fd ps sp) (hr : Room k X.A) (hb : Binds X.K fd ps ds) (hd : Vals dvs ds) (hx : ∀ σ, PassesAt CX X σ (E σ))
    (ht : eval (.Call (.Attribute o m apos) [] [] pos) X.env = (do
      let ov ← eval o X.env
      standAt apos.atName
      let (f, first) ← holding [ov] (getMethod ov m pl)
      callWith pos f first (backTo pos (starEach [] X.env)) (backToKw pos (keywordEach [] X.env))) := by rfl) :
    PE X (.Call (.Attribute o m apos) [] [] pos) (tMethSD C m sp dvs E ta tNil) := by
  refine ⟨fun pins s σ H Q I h => ?_⟩
  refine PySem.W.methodCall_KW (pl := pl) (thn (he.run pins s σ H _ I h) fun u s1 ⟨x, H1, I1, rx, a, dx, fs, ex, ea, l, q⟩ => ?_) ht
  subst ex
  obtain rfl : u = Value.ref a := rx
  refine getmeth_ok I1 ea c hm l ?_
  exact PySem.W.callWith_K0 (first := [.ref a]) I1.kIn hm.kp (run_fnSD (us := [.ref a]) (vs := [.ref a]) F hr hb hd (hx σ) I1 (.cons rfl .nil) q)
theorem run_makeSD {pins : List (Addr × Obj)} {σ : L2.St} {H : Hp} {s : Shared} {Q : VK} {us : List Value} {vs : List V} (M : Mk X.K C f) (F : FnOk X.prog X.w X.K X.mg X.base CX k f fd ps sp) (hr : Room (k + 1) X.A) (hb : Binds X.K fd ps ds) (hd : Vals dvs ds)
    (hx : PassesAt CX X σ (E σ)) (I : L2.Inv X pins σ H s) (r : Vals vs us)
    (h : ∀ x dx, H x = none → H dx = none → dx ≠ x → sp (.ref x :: (vs ++ dvs)) (upd (upd H dx (.own x)) x (.ins C dx [])) (fun v H2 => v = .non ∧ Q (.ref x) H2) (E σ)) :
    wpAny (model X.prog X.w) X.A (call (.ref C) us) (EP X pins σ Q) X.xe s := by
  have hq := h (s.heap.objs.size + 1) s.heap.objs.size (I.hok.fresh (Nat.le_succ _)) (I.hok.fresh (Nat.le_refl _)) (Nat.ne_of_lt (Nat.lt_succ_self _))
  have I2 := Inv.made (C := C) I
  have r2 : Vals (V.ref (s.heap.objs.size + 1) :: (vs ++ dvs)) (Value.ref (s.heap.objs.size + 1) :: (us ++ ds)) := .cons rfl (r.append hd)
  have hl : (Value.ref (s.heap.objs.size + 1) :: us ++ ds).length = ps.length := by
    have e := r2.length
    rw [F.len _ _ _ _ hq] at e
    exact e.symm
  refine wpAny_call (make_map (f := f) I.kIn M.makes M.init (beq_iff_eq.mp M.fn) (codeAny_mono (F.run _ X.stack _ _ ⟨Value.ref (s.heap.objs.size + 1) :: us, []⟩ (Value.ref (s.heap.objs.size + 1) :: (us ++ ds)) _ _ (E σ) (hr.make C us [])
    (I2.env0.make C us []) (hb _ (Value.ref (s.heap.objs.size + 1) :: us) I2.kIn hl) r2 hq) fun r s' hq' => ?_))
  cases r with
  | error e => exact hx pins _ _ e s' I2 hq'
  | ok fl =>
    cases fl with
    | ret u =>
      obtain ⟨v, H', I3, rv, ev, q3⟩ := I2.after hq'
      subst ev
      exact ⟨rv, ⟨V.ref (s.heap.objs.size + 1), H', I3, rfl, q3⟩⟩
    | next => exact False.elim hq'
    | brk => exact False.elim hq'
    | cont => exact False.elim hq'
theorem pe_makeSD (M : Mk X.K C f) (F : FnOk X.prog X.w X.K X.mg X.base CX k f fd ps sp) (hr : Room (k + 1) X.A) (hg : Gl X x) (hm : X.mg x = some (.ref C)) (hb : Binds X.K fd ps ds) (hd : Vals dvs ds) (hx : ∀ σ, PassesAt CX X σ (E σ))
    (ha : PA X (e :: es) t) (hdb : (x == ("__debug__" : Str)) = false := by decide) (he : starEach (e :: es) X.env = (false, eval e X.env) :: starEach es X.env := by rfl) (hpl : (backTo pos (starEach es X.env)).any (·.1) = false := by rfl) :
    PE X (.Call (.Name x p) (e :: es) [] pos) (tMakeSD C sp dvs E t) := by
  refine ⟨fun pins s σ H Q I h => ?_⟩
  refine wpAny_Call_Name_kw (ld_glob I hg hm ?_ hdb)
  refine PySem.W.callWith_K (h₀ := X.base) I.ok.mod.kin M.kp (thn (ha.run pos pins s σ H _ I h) fun us s1 ⟨vs, H1, I1, r, q⟩ => ⟨I1.kIn, ?_⟩) he hpl
  exact run_makeSD M F hr hb hd (hx σ) I1 r q
/-! readings -/
variable {σ : L2.St} {H : Hp} {Q : VK} {D : Ends}
theorem go_callSD (h : t σ H fun vs H1 => sp (vs ++ dvs) H1 Q (E σ)) : tCallSD sp dvs E t σ H Q := h
theorem go_methSD (h : ta σ H fun x H1 => ∃ a dx fs, x = .ref a ∧ H1 a = some (.ins C dx fs) ∧ fs.lookup m = none ∧ t σ H1 fun vs H2 => sp (x :: (vs ++ dvs)) H2 Q (E σ)) : tMethSD C m sp dvs E ta t σ H Q := h
theorem go_makeSD (h : t σ H fun vs H1 => ∀ x dx, H1 x = none → H1 dx = none → dx ≠ x →
  sp (.ref x :: (vs ++ dvs)) (upd (upd H1 dx (.own x)) x (.ins C dx [])) (fun v H2 => v = .non ∧ Q (.ref x) H2) (E σ)) : tMakeSD C sp dvs E t σ H Q := h
theorem go_raise {W : WX} {fn : Str} (h : t σ H fun vs H1 => ∃ v, vs = [v] ∧ ∀ d, H1 d = none → W (.ref C) (some d) σ (upd H1 d (.xd [(fn, v)]))) : tRaiseErr C fn W t D σ H := h
end
/-! a def called within an except suite (it raises nothing itself) -/
structure RoomM (k : Nat) (A : Around) : Prop where
  dp : A.depth + 3 * k + 5 < recursionLimit
  un : A.units + 16 * k + 200 < cLine
theorem RoomM.mono {j k : Nat} {A : Around} (r : RoomM k A) (h : j ≤ k) : RoomM j A := ⟨by have := r.dp; omega, by have := r.un; omega⟩
theorem RoomM.deeper {k : Nat} {A : Around} (r : RoomM (k + 1) A) (env : Env) : RoomM k (A.deeper env) :=
  ⟨by have := r.dp; show A.depth + 1 + 3 * k + 5 < _; omega, by have := r.un; show A.units + 3 + 16 * k + 200 < _; omega⟩
theorem RoomM.depth {k : Nat} {A : Around} (r : RoomM k A) : A.depth < recursionLimit := by have := r.dp; omega
theorem roomM_mark {k : Nat} {A : Around} (r : Room k A) (h : Option Value) : RoomM k (A.mark h) := ⟨r.dp, r.un⟩
structure FnM (P : Program) (w : World) (K : PySem.W.Frag) (mg : Str → Option Value) (base : Heap) (k : Nat) (f : Addr) (fd : FuncData) (ps : List Str) (sp : Sp) : Prop where
  len : ∀ vs H Q E, sp vs H Q E → vs.length = ps.length
  run : ∀ (A : Around) (outer : List Env) (s : Shared) (H : Hp) (args : Args) (us : List Value) (vs : List V) (Q : VK), RoomM k A → Env0 P w K mg base A outer s H → BindsTo s fd args (ps.zip us) → Vals vs us → sp vs H Q E0 →
    codeAny (model P w) A (.call (.ref f) args) (CR CX0 outer P w H s Q E0) s
def cxM (P : Program) (w : World) (K : PySem.W.Frag) (mg : Str → Option Value) (base : Heap) (N : List Str) (qual : Str) (scope : Scope) (f : Addr) (cd : Value) (A : Around) (outer : List Env) (s : Shared) (H : Hp) : Cx :=
  { cxOf CX0 P w K mg base N qual scope f cd A outer s H E0 with calm := false }
theorem inv_startM {P : Program} {w : World} {K : PySem.W.Frag} {mg : Str → Option Value} {base : Heap} {N ps : List Str} {qual : Str} {scope : Scope} {f : Addr} {cd : Value} {A : Around} {outer : List Env} {s s1 : Shared} {H : Hp} {us : List Value} {vs : List V}
    (S : FnScope N ps scope) (e0 : Env0 P w K mg base A outer s H) (hl : vs.length = ps.length) (r : Vals vs us)
    (x : InCallC s s.heap.objs.size (bindL (envOfC qual scope s.heap.objs.size f cd).kindOf (ps.zip us) fun _ => none) (cellsFrom (s.heap.objs.size + 1) scope.names []) (bindC (envOfC qual scope s.heap.objs.size f cd).kindOf (ps.zip us) fun _ => none) s1) :
    L2.Inv (cxM P w K mg base N qual scope f cd A outer s H) [] (L2.start N vs) H s1 := by
  have hpl : ps.length ≤ N.length := by have := congrArg List.length S.pre; rw [List.length_take] at this; omega
  obtain ⟨h1, tk, rfl, hk⟩ := x.done
  have noA : ∀ b : Addr, b ∉ (cxM P w K mg base N qual scope f cd A outer s H).ex := fun b z => absurd (show b ∈ ([] : List Addr) from z) (by simp)
  refine ⟨⟨e0.mod, S.kind, rfl, rfl, Nat.le_refl _, fun y z c h1 h2 => ?_, fun y hy => ?_, fun y c _ h => ?_, (fun z => Bool.noConfusion (show false = true from z)), Around.frames_deeper e0.frames, .inr ⟨rfl, rfl⟩, fun b z => absurd z (noA b), e0.bs, e0.bsz, fun b _ _ => noA b, fun b z => absurd z (noA b), e0.funs, e0.frf⟩,
    rfl, e0.bare, Un.kept hk, ⟨_, x.toInCall.ns, fun i y v h1 h2 h3 => ?_⟩, fun y c h => ⟨_, x.cell y c h⟩, e0.hok.fresh (Nat.le_refl _), fun y c h => ?_, fun p hp => absurd (show p ∈ ([] : List (Addr × Obj)) from hp) (by simp), e0.hok.kept hk, ?_⟩
  · exact name_of_addr x.apart (PySem.mem_of_lookup h1) (PySem.mem_of_lookup h2)
  · have hy : scope.names.lookup y = some .cell ∨ scope.names.lookup y = some .free := hy
    rcases hy with hy | hy
    · exact cell_has hy
    · exact absurd rfl (S.nofree _ (PySem.mem_of_lookup hy))
  · exact Nat.le_of_lt (x.above y c (PySem.mem_of_lookup h))
  · have hi : i < vs.length := by
      unfold L2.start at h2
      by_cases hi : i < vs.length
      · exact hi
      · rw [List.getElem?_append_right (by simpa using hi)] at h2
        rw [List.getElem?_replicate] at h2
        split at h2 <;> cases h2
    have ha : vs[i]? = some v := by
      unfold L2.start at h2
      rw [List.getElem?_append_left (by simpa using hi), List.getElem?_map] at h2
      cases e : vs[i]? with
      | none => rw [e] at h2; cases h2
      | some a => rw [e] at h2; cases h2; rfl
    obtain ⟨u, hu, rv⟩ := r.get ha
    have hp : ps[i]? = some y := by
      rw [← S.pre, List.getElem?_take_of_lt (by omega)]; exact h1
    have ndP : ps.Nodup := by rw [← S.pre]; exact S.nd.sublist (List.take_sublist _ _)
    refine ⟨u, rv, ?_⟩
    rcases S.par y (List.mem_of_getElem? hp) with k | k
    · exact .inl ⟨k, bindL_get ndP hp hu k⟩
    · obtain ⟨c, e⟩ := cell_has (n := s.heap.objs.size + 1) k
      refine .inr ⟨.inl k, c, e, ?_⟩
      have q := x.cell y c e
      rw [bindC_get ndP hp hu (by show scope.names.lookup y ≠ _; rw [k]; decide)] at q
      exact q
  · exact e0.hok.fresh (Nat.le_of_lt (x.above y c (PySem.mem_of_lookup h)))
  · unfold L2.start
    show _ = N.length
    rw [List.length_append, List.length_map, List.length_replicate]
    omega
section
variable {P : Program} {w : World} {K : PySem.W.Frag} {mg : Str → Option Value} {base : Heap}
theorem Fun.okM {x qual : Str} {st : Stmt} {f : Addr} {fd : FuncData} {N ps : List Str} {k : Nat} {sp : Sp} (F : Fun K x qual st f fd) (S : FnScope N ps (defScope st)) (len : ∀ vs H Q E, sp vs H Q E → vs.length = ps.length)
    (hbody : ∀ (cdv : Value) (A : Around) (outer : List Env) (s : Shared) (H : Hp) (vs : List V) (Q : VK), RoomM k (A.deeper (envOfC qual (defScope st) s.heap.objs.size f cdv)) → sp vs H Q E0 →
      ∃ t, PSs (cxM P w K mg base N qual (defScope st) f cdv A outer s H) (defBody st) t ∧ t { nx := fun _ H' => Q .non H', rt := Q } (L2.start N vs) H) : FnM P w K mg base (k + 1) f fd ps sp := by
  obtain ⟨oc, od, kV, doc, pm, an, cdv, ct, osl, rfl, lk, hcd⟩ := F.ex
  refine ⟨len, fun A outer s H args us vs Q hr e0 hb r hsp => ?_⟩
  have hl := len _ _ _ _ hsp
  have KX : K.In s.heap := e0.mod.kin.keeps fun b o e => (e0.bs b o e).1
  have lim : s.heap.NoLimit := e0.mod.nolimit.keeps fun b o e => (e0.bs b o e).1
  have hkind : ∀ y ∈ ps.zip us, (defScope st).names.lookup y.1 = some .local ∨ ((defScope st).names.lookup y.1 = some .cell ∧ ((cellsFrom (s.heap.objs.size + 1) (defScope st).names []).lookup y.1).isSome = true) := fun ⟨n, v⟩ hy => by
    rcases S.par n (List.of_mem_zip hy).1 with q | q
    · exact .inl q
    · exact .inr ⟨q, PySem.W.cellsFrom_some _ _ _ (.inl q)⟩
  refine codeAny_call_function hr.depth (KX _ _ lk) rfl S.co S.gen rfl (PySem.W.codeRec_of KX hcd) (hb _ _ _ _ ?_)
  refine wpAny_newFunctionEnv_cells S.kind hkind fun env he s1 x => ?_
  subst he
  refine ⟨lim.keeps x.toInCall.keep, codeAny_func ?_⟩
  obtain ⟨t, ht, hq⟩ := hbody cdv A outer s H vs Q (hr.deeper _) hsp
  have I : L2.Inv (cxM P w K mg base N qual (defScope st) f cdv A outer s H) [] (L2.start N vs) H s1 := inv_startM S e0 hl r x
  refine wpAny_mono (ht.run [] s1 (L2.start N vs) H _ I hq) (fun fl s' hs => ?_) fun e s' hs => hs
  have fin : ∀ {σ' : L2.St} {H' : Hp} {v : V} {u : Value}, L2.Inv (cxM P w K mg base N qual (defScope st) f cdv A outer s H) [] σ' H' s' → RelV v u → Q v H' → CE outer P w H s Q u s' :=
    fun {σ' H' v u} J rv q => ⟨v, H', J.os, J.bare, J.base, J.hok, rv, q⟩
  cases fl with
  | ret u =>
    obtain ⟨v, σ', H', J, rv, q⟩ := hs
    exact fin J rv q
  | next =>
    obtain ⟨σ', H', J, q⟩ := hs
    exact fin (v := V.non) (u := Value.none) J rfl q
  | brk =>
    obtain ⟨_, _, _, q⟩ := hs
    exact False.elim q
  | cont =>
    obtain ⟨_, _, _, q⟩ := hs
    exact False.elim q
end
section
variable {X : Cx} {k : Nat} {f : Addr} {fd : FuncData} {ps : List Str} {sp : Sp} {x : Str} {q pos : Pos} {e : Expr} {es : List Expr} {t : TA}
theorem pe_callM (F : FnM X.prog X.w X.K X.mg X.base k f fd ps sp) (hr : RoomM k X.A) (hg : Gl X x) (hm : X.mg x = some (.ref f)) (hk : PySem.W.keepIn X.K (.ref f) = true) (hb : Binds X.K fd ps [])
    (ha : PA X (e :: es) t) (hdb : (x == ("__debug__" : Str)) = false := by decide) (he : starEach (e :: es) X.env = (false, eval e X.env) :: starEach es X.env := by rfl) (hpl : (backTo pos (starEach es X.env)).any (·.1) = false := by rfl) :
    PE X (.Call (.Name x q) (e :: es) [] pos) (tCall sp [] E0 t) := by
  refine ⟨fun pins s σ H Q I h => ?_⟩
  refine wpAny_Call_Name_kw (ld_glob I hg hm ?_ hdb)
  refine PySem.W.callWith_K (h₀ := X.base) I.ok.mod.kin hk (thn (ha.run pos pins s σ H _ I h) fun us s1 ⟨vs, H1, I1, r, q⟩ => ⟨I1.kIn, ?_⟩) he hpl
  have q : sp vs H1 Q E0 := by
    have z : sp (vs ++ []) H1 Q E0 := q
    rwa [List.append_nil] at z
  have hl : us.length = ps.length := by rw [← r.length]; exact F.len _ _ _ _ q
  have b := hb s1 us I1.kIn (by rw [List.append_nil]; exact hl)
  rw [List.append_nil] at b
  refine wpAny_call (codeAny_mono (F.run X.A X.stack s1 H1 ⟨us, []⟩ us vs Q hr I1.env0 b r q) fun r s' hq => ?_)
  cases r with
  | error e => exact False.elim hq
  | ok fl =>
    cases fl with
    | ret u => exact I1.after hq
    | next => exact False.elim hq
    | brk => exact False.elim hq
    | cont => exact False.elim hq
end
/-- what is raised is the clause's -/
theorem we_as {K : PySem.W.Frag} {c cls : Value} {i : Nat} {ts : Addr → Value → Option Addr → TS} {Wout : WX} {D : Ends} {σ : L2.St} {H : Hp} {d : Option Addr} (hc : PySem.W.exmOne K cls c = some true)
    (h : ∀ a, H a = none → ts a cls d { nx := fun σ' H' => D.nx (σ'.set i none) H', rt := D.rt, bk := fun σ' H' => D.bk (σ'.set i none) H', ct := fun σ' H' => D.ct (σ'.set i none) H' } (σ.set i (some (.ref a))) H) :
    WE (wAs K c i ts Wout D) σ cls d H := ⟨true, hc, fun _ => h, fun q => Bool.noConfusion q⟩
/-- e.f of a caught error whose dict tells f -/
theorem go_xf {a C : Addr} {cls : Value} {d : Option Addr} {f : Str} {te : TE} {σ : L2.St} {H : Hp} {Q : VK} (h : te σ H fun x H1 => x = .ref a ∧ cls = .ref C ∧ ∃ (dd : Addr) (fs : List (Str × V)) (v : V), d = some dd ∧ H1 dd = some (.xd fs) ∧ fs.lookup f = some v ∧ Q v H1) :
    tXf a cls d C f te σ H Q := h
end Gx
/-! isinstance of the error that a suite holds -/
namespace Gx
open PySem PySem.Spec PyProof.Rows L2
/-- what the class D must say, so that isinstance asks its instances rightly -/
structure ExD (K : PySem.W.Frag) (D : Addr) : Prop where
  cl : (PySem.W.clsIn K D).isSome = true
  hg : PySem.W.findIn K (.ref D) "__getattribute__" = some (some (.builtin "BaseException.__getattribute__"))
  hk : PySem.W.findIn K (.ref D) "__getattr__" = some none
  hs : PySem.W.subIn K (.ref D) (.type "BaseException") = some true
  ha : PySem.W.findIn K (.ref D) "__class__" = some (some (.builtin "object.__class__"))
  hn : PySem.W.specialIn K (.builtin "object.__class__") "__get__" = some (some (.builtin "getset_descriptor.__get__"))
  ht : PySem.W.takesIn K (.builtin "object.__class__") = some true
  hm : PySem.W.mroIn K D (.type "object") = some true
/-- what is asked of: one class, or a written tuple of classes -/
inductive AskX (K : PySem.W.Frag) (D : Addr) (H : Hp) (b : Bool) : V → Prop
  | one {c : V} {cv : Value} : (∀ u, RelV c u → u = cv) → PySem.W.kitOne K (.ref D) cv = some b → AskX K D H b c
  | tup {tp : Addr} {cs : List V} {cvs : List Value} : H tp = some (.tup cs) → (∀ us, Vals cs us → us = cvs) → PySem.W.kitAny K (.ref D) cvs = some b → AskX K D H b (.ref tp)
def rIsX (K : PySem.W.Frag) (cls : Value) (d : Option Addr) (a : Addr) : List V → Hp → VK → Prop := fun xs H Q => ∃ (D dd : Addr) (fs : List (Str × V)) (b : Bool) (c : V),
  xs = [.ref a, c] ∧ cls = .ref D ∧ d = some dd ∧ H dd = some (.xd fs) ∧ ExD K D ∧ AskX K D H b c ∧ Q (.bl b) H
theorem call_isX {X : Cx} {a : Addr} {oe : Obj} {cls : Value} {d : Option Addr} {pn : List (Addr × Obj)} (hz : Zc cls d oe) (hf : ∃ vs, oe.data = .fields vs) : CallR (X.suite a ((a, oe) :: pn)) (.builtin "isinstance") (rIsX X.K cls d a) := by
  intro pins s σ H xs us Q I r h
  obtain ⟨D, dd, fs, b, c, rfl, rfl, rfl, ed, C, ask, q⟩ := h
  cases r with
  | cons rx rr =>
    cases rr with
    | cons rt rr =>
      cases rr
      cases rx
      obtain ⟨hget, _⟩ := I.pin (a, oe) (List.mem_append.mpr (.inl List.mem_cons_self))
      obtain ⟨vs, hv⟩ := hf
      have hx : ObjOk X.prog X.w H s.heap dd (.xd fs) := I.hok dd _ ed
      obtain ⟨mA, hns, _⟩ := hx
      obtain ⟨od, _, _, hod, _⟩ := hns
      have J : PySem.W.InstAt s.heap a oe D (some od) := by
        obtain ⟨oc, odd, oda, osl⟩ := oe
        obtain ⟨h1, h2⟩ := hz
        dsimp only at h1 h2 hv
        subst h1 h2 hv
        exact ⟨hget, rfl, rfl, hod⟩
      have KX := PySem.W.kitx_exc (K := X.K) (C := D) (x := a) (ox := oe) (od := some od) C.cl C.hg C.hk C.hs C.ha C.hn C.ht C.hm
      cases ask with
      | one hcv e =>
        have ec := hcv _ rt
        subst ec
        exact PySem.W.kia_one KX I.kIn J e (fun z => nomatch z) fun tk => ⟨.bl b, H, I.kept (t' := tk) fun _ _ z => z, rfl, q⟩
      | tup ht hcs e =>
        cases rt
        have hx : ObjOk X.prog X.w H s.heap _ (.tup _) := I.hok _ _ ht
        obtain ⟨_, its, hv, hi⟩ := hx
        have ec := hcs _ hv
        subst ec
        obtain ⟨⟨oc', od', oda', osl'⟩, h1, h2, n, h3⟩ := hi
        dsimp only at h2 h3
        subst h2 h3
        exact PySem.W.kia_tup KX I.kIn J h1 e (fun z => nomatch z) fun tk => ⟨.bl b, H, I.kept (t' := tk) fun _ _ z => z, rfl, q⟩
/-- values of written class names -/
inductive ClsVs : List V → List Value → Prop
  | nil : ClsVs [] []
  | ref {a : Addr} {cs : List V} {cvs : List Value} : ClsVs cs cvs → ClsVs (.ref a :: cs) (.ref a :: cvs)
theorem ClsVs.only {cs : List V} {cvs : List Value} (h : ClsVs cs cvs) : ∀ us, Vals cs us → us = cvs := by
  induction h with
  | nil => intro us r; cases r; rfl
  | ref _ ih =>
    intro us r
    cases r with
    | cons rx rr =>
      cases rx
      rw [ih _ rr]
/-- one own class -/
theorem AskX.cls {K : PySem.W.Frag} {D C : Addr} {H : Hp} {b : Bool} (e : PySem.W.kitOne K (.ref D) (.ref C) = some b) : AskX K D H b (.ref C) := .one (cv := .ref C) (fun u r => by cases r; rfl) e
/-- one built-in class -/
theorem AskX.ty {K : PySem.W.Frag} {D : Addr} {T : String} {H : Hp} {b : Bool} (e : PySem.W.kitOne K (.ref D) (.type T) = some b) : AskX K D H b (.ty T) := .one (cv := .type T) (fun u r => by cases r; rfl) e
theorem go_isX {K : PySem.W.Frag} {D dd a : Addr} {fs : List (Str × V)} {b : Bool} {c : V} {H : Hp} {Q : VK} (ed : H dd = some (.xd fs)) (C : ExD K D) (ask : AskX K D H b c) (h : Q (.bl b) H) : rIsX K (.ref D) (some dd) a [.ref a, c] H Q :=
  ⟨D, dd, fs, b, c, rfl, rfl, rfl, ed, C, ask, h⟩
end Gx

set_option Elab.async false
set_option linter.all false
set_option maxRecDepth 100000
set_option maxHeartbeats 4000000
/-! properties, e.f += value, comparisons of None with texts -/
namespace Gx
open PySem PySem.Spec PyProof.Rows L2
section
variable {K : PySem.W.Frag} {H : Hp} {Q : VK} {σ : L2.St} {ta tv : TE} {D : Ends} {f : Str}
theorem go_prop {C : Addr} {sp : Sp} {dvs : List V} {E : XK} (h : ta σ H fun x H1 => ∃ a dx fs, x = .ref a ∧ H1 a = some (.ins C dx fs) ∧ sp (.ref a :: dvs) H1 Q E) : tProp C sp dvs E ta σ H Q := h
def qFA (K : PySem.W.Frag) (tv : TE) (rd : V → V → Hp → VK → Prop) (f : Str) (D : Ends) (σ : L2.St) (x : V) (H1 : Hp) : Prop := ∃ a C dx fs v, x = .ref a ∧ H1 a = some (.ins C dx fs) ∧ Cls K C ∧ NoAttr K C f ∧ fs.lookup f = some v ∧
  tv σ H1 fun y H2 => rd v y H2 fun z H3 => ∃ dx' fs', H3 a = some (.ins C dx' fs') ∧ fs'.length < 1000 ∧ D.nx σ (upd H3 a (.ins C dx' (putF f z fs')))
theorem go_faug {rd : V → V → Hp → VK → Prop} (h : ta σ H fun x H1 => qFA K tv rd f D σ x H1) : sFldAug K ta tv rd f D σ H := h
theorem go_faI {a C dx : Addr} {fs : List (Str × V)} {i j : Int} (e : H a = some (.ins C dx fs)) (c : Cls K C) (n : NoAttr K C f) (l : fs.lookup f = some (.int i)) (ln : fs.length < 1000) (h : D.nx σ (upd H a (.ins C dx (putF f (.int (i + j)) fs)))) : qFA K (tC (.int j)) rAdd f D σ (.ref a) H :=
  ⟨a, C, dx, fs, _, rfl, e, c, n, l, ⟨i, j, rfl, rfl, dx, fs, e, ln, h⟩⟩
theorem go_neNS {x : Str} (h : Q (.bl true) H) : rNe .non (.str x) H Q := ⟨rfl, by simpa using h⟩
theorem go_eqNS {x : Str} (h : Q (.bl false) H) : rEq .non (.str x) H Q := ⟨rfl, by simpa using h⟩
end
end Gx

set_option Elab.async false
set_option linter.all false
set_option maxRecDepth 100000
set_option maxHeartbeats 4000000
/-! calls with keywords; texts in lists and None -/
namespace Gx
open PySem PySem.Spec PyProof.Rows L2
def tCallNSD (n m : Nat) (sp : Sp) (gV : List V → List V → List V) (E : L2.St → XK) (t tk : TA) : TE := fun σ H Q => t σ H fun vs H1 => tk σ H1 fun zs H2 => vs.length = n ∧ zs.length = m ∧ sp (gV vs zs) H2 Q (E σ)
section
variable {X : Cx} {CX : CXT} {k n : Nat} {f : Addr} {fd : FuncData} {ps ks : List Str} {sp : Sp} {E : L2.St → XK} {x : Str} {p pos : Pos} {e : Expr} {es : List Expr} {kws : List Keyword} {t tk : TA} {g : List Value → List Value → List Value} {gV : List V → List V → List V}
theorem pe_callNSD (F : FnOk X.prog X.w X.K X.mg X.base CX k f fd ps sp) (hr : Room k X.A) (hg : Gl X x) (hm : X.mg x = some (.ref f)) (hk : PySem.W.keepIn X.K (.ref f) = true) (hb : KBn X.K fd ps n ks g gV) (hx : ∀ σ, PassesAt CX X σ (E σ))
    (ha : PA X (e :: es) t) (hkw : PK X kws tk) (hall : (backToKw pos (keywordEach kws X.env)).all (·.1.isSome) = true := by rfl) (hks : (backToKw pos (keywordEach kws X.env)).filterMap (·.1) = ks := by rfl)
    (hdb : (x == ("__debug__" : Str)) = false := by decide) (he : starEach (e :: es) X.env = (false, eval e X.env) :: starEach es X.env := by rfl)
    (hpl : ((backTo pos (starEach (e :: es) X.env)).any (·.1) || (backToKw pos (keywordEach kws X.env)).any (·.1.isNone)) = false := by rfl) :
    PE X (.Call (.Name x p) (e :: es) kws pos) (tCallNSD n ks.length sp gV E t tk) := by
  constructor
  intro pins s σ H Q I h
  refine wpAny_Call_Name_kw (ld_glob I hg hm ?_ hdb)
  refine PySem.W.callWith_KW (h₀ := X.base) I.ok.mod.kin hk hall (thn (ha.run pos pins s σ H _ I h) fun us s1 z1 => ?_) hpl he
  obtain ⟨vs, H1, I1, r, q⟩ := z1
  refine thn (hkw.run pos pins s1 σ H1 _ I1 q) fun ws s2 z2 => ?_
  obtain ⟨zs, H2, I2, rz, l1, l2, q2⟩ := z2
  refine ⟨I2.kIn, ?_⟩
  rw [hks]
  have r2 := hb.rel r rz
  refine wpAny_call (codeAny_mono (F.run X.A X.stack s2 H2 ⟨us, ks.zip ws⟩ (g us ws) (gV vs zs) Q (E σ) hr I2.env0 (hb.to s2 us ws I2.kIn (r.length.symm.trans l1) (rz.length.symm.trans l2)) r2 q2) fun r s' hq => ?_)
  cases r with
  | error e => exact hx σ pins H2 s2 e s' I2 hq
  | ok fl =>
    cases fl with
    | ret u => exact I2.after hq
    | next => exact hq.elim
    | brk => exact hq.elim
    | cont => exact hq.elim
end
section
variable {K : PySem.W.Frag} {H : Hp} {Q : VK} {σ : L2.St} {n m : Nat} {sp : Sp} {gV : List V → List V → List V} {t tk : TA} {C : Addr}
theorem go_callNSD {E : L2.St → XK} (h : t σ H fun vs H1 => tk σ H1 fun zs H2 => vs.length = n ∧ zs.length = m ∧ sp (gV vs zs) H2 Q (E σ)) : tCallNSD n m sp gV E t tk σ H Q := h
theorem go_callN {E : XK} (h : t σ H fun vs H1 => tk σ H1 fun zs H2 => vs.length = n ∧ zs.length = m ∧ sp (gV vs zs) H2 Q E) : tCallN n m sp gV E t tk σ H Q := h
theorem go_makeK {E : XK} (h : t σ H fun vs H1 => tk σ H1 fun zs H2 => vs.length = n ∧ zs.length = m ∧ ∀ x dx, H2 x = none → H2 dx = none → dx ≠ x →
  sp (gV (.ref x :: vs) zs) (upd (upd H2 dx (.own x)) x (.ins C dx [])) (fun v H3 => v = .non ∧ Q (.ref x) H3) E) : tMakeK C n m sp gV E t tk σ H Q := h
theorem inV_non : ∀ ks : List Str, inV .non (ks.map V.str) = false
  | [] => rfl
  | k :: ks => by
    show (eqV (.str k) .non || inV .non (ks.map V.str)) = false
    rw [inV_non ks]
    rfl
theorem go_inNon {p : Addr} {ks : List Str} (h : SqL K H p (ks.map V.str) ∨ SqT K H p (ks.map V.str)) (q : Q (.bl false) H) : rIn K false .non (.ref p) H Q :=
  ⟨p, _, rfl, h, rfl, flat_strs ks, by rw [inV_non]; exact q⟩
end
end Gx

set_option Elab.async false
set_option linter.all false
set_option maxRecDepth 100000
set_option maxHeartbeats 4000000
/-! comprehensions over range with any invariant; made elements told as data -/
namespace Gx
open PySem PySem.Spec PyProof.Rows L2
section
variable {K : PySem.W.Frag} {σ : L2.St} {H H1 : Hp} {Q : VK} {te : TE} {vs : List Nat} {j : Nat}
/-- [e for x in range(n)], behind the reading of n: any invariant -/
theorem lcRI {R : Addr → Hp → Prop} {n : Int} (hn : -(2 ^ 62) ≤ n ∧ n < 2 ^ 62) (hw : ∀ x, wipe ((wipe σ vs).set j x) vs = wipe σ vs)
    (h : ∀ D, H1 D = none → ∃ W : Nat → Hp → Prop, W 0 (upd H1 D (.lst [])) ∧
      (∀ (i : Nat) H', (i : Int) < n → W i H' → te ((wipe σ vs).set j (some (.int i))) H' fun y H4 => ∃ acc, H4 D = some (.lst acc) ∧ acc.length < sizeLine ∧ W (i + 1) (upd H4 D (.lst (acc ++ [y])))) ∧ ∀ H', W n.toNat H' → R D H') :
    ∃ k : Int, [V.int n] = [.int k] ∧ -(2 ^ 62) ≤ k ∧ k < 2 ^ 62 ∧ ∀ D, H1 D = none → ∃ W : Nat → Nat → Hp → Prop, (∃ m, W 0 m (upd H1 D (.lst []))) ∧ ∀ i m H, W i m H →
      ((Itr 0 k.toNat).stop i H ∧ R D H) ∨ ((Itr 0 k.toNat).go i H ∧ ∃ Nx : Hp → Prop, (∀ H', Nx H' → ∃ m', m' < m ∧ W (i + 1) m' H') ∧ ∀ x H', (Itr 0 k.toNat).yld i H x H' → gName j x (wipe σ vs) H' fun σ2 H2 => wipe σ2 vs = wipe σ vs ∧ tYes σ2 H2 fun b H3 =>
        if b = true then te σ2 H3 fun y H4 => ∃ acc, H4 D = some (.lst acc) ∧ acc.length < sizeLine ∧ Nx (upd H4 D (.lst (acc ++ [y]))) else Nx H3) := by
  refine ⟨n, rfl, hn.1, hn.2, fun D hD => ?_⟩
  obtain ⟨W, w0, ws, wd⟩ := h D hD
  refine lc_range (lo := 0) (n := n.toNat) W w0 (fun i H hi p => ?_) wd
  refine ⟨hw _, ?_⟩
  refine go_yes ?_
  refine iteT ?_
  rw [Int.zero_add]
  exact ws i H (by omega) p
theorem dpAll_snoc {ds : List PyData} {vs : List V} {v : V} {d : PyData} (h : DpAll K H vs ds) (hd : Dp K H v d) : DpAll K H (vs ++ [v]) (ds ++ [d]) := dpAll_append h (.cons hd .nil)
theorem noLAll_app : ∀ {a b : List PyData}, noLAll a = true → noLAll b = true → noLAll (a ++ b) = true
  | [], _, _, hb => hb
  | x :: a, b, ha, hb => by
    rw [List.cons_append]
    have h : (noL x && noLAll a) = true := ha
    show (noL x && noLAll (a ++ b)) = true
    rw [Bool.and_eq_true] at h ⊢
    exact ⟨h.1, noLAll_app h.2 hb⟩
theorem get_snoc {α : Type} {G : Nat → α → Prop} {ds : List α} {d : α} (h : ∀ i d, ds[i]? = some d → G i d) (hd : G ds.length d) : ∀ i x, (ds ++ [d])[i]? = some x → G i x := fun i x hx => by
  rcases Nat.lt_or_ge i ds.length with z | z
  · rw [List.getElem?_append_left z] at hx
    exact h i x hx
  · rw [List.getElem?_append_right z] at hx
    rcases Nat.eq_or_lt_of_le z with e | e
    · rw [← e, Nat.sub_self] at hx
      cases hx
      exact e ▸ hd
    · rw [List.getElem?_eq_none (by simp; omega)] at hx
      cases hx
/-- the same, its elements told as data; a pool turns -/
theorem lcPD {R : Addr → Hp → Prop} {n : Int} {p : Pl} {b : Int} (G : Nat → PyData → Prop) (hp : Pool H1 p b) (hz : n ≤ 100000) (hn : -(2 ^ 62) ≤ n) (hw : ∀ x, wipe ((wipe σ vs).set j x) vs = wipe σ vs)
    (he : ∀ (i : Nat) H', (i : Int) < n → Turn p b H1 H' → ∀ R : VK, (∀ y H'' d, Turn p b H' H'' → G i d → noL d = true → Dp K H'' y d → R y H'') → te ((wipe σ vs).set j (some (.int i))) H' R)
    (q : ∀ D (ys : List V) (ds : List PyData) H2, H1 D = none → Turn p b H1 H2 → H2 D = some (.lst ys) → ds.length = n.toNat → DpAll K H2 ys ds → (∀ i d, ds[i]? = some d → G i d) → noLAll ds = true → R D H2) :
    ∃ k : Int, [V.int n] = [.int k] ∧ -(2 ^ 62) ≤ k ∧ k < 2 ^ 62 ∧ ∀ D, H1 D = none → ∃ W : Nat → Nat → Hp → Prop, (∃ m, W 0 m (upd H1 D (.lst []))) ∧ ∀ i m H, W i m H →
      ((Itr 0 k.toNat).stop i H ∧ R D H) ∨ ((Itr 0 k.toNat).go i H ∧ ∃ Nx : Hp → Prop, (∀ H', Nx H' → ∃ m', m' < m ∧ W (i + 1) m' H') ∧ ∀ x H', (Itr 0 k.toNat).yld i H x H' → gName j x (wipe σ vs) H' fun σ2 H2 => wipe σ2 vs = wipe σ vs ∧ tYes σ2 H2 fun b H3 =>
        if b = true then te σ2 H3 fun y H4 => ∃ acc, H4 D = some (.lst acc) ∧ acc.length < sizeLine ∧ Nx (upd H4 D (.lst (acc ++ [y]))) else Nx H3) := by
  refine lcRI ⟨hn, by omega⟩ hw fun D hD => ?_
  have nD : D ≠ p.a := hp.nea hD
  refine ⟨fun i H' => Turn p b H1 H' ∧ ∃ (ys : List V) (ds : List PyData), H' D = some (.lst ys) ∧ ds.length = i ∧ DpAll K H' ys ds ∧ (∀ i d, ds[i]? = some d → G i d) ∧ noLAll ds = true, ⟨(Turn.refl hp).new hD, [], [], upd_same, rfl, .nil, (fun i d h => by cases h), rfl⟩, ?_, ?_⟩
  · rintro i H' hi ⟨t, ys, ds, e, hl, hd, hg, hno⟩
    refine he i H' hi t _ fun y H4 d t4 gd nd dd => ?_
    have e4 := t4.but D _ nD e
    have d4 : DpAll K H4 ys ds := dpAll_but (l := p.a) t.pool.there.choose_spec t4.but ds ys hno hd
    refine ⟨ys, e4, szlt (by rw [dpAll_len hd]; omega), Turn.mut hp hD (t.trans t4), ys ++ [y], ds ++ [d], upd_same, by simp [hl], ?_, get_snoc hg (by rw [hl]; exact gd), noLAll_app hno (by show (noL d && true) = true; rw [nd]; rfl)⟩
    exact dpAll_snoc (dpAll_put e4 ds ys hno d4) (dp_put e4 d y nd dd)
  · rintro H' ⟨t, ys, ds, e, hl, hd, hg, hno⟩
    exact q D ys ds H' hD t e hl hd hg hno
/-- [e for x in a list], any target, any invariant -/
theorem lcLW {R : Addr → Hp → Prop} {g : TG} {a : Addr} (xs : List V) (hs : SqL K H1 a xs)
    (h : ∀ D, H1 D = none → ∃ W : Nat → Hp → Prop, W 0 (upd H1 D (.lst [])) ∧ (∀ i H', W i H' → SqL K H' a xs) ∧
      (∀ (i : Nat) x H', xs[i]? = some x → W i H' → g x (wipe σ vs) H' fun σ2 H2 => wipe σ2 vs = wipe σ vs ∧ tYes σ2 H2 fun b H3 => if b = true then te σ2 H3 fun y H4 => ∃ acc, H4 D = some (.lst acc) ∧ acc.length < sizeLine ∧ W (i + 1) (upd H4 D (.lst (acc ++ [y]))) else W (i + 1) H3) ∧ ∀ H', W xs.length H' → R D H') :
    ∃ b, V.ref a = .ref b ∧ (∃ xs, SqL K H1 b xs) ∧ ∀ D, H1 D = none → ∃ W : Nat → Nat → Hp → Prop, (∃ m, W 0 m (upd H1 D (.lst []))) ∧ ∀ i m H, W i m H →
      ((Itl K b).stop i H ∧ R D H) ∨ ((Itl K b).go i H ∧ ∃ Nx : Hp → Prop, (∀ H', Nx H' → ∃ m', m' < m ∧ W (i + 1) m' H') ∧ ∀ x H', (Itl K b).yld i H x H' → g x (wipe σ vs) H' fun σ2 H2 => wipe σ2 vs = wipe σ vs ∧ tYes σ2 H2 fun b H3 =>
        if b = true then te σ2 H3 fun y H4 => ∃ acc, H4 D = some (.lst acc) ∧ acc.length < sizeLine ∧ Nx (upd H4 D (.lst (acc ++ [y]))) else Nx H3) := by
  refine ⟨a, rfl, ⟨xs, hs⟩, fun D hD => ?_⟩
  obtain ⟨W, w0, wl, ws, wd⟩ := h D hD
  refine lc_list (xs := xs) W w0 (fun i H _ p => wl i H p) ws wd
/-- [e for x in a tuple], any target, any invariant -/
theorem lcTW {R : Addr → Hp → Prop} {g : TG} {a : Addr} (xs : List V) (hs : SqT K H1 a xs)
    (h : ∀ D, H1 D = none → ∃ W : Nat → Hp → Prop, W 0 (upd H1 D (.lst [])) ∧ (∀ i H', W i H' → SqT K H' a xs) ∧
      (∀ (i : Nat) x H', xs[i]? = some x → W i H' → g x (wipe σ vs) H' fun σ2 H2 => wipe σ2 vs = wipe σ vs ∧ tYes σ2 H2 fun b H3 => if b = true then te σ2 H3 fun y H4 => ∃ acc, H4 D = some (.lst acc) ∧ acc.length < sizeLine ∧ W (i + 1) (upd H4 D (.lst (acc ++ [y]))) else W (i + 1) H3) ∧ ∀ H', W xs.length H' → R D H') :
    ∃ b, V.ref a = .ref b ∧ (∃ xs, SqT K H1 b xs) ∧ ∀ D, H1 D = none → ∃ W : Nat → Nat → Hp → Prop, (∃ m, W 0 m (upd H1 D (.lst []))) ∧ ∀ i m H, W i m H →
      ((Itt K b).stop i H ∧ R D H) ∨ ((Itt K b).go i H ∧ ∃ Nx : Hp → Prop, (∀ H', Nx H' → ∃ m', m' < m ∧ W (i + 1) m' H') ∧ ∀ x H', (Itt K b).yld i H x H' → g x (wipe σ vs) H' fun σ2 H2 => wipe σ2 vs = wipe σ vs ∧ tYes σ2 H2 fun b H3 =>
        if b = true then te σ2 H3 fun y H4 => ∃ acc, H4 D = some (.lst acc) ∧ acc.length < sizeLine ∧ Nx (upd H4 D (.lst (acc ++ [y]))) else Nx H3) := by
  refine ⟨a, rfl, ⟨xs, hs⟩, fun D hD => ?_⟩
  obtain ⟨W, w0, wl, ws, wd⟩ := h D hD
  refine lc_tup (xs := xs) W w0 (fun i H _ p => wl i H p) ws wd
theorem sqL_butI {c C dx a : Addr} {fs : List (Str × V)} {xs : List V} (hc : H c = some (.ins C dx fs)) (B : But c H H1) (h : SqL K H a xs) : SqL K H1 a xs := by
  rcases h with (h | ⟨o, h⟩) | h
  · exact .inl (.inl (B _ _ (fun z => by rw [z, hc] at h; cases h) h))
  · exact .inl (.inr ⟨o, B _ _ (fun z => by rw [z, hc] at h; cases h) h⟩)
  · exact .inr h
theorem sqT_butI {c C dx a : Addr} {fs : List (Str × V)} {xs : List V} (hc : H c = some (.ins C dx fs)) (B : But c H H1) (h : SqT K H a xs) : SqT K H1 a xs := by
  rcases h with (h | ⟨o, h⟩) | h
  · exact .inl (.inl (B _ _ (fun z => by rw [z, hc] at h; cases h) h))
  · exact .inl (.inr ⟨o, B _ _ (fun z => by rw [z, hc] at h; cases h) h⟩)
  · exact .inr h
mutual
/-- data outlast a write at an instance -/
theorem dp_butI {c C dx : Addr} {fs : List (Str × V)} (hc : H c = some (.ins C dx fs)) (B : But c H H1) : ∀ (d : PyData) (v : V), Dp K H v d → Dp K H1 v d
  | .none, _, h => by cases h; exact .non
  | .bool _, _, h => by cases h; exact .bl _
  | .int _, _, h => by cases h; exact .int _
  | .str _, _, h => by cases h; exact .str _
  | .list ds, _, h => by cases h with | lst e a => exact .lst (sqL_butI hc B e) (dpAll_butI hc B ds _ a)
  | .tuple ds, _, h => by cases h with | tup e a => exact .tup (sqT_butI hc B e) (dpAll_butI hc B ds _ a)
  | .dict _, _, h => by cases h
theorem dpAll_butI {c C dx : Addr} {fs : List (Str × V)} (hc : H c = some (.ins C dx fs)) (B : But c H H1) : ∀ (ds : List PyData) (vs : List V), DpAll K H vs ds → DpAll K H1 vs ds
  | [], _, h => by cases h; exact .nil
  | d :: ds, _, h => by cases h with | cons e a => exact .cons (dp_butI hc B d _ e) (dpAll_butI hc B ds _ a)
end
theorem dp_lst {v : V} {ds : List PyData} (h : Dp K H v (.list ds)) : ∃ a xs, v = .ref a ∧ SqL K H a xs ∧ DpAll K H xs ds := by
  cases h with | lst e a => exact ⟨_, _, rfl, e, a⟩
/-- told by a map -/
theorem map_of {α : Type} {f : α → PyData} {P : α → Prop} : ∀ {ds : List PyData}, (∀ (i : Nat) d, ds[i]? = some d → ∃ p, d = f p ∧ P p) → ∃ c : List α, ds = c.map f ∧ ∀ p ∈ c, P p
  | [], _ => ⟨[], rfl, fun _ h => nomatch h⟩
  | d :: ds, h => by
    obtain ⟨p, e, hp⟩ := h 0 d rfl
    obtain ⟨c, e2, h2⟩ := map_of (f := f) (P := P) (ds := ds) fun i d hd => h (i + 1) d hd
    refine ⟨p :: c, by rw [e, e2, List.map_cons], fun z hz => ?_⟩
    rcases List.mem_cons.mp hz with rfl | hz
    · exact hp
    · exact h2 z hz
theorem dpAll_ints {ns : List Int} {xs : List V} (h : DpAll K H xs (ns.map PyData.int)) : xs = ns.map V.int := by
  induction ns generalizing xs with
  | nil => cases h; rfl
  | cons n r ih => cases h with | cons e a => cases e; rw [ih a]; rfl
theorem dpAll_of : ∀ {ds : List PyData} {vs : List V}, vs.length = ds.length → (∀ (i : Nat) d, ds[i]? = some d → ∃ v, vs[i]? = some v ∧ Dp K H v d) → DpAll K H vs ds
  | [], [], _, _ => .nil
  | [], _ :: _, h, _ => nomatch h
  | _ :: _, [], h, _ => nomatch h
  | d :: ds, v :: vs, h, g => by
    obtain ⟨w, e, hw⟩ := g 0 d rfl
    cases e
    exact .cons hw (dpAll_of (Nat.succ.inj h) fun i d hd => g (i + 1) d hd)
/-- what was there before a fresh instance was written -/
theorem same_butF {c : Addr} {H2 : Hp} (s : Same H H1) (n : H c = none) (B : But c H1 H2) : Same H H2 := fun b o e => B b o (fun z => by rw [z, n] at e; cases e) (s b o e)
theorem go_extend {l b : Addr} {xs zs : List V} (e : H l = some (.lst xs)) (hb : H b = some (.lst zs)) (hz : xs.length + zs.length ≤ 100000) (h : Q .non (upd H l (.lst (xs ++ zs)))) : rExtend (.ref l) [.ref b] H Q := ⟨l, b, xs, zs, rfl, rfl, e, hb, sz hz, h⟩
end
end Gx

local macro_rules | `(tactic| walk_at "side") => `(tactic| first | decide | omega | assumption | exact Or.inl ⟨by decide, by decide⟩ | exact Or.inr ⟨by decide, by decide⟩ | exact Or.inl ⟨by omega, by omega⟩ | exact Or.inr ⟨by omega, by omega⟩ | (refine ⟨?_, ?_⟩ <;> first | decide | omega | assumption))
local macro_rules | `(tactic| walk_at "go1") => `(tactic| first
  | with_reducible refine Gx.go_seq ?_
  | with_reducible refine Gx.go_asg ?_
  | with_reducible refine Gx.go_name ?_
  | with_reducible refine Gx.go_var rfl ?_
  | with_reducible refine Gx.go_c ?_
  | with_reducible refine Gx.go_op ?_
  | with_reducible refine Gx.go_rI0 ?_
  | ((with_reducible refine Gx.go_rI ?k1 ?k2); (case k1 => walk_at "side"))
  | with_reducible refine Gx.go_test ?_
  | with_reducible refine Gx.go_if ?_
  | with_reducible refine Gx.go_cons ?_
  | with_reducible refine Gx.go_nil ?_
  | with_reducible refine Gx.go_CB ?_
  | with_reducible refine Gx.go_call ?_
  | with_reducible refine Gx.go_eqI ?_
  | with_reducible refine Gx.go_neI ?_
  | with_reducible refine Gx.go_eqS ?_
  | with_reducible refine Gx.go_neS ?_
  | with_reducible refine Gx.go_eqB ?_
  | with_reducible refine Gx.go_neB ?_
  | with_reducible refine Gx.go_eqN ?_
  | with_reducible refine Gx.ite_dt ?_
  | with_reducible refine Gx.go_ret ?_
  | with_reducible refine Gx.go_retN ?_
  | with_reducible refine Gx.go_next ?_
  | with_reducible refine Gx.go_drop ?_
  | with_reducible refine Gx.go_un ?_
  | with_reducible refine Gx.go_rU ?_
  | with_reducible refine Gx.go_and ?_
  | with_reducible refine Gx.go_or ?_
  | with_reducible refine Gx.go_not ?_
  | with_reducible refine Gx.go_andV ?_
  | with_reducible refine Gx.go_orV ?_
  | with_reducible refine Gx.go_notV ?_
  | with_reducible refine Gx.go_blA ?_
  | with_reducible refine L2.iteT ?_
  | with_reducible refine L2.iteF ?_
  | with_reducible refine Gx.ite_nt ?_
  | with_reducible refine Gx.ite_nf ?_
  | with_reducible refine Gx.go_ifE ?_
  | with_reducible refine Gx.go_chain ?_
  | with_reducible refine Gx.go_B ?_
  | with_reducible refine Gx.go_int1 ?_
  | with_reducible refine Gx.go_intB ?_
  | with_reducible refine Gx.go_lst ?_
  | with_reducible refine Gx.go_tup ?_
  | with_reducible refine Gx.go_sl ?_
  | with_reducible refine Gx.go_noPart ?_
  | with_reducible refine Gx.go_part ?_
  | with_reducible refine Gx.go_partI ?_
  | with_reducible refine Gx.isi_int_int ?_
  | with_reducible refine Gx.isi_int_bool ?_
  | with_reducible refine Gx.isi_int_str ?_
  | with_reducible refine Gx.isi_int_list ?_
  | with_reducible refine Gx.isi_int_tuple ?_
  | with_reducible refine Gx.isi_bool_int ?_
  | with_reducible refine Gx.isi_bool_bool ?_
  | with_reducible refine Gx.isi_bool_str ?_
  | with_reducible refine Gx.isi_bool_list ?_
  | with_reducible refine Gx.isi_bool_tuple ?_
  | with_reducible refine Gx.isi_str_int ?_
  | with_reducible refine Gx.isi_str_bool ?_
  | with_reducible refine Gx.isi_str_str ?_
  | with_reducible refine Gx.isi_str_list ?_
  | with_reducible refine Gx.isi_str_tuple ?_
  | with_reducible refine Gx.isi_NoneType_int ?_
  | with_reducible refine Gx.isi_NoneType_bool ?_
  | with_reducible refine Gx.isi_NoneType_str ?_
  | with_reducible refine Gx.isi_NoneType_list ?_
  | with_reducible refine Gx.isi_NoneType_tuple ?_
  | with_reducible refine Gx.go_bool1 ?_
  | with_reducible refine Gx.go_boolB ?_
  | with_reducible refine Gx.go_abs ?_
  | with_reducible refine Gx.go_max2 ?_
  | with_reducible refine Gx.go_min2 ?_
  | with_reducible refine Gx.go_ord ?_
  | with_reducible refine Gx.go_isN0 ?_
  | with_reducible refine Gx.go_isNI ?_
  | with_reducible refine Gx.go_isNS ?_
  | with_reducible refine Gx.go_isNB ?_
  | with_reducible refine Gx.go_isNR ?_
  | with_reducible refine Gx.go_notN0 ?_
  | with_reducible refine Gx.go_notNI ?_
  | with_reducible refine Gx.go_notNS ?_
  | with_reducible refine Gx.go_notNB ?_
  | with_reducible refine Gx.go_notNR ?_
  | with_reducible refine Gx.go_ltS ?_
  | with_reducible refine Gx.go_leS ?_
  | with_reducible refine Gx.go_BM ?_
  | with_reducible refine Gx.go_BM0 ?_
  | with_reducible refine Gx.go_not_t ?_
  | with_reducible refine Gx.go_not_f ?_
  | with_reducible refine Gx.go_iList ?_
  | with_reducible refine Gx.go_iRng1 ?_
  | with_reducible refine Gx.go_iRng2 ?_
  | with_reducible refine Gx.go_lc ?_
  | with_reducible refine Gx.go_for ?_
  | with_reducible refine Gx.go_sub ?_
  | with_reducible refine Gx.go_setL2 (by with_unfolding_all rfl) ?_
  | with_reducible refine Gx.go_ixL2 (by with_unfolding_all rfl) ?_
  | with_reducible refine Gx.go_setL (by assumption) (by with_unfolding_all rfl) ?_
  | with_reducible refine Gx.go_ixL1 (by assumption) (by with_unfolding_all rfl) ?_
  | with_reducible refine Gx.go_ixT1 (by assumption) (by with_unfolding_all rfl) ?_
  | with_reducible refine Gx.go_M1 ?_
  | with_reducible refine Gx.go_M0 ?_
  | with_reducible refine Gx.go_isS ?_
  | with_reducible refine Gx.go_iStr ?_
  | with_reducible refine Gx.sq_list_int (by assumption) ?_
  | with_reducible refine Gx.sq_list_bool (by assumption) ?_
  | with_reducible refine Gx.sq_list_str (by assumption) ?_
  | with_reducible refine Gx.sq_list_list (by assumption) ?_
  | with_reducible refine Gx.sq_list_tuple (by assumption) ?_
  | with_reducible refine Gx.sq_tuple_int (by assumption) ?_
  | with_reducible refine Gx.sq_tuple_bool (by assumption) ?_
  | with_reducible refine Gx.sq_tuple_str (by assumption) ?_
  | with_reducible refine Gx.sq_tuple_list (by assumption) ?_
  | with_reducible refine Gx.sq_tuple_tuple (by assumption) ?_
  | with_reducible refine Gx.go_fld ?_
  | with_reducible refine Gx.go_rnum (by assumption) (by assumption) (by assumption) ?_
  | with_reducible refine Gx.go_rden (by assumption) (by assumption) (by assumption) ?_
  | with_reducible refine Gx.go_make ?_
  | with_reducible refine Gx.go_meth ?_
  | with_reducible refine Gx.go_sfld ?_
  | with_reducible refine Gx.go_own (by assumption) (by assumption) ?_
  | with_reducible refine Gx.go_uOwn (by assumption) ?_
  | with_reducible refine Gx.go_gcons ?_
  | with_reducible refine Gx.go_gnil ?_
  | with_reducible refine Gx.go_brk ?_
  | with_reducible refine Gx.go_cont ?_)
local macro_rules | `(tactic| walk_at "go") => `(tactic| repeat walk_at "go1")
local macro_rules | `(tactic| walk_at "br") => `(tactic| first
  | with_reducible refine Gx.ite_d ?_ ?_
  | with_reducible refine Gx.ite_nd ?_ ?_
  | with_reducible refine Gx.ite_b ?_ ?_)
local macro_rules | `(tactic| walk_at "go1") => `(tactic| first
  | with_reducible refine Gx.go_iRng3 ?_
  | with_reducible refine Gx.go_revL ?_)
local macro_rules | `(tactic| walk_at "go1") => `(tactic| first
  | with_reducible refine Gx.go_tTr ?_
  | with_reducible refine Gx.go_dget ?_
  | with_reducible refine Gx.go_dput ?_
  | with_reducible refine Gx.go_iTup ?_
  | with_reducible refine Gx.go_dnew ?_
  | with_reducible refine Gx.go_ixT (by assumption) (by with_unfolding_all rfl) ?_
  | with_reducible refine Gx.go_ixT (by assumption) Gx.at_0 ?_
  | with_reducible refine Gx.go_ixT (by assumption) Gx.at_1 ?_
  | with_reducible refine Gx.ite_ndt ?_
  | with_reducible refine Gx.ite_df (by decide +kernel) ?_
  | with_reducible refine Gx.ite_ndf (by decide +kernel) ?_)
local macro_rules | `(tactic| walk_at "go1") => `(tactic| first
  | with_reducible refine Gx.ite_ndtI ?_
  | with_reducible refine Gx.go_tTM ?_
  | with_reducible refine Gx.go_star ?_
  | with_reducible refine Gx.go_strStr ?_)
local macro_rules | `(tactic| walk_at "go1") => `(tactic| first
  | with_reducible refine Gx.go_inC ?_
  | with_reducible refine Gx.go_niC ?_)
local macro_rules | `(tactic| walk_at "go1") => `(tactic| first
  | with_reducible refine Gx.go_raise ?_
  | with_reducible refine Gx.go_callSD ?_
  | with_reducible refine Gx.go_methSD ?_
  | with_reducible refine Gx.go_makeSD ?_
  | with_reducible refine Gx.go_xf ?_)
local macro_rules | `(tactic| walk_at "go1") => `(tactic| first
  | with_reducible refine Gx.go_prop ?_
  | with_reducible refine Gx.go_faug ?_
  | with_reducible refine Gx.go_neNS ?_
  | with_reducible refine Gx.go_eqNS ?_)
local macro_rules | `(tactic| walk_at "go1") => `(tactic| first
  | with_reducible refine Gx.go_callNSD ?_
  | with_reducible refine Gx.go_callN ?_
  | with_reducible refine Gx.go_makeK ?_)
namespace K13
open PySem PySem.Spec PyProof.Rows L2 Gx
def top (i : Nat) : Stmt := PySem.Challenge.pw_sureplay_k13_expressions_read_and_writte.main.body.getD i (.Pass ⟨0, 0, 0, 0⟩)
abbrev s_number_of : Stmt := top 7
abbrev s_Cursor___init__ : Stmt := inClass (top 8) 0
abbrev s_Cursor_word : Stmt := inClass (top 8) 1
abbrev s_Cursor_take_word : Stmt := inClass (top 8) 2
abbrev s_Cursor_take_number : Stmt := inClass (top 8) 3
abbrev s_Cursor_take_name : Stmt := inClass (top 8) 4
abbrev s_read_expression : Stmt := top 12
abbrev s_expression_words : Stmt := top 13
abbrev s__law_pool : Stmt := top 15
abbrev s__law_draw : Stmt := top 16
abbrev s__law_spend : Stmt := top 17
abbrev s__law_few : Stmt := top 18
abbrev s__law_number : Stmt := top 19
abbrev s__law_same : Stmt := top 20
abbrev s__law_keys : Stmt := top 21
abbrev s__law_name : Stmt := top 22
abbrev s__law_names : Stmt := top 23
abbrev s__law_expression : Stmt := top 24
abbrev s__law_rows : Stmt := top 25
abbrev s__law_read : Stmt := top 26
abbrev s_law : Stmt := top 27
/-- where the defs and classes stand -/
structure Ad where
  f_number_of : Addr
  d_number_of : FuncData
  f_Cursor___init__ : Addr
  d_Cursor___init__ : FuncData
  f_Cursor_word : Addr
  d_Cursor_word : FuncData
  p_Cursor_word : Addr
  f_Cursor_take_word : Addr
  d_Cursor_take_word : FuncData
  f_Cursor_take_number : Addr
  d_Cursor_take_number : FuncData
  f_Cursor_take_name : Addr
  d_Cursor_take_name : FuncData
  f_read_expression : Addr
  d_read_expression : FuncData
  f_expression_words : Addr
  d_expression_words : FuncData
  f__law_pool : Addr
  d__law_pool : FuncData
  f__law_draw : Addr
  d__law_draw : FuncData
  f__law_spend : Addr
  d__law_spend : FuncData
  f__law_few : Addr
  d__law_few : FuncData
  f__law_number : Addr
  d__law_number : FuncData
  f__law_same : Addr
  d__law_same : FuncData
  f__law_keys : Addr
  d__law_keys : FuncData
  f__law_name : Addr
  d__law_name : FuncData
  f__law_names : Addr
  d__law_names : FuncData
  f__law_expression : Addr
  d__law_expression : FuncData
  f__law_rows : Addr
  d__law_rows : FuncData
  f__law_read : Addr
  d__law_read : FuncData
  f_law : Addr
  d_law : FuncData
  c_Cursor : Addr
  c_BadText : Addr
  i_BadText : Addr
  c_GameError : Addr
  k_SIGNS : Addr
  e_o : Addr
  e_v : Addr
/-- what the top has left -/
structure Txt (P : Program) (K : PySem.W.Frag) (mg : Str → Option Value) (A : Ad) : Prop where
  F_number_of : Fun K "number_of" "number_of" s_number_of A.f_number_of A.d_number_of
  b_number_of : Binds K A.d_number_of ["word"] []
  m_number_of : mg "number_of" = some (.ref A.f_number_of)
  F_Cursor___init__ : FunD K "__init__" "Cursor.__init__" (defArgs s_Cursor___init__) (defBody s_Cursor___init__) (defScope s_Cursor___init__) [] [("options", .ref A.e_o), ("variables", .ref A.e_v), ("sees", .bl false)] A.f_Cursor___init__ A.d_Cursor___init__
  b_Cursor___init___3 : ∃ ds, Vals [.ref A.e_o, .ref A.e_v, .bl false] ds ∧ Binds K A.d_Cursor___init__ ["self", "words", "options", "variables", "sees"] ds
  kb_Cursor___init___options_variables_sees : ∃ g, KBn K A.d_Cursor___init__ ["self", "words", "options", "variables", "sees"] 2 ["options", "variables", "sees"] g (fun vs zs => vs ++ ([] ++ zs))
  mk_Cursor : Mk K A.c_Cursor A.f_Cursor___init__
  F_Cursor_word : Fun K "word" "Cursor.word" s_Cursor_word A.f_Cursor_word A.d_Cursor_word
  b_Cursor_word : Binds K A.d_Cursor_word ["self"] []
  pr_Cursor_word : PropOf K A.c_Cursor "word" A.p_Cursor_word A.f_Cursor_word
  F_Cursor_take_word : Fun K "take_word" "Cursor.take_word" s_Cursor_take_word A.f_Cursor_take_word A.d_Cursor_take_word
  b_Cursor_take_word : Binds K A.d_Cursor_take_word ["self", "word"] []
  me_Cursor_take_word : Meth K A.c_Cursor "take_word" A.f_Cursor_take_word
  F_Cursor_take_number : Fun K "take_number" "Cursor.take_number" s_Cursor_take_number A.f_Cursor_take_number A.d_Cursor_take_number
  b_Cursor_take_number : Binds K A.d_Cursor_take_number ["self", "least", "most"] []
  me_Cursor_take_number : Meth K A.c_Cursor "take_number" A.f_Cursor_take_number
  F_Cursor_take_name : Fun K "take_name" "Cursor.take_name" s_Cursor_take_name A.f_Cursor_take_name A.d_Cursor_take_name
  b_Cursor_take_name : Binds K A.d_Cursor_take_name ["self", "names"] []
  me_Cursor_take_name : Meth K A.c_Cursor "take_name" A.f_Cursor_take_name
  F_read_expression : FunD K "read_expression" "read_expression" (defArgs s_read_expression) (defBody s_read_expression) (defScope s_read_expression) [] [("room", .int 12)] A.f_read_expression A.d_read_expression
  b_read_expression_1 : ∃ ds, Vals [.int 12] ds ∧ Binds K A.d_read_expression ["cursor", "room"] ds
  kb_read_expression_room : ∃ g, KBn K A.d_read_expression ["cursor", "room"] 1 ["room"] g (fun vs zs => vs ++ ([] ++ zs))
  m_read_expression : mg "read_expression" = some (.ref A.f_read_expression)
  F_expression_words : Fun K "expression_words" "expression_words" s_expression_words A.f_expression_words A.d_expression_words
  b_expression_words : Binds K A.d_expression_words ["expression"] []
  m_expression_words : mg "expression_words" = some (.ref A.f_expression_words)
  F__law_pool : Fun K "_law_pool" "_law_pool" s__law_pool A.f__law_pool A.d__law_pool
  b__law_pool : Binds K A.d__law_pool ["_law_script", "_law_budget"] []
  m__law_pool : mg "_law_pool" = some (.ref A.f__law_pool)
  F__law_draw : Fun K "_law_draw" "_law_draw" s__law_draw A.f__law_draw A.d__law_draw
  b__law_draw : Binds K A.d__law_draw ["_law_pool_here", "_law_size"] []
  m__law_draw : mg "_law_draw" = some (.ref A.f__law_draw)
  F__law_spend : Fun K "_law_spend" "_law_spend" s__law_spend A.f__law_spend A.d__law_spend
  b__law_spend : Binds K A.d__law_spend ["_law_pool_here"] []
  m__law_spend : mg "_law_spend" = some (.ref A.f__law_spend)
  F__law_few : Fun K "_law_few" "_law_few" s__law_few A.f__law_few A.d__law_few
  b__law_few : Binds K A.d__law_few ["_law_pool_here", "_law_most"] []
  m__law_few : mg "_law_few" = some (.ref A.f__law_few)
  F__law_number : Fun K "_law_number" "_law_number" s__law_number A.f__law_number A.d__law_number
  b__law_number : Binds K A.d__law_number ["_law_pool_here"] []
  m__law_number : mg "_law_number" = some (.ref A.f__law_number)
  F__law_same : Fun K "_law_same" "_law_same" s__law_same A.f__law_same A.d__law_same
  b__law_same : Binds K A.d__law_same ["_law_actual", "_law_due"] []
  m__law_same : mg "_law_same" = some (.ref A.f__law_same)
  F__law_keys : Fun K "_law_keys" "_law_keys" s__law_keys A.f__law_keys A.d__law_keys
  b__law_keys : Binds K A.d__law_keys [] []
  m__law_keys : mg "_law_keys" = some (.ref A.f__law_keys)
  F__law_name : Fun K "_law_name" "_law_name" s__law_name A.f__law_name A.d__law_name
  b__law_name : Binds K A.d__law_name ["_law_pool_here", "_law_taken"] []
  m__law_name : mg "_law_name" = some (.ref A.f__law_name)
  F__law_names : Fun K "_law_names" "_law_names" s__law_names A.f__law_names A.d__law_names
  b__law_names : Binds K A.d__law_names ["_law_pool_here", "_law_most"] []
  m__law_names : mg "_law_names" = some (.ref A.f__law_names)
  F__law_expression : Fun K "_law_expression" "_law_expression" s__law_expression A.f__law_expression A.d__law_expression
  b__law_expression : Binds K A.d__law_expression ["_law_pool_here", "_law_names_here", "_law_picks", "_law_brain", "_law_deep"] []
  m__law_expression : mg "_law_expression" = some (.ref A.f__law_expression)
  F__law_rows : Fun K "_law_rows" "_law_rows" s__law_rows A.f__law_rows A.d__law_rows
  b__law_rows : Binds K A.d__law_rows ["_law_due", "_law_level"] []
  m__law_rows : mg "_law_rows" = some (.ref A.f__law_rows)
  F__law_read : Fun K "_law_read" "_law_read" s__law_read A.f__law_read A.d__law_read
  b__law_read : Binds K A.d__law_read ["_law_cursor", "_law_bound"] []
  m__law_read : mg "_law_read" = some (.ref A.f__law_read)
  F_law : Fun K "law" "law" s_law A.f_law A.d_law
  b_law : Binds K A.d_law ["_law_script"] []
  m_law : mg "law" = some (.ref A.f_law)
  m_Cursor : mg "Cursor" = some (.ref A.c_Cursor)
  cl_Cursor : Cls K A.c_Cursor
  na_Cursor_words : NoAttr K A.c_Cursor "words"
  na_Cursor_options : NoAttr K A.c_Cursor "options"
  na_Cursor_variables : NoAttr K A.c_Cursor "variables"
  na_Cursor_sees : NoAttr K A.c_Cursor "sees"
  na_Cursor_at : NoAttr K A.c_Cursor "at"
  na_Cursor_moves : NoAttr K A.c_Cursor "moves"
  na_Cursor_branchings : NoAttr K A.c_Cursor "branchings"
  m_BadText : mg "BadText" = some (.ref A.c_BadText)
  er_BadText : ErX.ErrT P K mg A.c_BadText A.i_BadText "at" "at"
  xf_BadText : XfC K A.c_BadText
  te_BadText : PySem.W.exmOne K (.ref A.c_BadText) (.ref A.c_BadText) = some true
  xd_BadText : ExD K A.c_BadText
  m_GameError : mg "GameError" = some (.ref A.c_GameError)
  ki_ge : PySem.W.kitOne K (.ref A.c_BadText) (.ref A.c_GameError) = some true
  n_int : mg "int" = none
  n_len : mg "len" = none
  n_str : mg "str" = none
  n_list : mg "list" = none
  n_min : mg "min" = none
  n_isinstance : mg "isinstance" = none
  n_tuple : mg "tuple" = none
  n_range : mg "range" = none
  n_bool : mg "bool" = none
  v_DIGITS : ∃ t, mg "DIGITS" = some (.str "0123456789" t)
  v_GREATEST : ∃ t, mg "GREATEST" = some (.int 65535 t)
  m_SIGNS : mg "SIGNS" = some (.ref A.k_SIGNS)
  kl_SIGNS : ∃ ob, K.lookup A.k_SIGNS = some ob ∧ ob.cls = .type "tuple" ∧ ob.dict = none
  kt_SIGNS : ∀ H : Hp, SqT K H A.k_SIGNS [(.str "+"), (.str "-"), (.str "*"), (.str "/"), (.str "mod"), (.str "<"), (.str "=")]
  v_DEEPEST_EXPRESSION : ∃ t, mg "DEEPEST_EXPRESSION" = some (.int 12 t)
  et_o : ∀ H : Hp, SqT K H A.e_o []
  et_v : ∀ H : Hp, SqT K H A.e_v []
theorem sc_number_of : FnScope ["word", "char", "number"] ["word"] (defScope s_number_of) := ⟨rfl, rfl, rfl, by decide +kernel, rfl, by decide +kernel, by decide +kernel⟩
theorem sc_Cursor___init__ : FnScope ["self", "words", "options", "variables", "sees"] ["self", "words", "options", "variables", "sees"] (defScope s_Cursor___init__) := ⟨rfl, rfl, rfl, by decide +kernel, rfl, by decide +kernel, by decide +kernel⟩
theorem sc_Cursor_word : FnScope ["self"] ["self"] (defScope s_Cursor_word) := ⟨rfl, rfl, rfl, by decide +kernel, rfl, by decide +kernel, by decide +kernel⟩
theorem sc_Cursor_take_word : FnScope ["self", "word"] ["self", "word"] (defScope s_Cursor_take_word) := ⟨rfl, rfl, rfl, by decide +kernel, rfl, by decide +kernel, by decide +kernel⟩
theorem sc_Cursor_take_number : FnScope ["self", "least", "most", "word", "number"] ["self", "least", "most"] (defScope s_Cursor_take_number) := ⟨rfl, rfl, rfl, by decide +kernel, rfl, by decide +kernel, by decide +kernel⟩
theorem sc_Cursor_take_name : FnScope ["self", "names", "word"] ["self", "names"] (defScope s_Cursor_take_name) := ⟨rfl, rfl, rfl, by decide +kernel, rfl, by decide +kernel, by decide +kernel⟩
theorem sc_read_expression : FnScope ["cursor", "room", "word", "left", "right", "option"] ["cursor", "room"] (defScope s_read_expression) := ⟨rfl, rfl, rfl, by decide +kernel, rfl, by decide +kernel, by decide +kernel⟩
theorem sc_expression_words : FnScope ["expression", "kind", "words"] ["expression"] (defScope s_expression_words) := ⟨rfl, rfl, rfl, by decide +kernel, rfl, by decide +kernel, by decide +kernel⟩
theorem sc__law_pool : FnScope ["_law_script", "_law_budget"] ["_law_script", "_law_budget"] (defScope s__law_pool) := ⟨rfl, rfl, rfl, by decide +kernel, rfl, by decide +kernel, by decide +kernel⟩
theorem sc__law_draw : FnScope ["_law_pool_here", "_law_size", "_law_cell", "_law_value"] ["_law_pool_here", "_law_size"] (defScope s__law_draw) := ⟨rfl, rfl, rfl, by decide +kernel, rfl, by decide +kernel, by decide +kernel⟩
theorem sc__law_spend : FnScope ["_law_pool_here"] ["_law_pool_here"] (defScope s__law_spend) := ⟨rfl, rfl, rfl, by decide +kernel, rfl, by decide +kernel, by decide +kernel⟩
theorem sc__law_few : FnScope ["_law_pool_here", "_law_most", "_law_few_here"] ["_law_pool_here", "_law_most"] (defScope s__law_few) := ⟨rfl, rfl, rfl, by decide +kernel, rfl, by decide +kernel, by decide +kernel⟩
theorem sc__law_number : FnScope ["_law_pool_here"] ["_law_pool_here"] (defScope s__law_number) := ⟨rfl, rfl, rfl, by decide +kernel, rfl, by decide +kernel, by decide +kernel⟩
theorem sc__law_same : FnScope ["_law_actual", "_law_due", "_law_k"] ["_law_actual", "_law_due"] (defScope s__law_same) := ⟨rfl, rfl, rfl, by decide +kernel, rfl, by decide +kernel, by decide +kernel⟩
theorem sc__law_keys : FnScope ["_law_text"] [] (defScope s__law_keys) := ⟨rfl, rfl, rfl, by decide +kernel, rfl, by decide +kernel, by decide +kernel⟩
theorem sc__law_name : FnScope ["_law_pool_here", "_law_taken", "_law_signs", "_law_name_here", "_law_k"] ["_law_pool_here", "_law_taken"] (defScope s__law_name) := ⟨rfl, rfl, rfl, by decide +kernel, rfl, by decide +kernel, by decide +kernel⟩
theorem sc__law_names : FnScope ["_law_pool_here", "_law_most", "_law_names_here", "_law_k"] ["_law_pool_here", "_law_most"] (defScope s__law_names) := ⟨rfl, rfl, rfl, by decide +kernel, rfl, by decide +kernel, by decide +kernel⟩
theorem sc__law_expression : FnScope ["_law_pool_here", "_law_names_here", "_law_picks", "_law_brain", "_law_deep", "_law_kind", "_law_pick", "_law_left", "_law_sign"] ["_law_pool_here", "_law_names_here", "_law_picks", "_law_brain", "_law_deep"] (defScope s__law_expression) := ⟨rfl, rfl, rfl, by decide +kernel, rfl, by decide +kernel, by decide +kernel⟩
theorem sc__law_rows : FnScope ["_law_due", "_law_level"] ["_law_due", "_law_level"] (defScope s__law_rows) := ⟨rfl, rfl, rfl, by decide +kernel, rfl, by decide +kernel, by decide +kernel⟩
theorem sc__law_read : FnScope ["_law_cursor", "_law_bound", "e"] ["_law_cursor", "_law_bound"] (defScope s__law_read) := ⟨rfl, rfl, rfl, by decide +kernel, rfl, by decide +kernel, by decide +kernel⟩
theorem sc_law : FnScope ["_law_script", "_law_pool_here", "_law_brain", "_law_names_here", "_law_picks", "_law_due", "_law_rows_here", "_law_words", "_law_before", "_law_behind", "_law_bound", "_law_cursor", "_law_word", "_law_actual", "_law_k", "_law_row"] ["_law_script"] (defScope s_law) := ⟨rfl, rfl, rfl, by decide +kernel, rfl, by decide +kernel, by decide +kernel⟩
def F_Cursor (x0 x1 x2 x3 x4 x5 x6 : V) : List (Str × V) := [("words", x0), ("options", x1), ("variables", x2), ("sees", x3), ("at", x4), ("moves", x5), ("branchings", x6)]
theorem F_Cursor_words {x0 x1 x2 x3 x4 x5 x6 : V} : (F_Cursor x0 x1 x2 x3 x4 x5 x6).lookup ("words" : Str) = some x0 := by
  unfold F_Cursor;  rw [List.lookup_cons, beq_self_eq_true]
theorem go_F_Cursor_words {K : PySem.W.Frag} {H : Hp} {Q : VK} {a C dx : Addr} {x0 x1 x2 x3 x4 x5 x6 : V} (e : H a = some (.ins C dx (F_Cursor x0 x1 x2 x3 x4 x5 x6))) (c : Cls K C) (n : NoAttr K C "words") (h : Q x0 H) : qFld K "words" Q (.ref a) H := go_fldV e c n F_Cursor_words h
theorem F_Cursor_put_words {x0 x1 x2 x3 x4 x5 x6 y : V} : putF "words" y (F_Cursor x0 x1 x2 x3 x4 x5 x6) = F_Cursor y x1 x2 x3 x4 x5 x6 := by
  unfold F_Cursor
  simp only [putF, if_true]
theorem F_Cursor_options {x0 x1 x2 x3 x4 x5 x6 : V} : (F_Cursor x0 x1 x2 x3 x4 x5 x6).lookup ("options" : Str) = some x1 := by
  unfold F_Cursor; rw [List.lookup_cons, show ((PySem.Str.ofString "options") == (PySem.Str.ofString "words")) = false by decide +kernel]; rw [List.lookup_cons, beq_self_eq_true]
theorem go_F_Cursor_options {K : PySem.W.Frag} {H : Hp} {Q : VK} {a C dx : Addr} {x0 x1 x2 x3 x4 x5 x6 : V} (e : H a = some (.ins C dx (F_Cursor x0 x1 x2 x3 x4 x5 x6))) (c : Cls K C) (n : NoAttr K C "options") (h : Q x1 H) : qFld K "options" Q (.ref a) H := go_fldV e c n F_Cursor_options h
theorem F_Cursor_put_options {x0 x1 x2 x3 x4 x5 x6 y : V} : putF "options" y (F_Cursor x0 x1 x2 x3 x4 x5 x6) = F_Cursor x0 y x2 x3 x4 x5 x6 := by
  unfold F_Cursor
  simp only [putF, if_true, show ¬ ((PySem.Str.ofString "words") = (PySem.Str.ofString "options")) by decide +kernel, if_false]
theorem F_Cursor_variables {x0 x1 x2 x3 x4 x5 x6 : V} : (F_Cursor x0 x1 x2 x3 x4 x5 x6).lookup ("variables" : Str) = some x2 := by
  unfold F_Cursor; rw [List.lookup_cons, show ((PySem.Str.ofString "variables") == (PySem.Str.ofString "words")) = false by decide +kernel]; rw [List.lookup_cons, show ((PySem.Str.ofString "variables") == (PySem.Str.ofString "options")) = false by decide +kernel]; rw [List.lookup_cons, beq_self_eq_true]
theorem go_F_Cursor_variables {K : PySem.W.Frag} {H : Hp} {Q : VK} {a C dx : Addr} {x0 x1 x2 x3 x4 x5 x6 : V} (e : H a = some (.ins C dx (F_Cursor x0 x1 x2 x3 x4 x5 x6))) (c : Cls K C) (n : NoAttr K C "variables") (h : Q x2 H) : qFld K "variables" Q (.ref a) H := go_fldV e c n F_Cursor_variables h
theorem F_Cursor_put_variables {x0 x1 x2 x3 x4 x5 x6 y : V} : putF "variables" y (F_Cursor x0 x1 x2 x3 x4 x5 x6) = F_Cursor x0 x1 y x3 x4 x5 x6 := by
  unfold F_Cursor
  simp only [putF, if_true, show ¬ ((PySem.Str.ofString "words") = (PySem.Str.ofString "variables")) by decide +kernel, show ¬ ((PySem.Str.ofString "options") = (PySem.Str.ofString "variables")) by decide +kernel, if_false]
theorem F_Cursor_sees {x0 x1 x2 x3 x4 x5 x6 : V} : (F_Cursor x0 x1 x2 x3 x4 x5 x6).lookup ("sees" : Str) = some x3 := by
  unfold F_Cursor; rw [List.lookup_cons, show ((PySem.Str.ofString "sees") == (PySem.Str.ofString "words")) = false by decide +kernel]; rw [List.lookup_cons, show ((PySem.Str.ofString "sees") == (PySem.Str.ofString "options")) = false by decide +kernel]; rw [List.lookup_cons, show ((PySem.Str.ofString "sees") == (PySem.Str.ofString "variables")) = false by decide +kernel]; rw [List.lookup_cons, beq_self_eq_true]
theorem go_F_Cursor_sees {K : PySem.W.Frag} {H : Hp} {Q : VK} {a C dx : Addr} {x0 x1 x2 x3 x4 x5 x6 : V} (e : H a = some (.ins C dx (F_Cursor x0 x1 x2 x3 x4 x5 x6))) (c : Cls K C) (n : NoAttr K C "sees") (h : Q x3 H) : qFld K "sees" Q (.ref a) H := go_fldV e c n F_Cursor_sees h
theorem F_Cursor_put_sees {x0 x1 x2 x3 x4 x5 x6 y : V} : putF "sees" y (F_Cursor x0 x1 x2 x3 x4 x5 x6) = F_Cursor x0 x1 x2 y x4 x5 x6 := by
  unfold F_Cursor
  simp only [putF, if_true, show ¬ ((PySem.Str.ofString "words") = (PySem.Str.ofString "sees")) by decide +kernel, show ¬ ((PySem.Str.ofString "options") = (PySem.Str.ofString "sees")) by decide +kernel, show ¬ ((PySem.Str.ofString "variables") = (PySem.Str.ofString "sees")) by decide +kernel, if_false]
theorem F_Cursor_at {x0 x1 x2 x3 x4 x5 x6 : V} : (F_Cursor x0 x1 x2 x3 x4 x5 x6).lookup ("at" : Str) = some x4 := by
  unfold F_Cursor; rw [List.lookup_cons, show ((PySem.Str.ofString "at") == (PySem.Str.ofString "words")) = false by decide +kernel]; rw [List.lookup_cons, show ((PySem.Str.ofString "at") == (PySem.Str.ofString "options")) = false by decide +kernel]; rw [List.lookup_cons, show ((PySem.Str.ofString "at") == (PySem.Str.ofString "variables")) = false by decide +kernel]; rw [List.lookup_cons, show ((PySem.Str.ofString "at") == (PySem.Str.ofString "sees")) = false by decide +kernel]; rw [List.lookup_cons, beq_self_eq_true]
theorem go_F_Cursor_at {K : PySem.W.Frag} {H : Hp} {Q : VK} {a C dx : Addr} {x0 x1 x2 x3 x4 x5 x6 : V} (e : H a = some (.ins C dx (F_Cursor x0 x1 x2 x3 x4 x5 x6))) (c : Cls K C) (n : NoAttr K C "at") (h : Q x4 H) : qFld K "at" Q (.ref a) H := go_fldV e c n F_Cursor_at h
theorem F_Cursor_put_at {x0 x1 x2 x3 x4 x5 x6 y : V} : putF "at" y (F_Cursor x0 x1 x2 x3 x4 x5 x6) = F_Cursor x0 x1 x2 x3 y x5 x6 := by
  unfold F_Cursor
  simp only [putF, if_true, show ¬ ((PySem.Str.ofString "words") = (PySem.Str.ofString "at")) by decide +kernel, show ¬ ((PySem.Str.ofString "options") = (PySem.Str.ofString "at")) by decide +kernel, show ¬ ((PySem.Str.ofString "variables") = (PySem.Str.ofString "at")) by decide +kernel, show ¬ ((PySem.Str.ofString "sees") = (PySem.Str.ofString "at")) by decide +kernel, if_false]
theorem F_Cursor_moves {x0 x1 x2 x3 x4 x5 x6 : V} : (F_Cursor x0 x1 x2 x3 x4 x5 x6).lookup ("moves" : Str) = some x5 := by
  unfold F_Cursor; rw [List.lookup_cons, show ((PySem.Str.ofString "moves") == (PySem.Str.ofString "words")) = false by decide +kernel]; rw [List.lookup_cons, show ((PySem.Str.ofString "moves") == (PySem.Str.ofString "options")) = false by decide +kernel]; rw [List.lookup_cons, show ((PySem.Str.ofString "moves") == (PySem.Str.ofString "variables")) = false by decide +kernel]; rw [List.lookup_cons, show ((PySem.Str.ofString "moves") == (PySem.Str.ofString "sees")) = false by decide +kernel]; rw [List.lookup_cons, show ((PySem.Str.ofString "moves") == (PySem.Str.ofString "at")) = false by decide +kernel]; rw [List.lookup_cons, beq_self_eq_true]
theorem go_F_Cursor_moves {K : PySem.W.Frag} {H : Hp} {Q : VK} {a C dx : Addr} {x0 x1 x2 x3 x4 x5 x6 : V} (e : H a = some (.ins C dx (F_Cursor x0 x1 x2 x3 x4 x5 x6))) (c : Cls K C) (n : NoAttr K C "moves") (h : Q x5 H) : qFld K "moves" Q (.ref a) H := go_fldV e c n F_Cursor_moves h
theorem F_Cursor_put_moves {x0 x1 x2 x3 x4 x5 x6 y : V} : putF "moves" y (F_Cursor x0 x1 x2 x3 x4 x5 x6) = F_Cursor x0 x1 x2 x3 x4 y x6 := by
  unfold F_Cursor
  simp only [putF, if_true, show ¬ ((PySem.Str.ofString "words") = (PySem.Str.ofString "moves")) by decide +kernel, show ¬ ((PySem.Str.ofString "options") = (PySem.Str.ofString "moves")) by decide +kernel, show ¬ ((PySem.Str.ofString "variables") = (PySem.Str.ofString "moves")) by decide +kernel, show ¬ ((PySem.Str.ofString "sees") = (PySem.Str.ofString "moves")) by decide +kernel, show ¬ ((PySem.Str.ofString "at") = (PySem.Str.ofString "moves")) by decide +kernel, if_false]
theorem F_Cursor_branchings {x0 x1 x2 x3 x4 x5 x6 : V} : (F_Cursor x0 x1 x2 x3 x4 x5 x6).lookup ("branchings" : Str) = some x6 := by
  unfold F_Cursor; rw [List.lookup_cons, show ((PySem.Str.ofString "branchings") == (PySem.Str.ofString "words")) = false by decide +kernel]; rw [List.lookup_cons, show ((PySem.Str.ofString "branchings") == (PySem.Str.ofString "options")) = false by decide +kernel]; rw [List.lookup_cons, show ((PySem.Str.ofString "branchings") == (PySem.Str.ofString "variables")) = false by decide +kernel]; rw [List.lookup_cons, show ((PySem.Str.ofString "branchings") == (PySem.Str.ofString "sees")) = false by decide +kernel]; rw [List.lookup_cons, show ((PySem.Str.ofString "branchings") == (PySem.Str.ofString "at")) = false by decide +kernel]; rw [List.lookup_cons, show ((PySem.Str.ofString "branchings") == (PySem.Str.ofString "moves")) = false by decide +kernel]; rw [List.lookup_cons, beq_self_eq_true]
theorem go_F_Cursor_branchings {K : PySem.W.Frag} {H : Hp} {Q : VK} {a C dx : Addr} {x0 x1 x2 x3 x4 x5 x6 : V} (e : H a = some (.ins C dx (F_Cursor x0 x1 x2 x3 x4 x5 x6))) (c : Cls K C) (n : NoAttr K C "branchings") (h : Q x6 H) : qFld K "branchings" Q (.ref a) H := go_fldV e c n F_Cursor_branchings h
theorem F_Cursor_put_branchings {x0 x1 x2 x3 x4 x5 x6 y : V} : putF "branchings" y (F_Cursor x0 x1 x2 x3 x4 x5 x6) = F_Cursor x0 x1 x2 x3 x4 x5 y := by
  unfold F_Cursor
  simp only [putF, if_true, show ¬ ((PySem.Str.ofString "words") = (PySem.Str.ofString "branchings")) by decide +kernel, show ¬ ((PySem.Str.ofString "options") = (PySem.Str.ofString "branchings")) by decide +kernel, show ¬ ((PySem.Str.ofString "variables") = (PySem.Str.ofString "branchings")) by decide +kernel, show ¬ ((PySem.Str.ofString "sees") = (PySem.Str.ofString "branchings")) by decide +kernel, show ¬ ((PySem.Str.ofString "at") = (PySem.Str.ofString "branchings")) by decide +kernel, show ¬ ((PySem.Str.ofString "moves") = (PySem.Str.ofString "branchings")) by decide +kernel, if_false]
theorem F_Cursor_made {x0 x1 x2 x3 x4 x5 x6 : V} : (putF "branchings" x6 (putF "moves" x5 (putF "at" x4 (putF "sees" x3 (putF "variables" x2 (putF "options" x1 (putF "words" x0 []))))))) = F_Cursor x0 x1 x2 x3 x4 x5 x6 := by
  unfold F_Cursor
  simp only [putF, show ¬ ((PySem.Str.ofString "words") = (PySem.Str.ofString "options")) by decide +kernel, show ¬ ((PySem.Str.ofString "words") = (PySem.Str.ofString "variables")) by decide +kernel, show ¬ ((PySem.Str.ofString "options") = (PySem.Str.ofString "variables")) by decide +kernel, show ¬ ((PySem.Str.ofString "words") = (PySem.Str.ofString "sees")) by decide +kernel, show ¬ ((PySem.Str.ofString "options") = (PySem.Str.ofString "sees")) by decide +kernel, show ¬ ((PySem.Str.ofString "variables") = (PySem.Str.ofString "sees")) by decide +kernel, show ¬ ((PySem.Str.ofString "words") = (PySem.Str.ofString "at")) by decide +kernel, show ¬ ((PySem.Str.ofString "options") = (PySem.Str.ofString "at")) by decide +kernel, show ¬ ((PySem.Str.ofString "variables") = (PySem.Str.ofString "at")) by decide +kernel, show ¬ ((PySem.Str.ofString "sees") = (PySem.Str.ofString "at")) by decide +kernel, show ¬ ((PySem.Str.ofString "words") = (PySem.Str.ofString "moves")) by decide +kernel, show ¬ ((PySem.Str.ofString "options") = (PySem.Str.ofString "moves")) by decide +kernel, show ¬ ((PySem.Str.ofString "variables") = (PySem.Str.ofString "moves")) by decide +kernel, show ¬ ((PySem.Str.ofString "sees") = (PySem.Str.ofString "moves")) by decide +kernel, show ¬ ((PySem.Str.ofString "at") = (PySem.Str.ofString "moves")) by decide +kernel, show ¬ ((PySem.Str.ofString "words") = (PySem.Str.ofString "branchings")) by decide +kernel, show ¬ ((PySem.Str.ofString "options") = (PySem.Str.ofString "branchings")) by decide +kernel, show ¬ ((PySem.Str.ofString "variables") = (PySem.Str.ofString "branchings")) by decide +kernel, show ¬ ((PySem.Str.ofString "sees") = (PySem.Str.ofString "branchings")) by decide +kernel, show ¬ ((PySem.Str.ofString "at") = (PySem.Str.ofString "branchings")) by decide +kernel, show ¬ ((PySem.Str.ofString "moves") = (PySem.Str.ofString "branchings")) by decide +kernel, if_false]
theorem F_Cursor_no___init__ {x0 x1 x2 x3 x4 x5 x6 : V} : (F_Cursor x0 x1 x2 x3 x4 x5 x6).lookup ("__init__" : Str) = none := by
  unfold F_Cursor; rw [List.lookup_cons, show ((PySem.Str.ofString "__init__") == (PySem.Str.ofString "words")) = false by decide +kernel]; rw [List.lookup_cons, show ((PySem.Str.ofString "__init__") == (PySem.Str.ofString "options")) = false by decide +kernel]; rw [List.lookup_cons, show ((PySem.Str.ofString "__init__") == (PySem.Str.ofString "variables")) = false by decide +kernel]; rw [List.lookup_cons, show ((PySem.Str.ofString "__init__") == (PySem.Str.ofString "sees")) = false by decide +kernel]; rw [List.lookup_cons, show ((PySem.Str.ofString "__init__") == (PySem.Str.ofString "at")) = false by decide +kernel]; rw [List.lookup_cons, show ((PySem.Str.ofString "__init__") == (PySem.Str.ofString "moves")) = false by decide +kernel]; rw [List.lookup_cons, show ((PySem.Str.ofString "__init__") == (PySem.Str.ofString "branchings")) = false by decide +kernel]; rfl
theorem F_Cursor_no_word {x0 x1 x2 x3 x4 x5 x6 : V} : (F_Cursor x0 x1 x2 x3 x4 x5 x6).lookup ("word" : Str) = none := by
  unfold F_Cursor; rw [List.lookup_cons, show ((PySem.Str.ofString "word") == (PySem.Str.ofString "words")) = false by decide +kernel]; rw [List.lookup_cons, show ((PySem.Str.ofString "word") == (PySem.Str.ofString "options")) = false by decide +kernel]; rw [List.lookup_cons, show ((PySem.Str.ofString "word") == (PySem.Str.ofString "variables")) = false by decide +kernel]; rw [List.lookup_cons, show ((PySem.Str.ofString "word") == (PySem.Str.ofString "sees")) = false by decide +kernel]; rw [List.lookup_cons, show ((PySem.Str.ofString "word") == (PySem.Str.ofString "at")) = false by decide +kernel]; rw [List.lookup_cons, show ((PySem.Str.ofString "word") == (PySem.Str.ofString "moves")) = false by decide +kernel]; rw [List.lookup_cons, show ((PySem.Str.ofString "word") == (PySem.Str.ofString "branchings")) = false by decide +kernel]; rfl
theorem F_Cursor_no_take_word {x0 x1 x2 x3 x4 x5 x6 : V} : (F_Cursor x0 x1 x2 x3 x4 x5 x6).lookup ("take_word" : Str) = none := by
  unfold F_Cursor; rw [List.lookup_cons, show ((PySem.Str.ofString "take_word") == (PySem.Str.ofString "words")) = false by decide +kernel]; rw [List.lookup_cons, show ((PySem.Str.ofString "take_word") == (PySem.Str.ofString "options")) = false by decide +kernel]; rw [List.lookup_cons, show ((PySem.Str.ofString "take_word") == (PySem.Str.ofString "variables")) = false by decide +kernel]; rw [List.lookup_cons, show ((PySem.Str.ofString "take_word") == (PySem.Str.ofString "sees")) = false by decide +kernel]; rw [List.lookup_cons, show ((PySem.Str.ofString "take_word") == (PySem.Str.ofString "at")) = false by decide +kernel]; rw [List.lookup_cons, show ((PySem.Str.ofString "take_word") == (PySem.Str.ofString "moves")) = false by decide +kernel]; rw [List.lookup_cons, show ((PySem.Str.ofString "take_word") == (PySem.Str.ofString "branchings")) = false by decide +kernel]; rfl
theorem F_Cursor_no_take_number {x0 x1 x2 x3 x4 x5 x6 : V} : (F_Cursor x0 x1 x2 x3 x4 x5 x6).lookup ("take_number" : Str) = none := by
  unfold F_Cursor; rw [List.lookup_cons, show ((PySem.Str.ofString "take_number") == (PySem.Str.ofString "words")) = false by decide +kernel]; rw [List.lookup_cons, show ((PySem.Str.ofString "take_number") == (PySem.Str.ofString "options")) = false by decide +kernel]; rw [List.lookup_cons, show ((PySem.Str.ofString "take_number") == (PySem.Str.ofString "variables")) = false by decide +kernel]; rw [List.lookup_cons, show ((PySem.Str.ofString "take_number") == (PySem.Str.ofString "sees")) = false by decide +kernel]; rw [List.lookup_cons, show ((PySem.Str.ofString "take_number") == (PySem.Str.ofString "at")) = false by decide +kernel]; rw [List.lookup_cons, show ((PySem.Str.ofString "take_number") == (PySem.Str.ofString "moves")) = false by decide +kernel]; rw [List.lookup_cons, show ((PySem.Str.ofString "take_number") == (PySem.Str.ofString "branchings")) = false by decide +kernel]; rfl
theorem F_Cursor_no_take_name {x0 x1 x2 x3 x4 x5 x6 : V} : (F_Cursor x0 x1 x2 x3 x4 x5 x6).lookup ("take_name" : Str) = none := by
  unfold F_Cursor; rw [List.lookup_cons, show ((PySem.Str.ofString "take_name") == (PySem.Str.ofString "words")) = false by decide +kernel]; rw [List.lookup_cons, show ((PySem.Str.ofString "take_name") == (PySem.Str.ofString "options")) = false by decide +kernel]; rw [List.lookup_cons, show ((PySem.Str.ofString "take_name") == (PySem.Str.ofString "variables")) = false by decide +kernel]; rw [List.lookup_cons, show ((PySem.Str.ofString "take_name") == (PySem.Str.ofString "sees")) = false by decide +kernel]; rw [List.lookup_cons, show ((PySem.Str.ofString "take_name") == (PySem.Str.ofString "at")) = false by decide +kernel]; rw [List.lookup_cons, show ((PySem.Str.ofString "take_name") == (PySem.Str.ofString "moves")) = false by decide +kernel]; rw [List.lookup_cons, show ((PySem.Str.ofString "take_name") == (PySem.Str.ofString "branchings")) = false by decide +kernel]; rfl
theorem F_Cursor_no_take_new_name {x0 x1 x2 x3 x4 x5 x6 : V} : (F_Cursor x0 x1 x2 x3 x4 x5 x6).lookup ("take_new_name" : Str) = none := by
  unfold F_Cursor; rw [List.lookup_cons, show ((PySem.Str.ofString "take_new_name") == (PySem.Str.ofString "words")) = false by decide +kernel]; rw [List.lookup_cons, show ((PySem.Str.ofString "take_new_name") == (PySem.Str.ofString "options")) = false by decide +kernel]; rw [List.lookup_cons, show ((PySem.Str.ofString "take_new_name") == (PySem.Str.ofString "variables")) = false by decide +kernel]; rw [List.lookup_cons, show ((PySem.Str.ofString "take_new_name") == (PySem.Str.ofString "sees")) = false by decide +kernel]; rw [List.lookup_cons, show ((PySem.Str.ofString "take_new_name") == (PySem.Str.ofString "at")) = false by decide +kernel]; rw [List.lookup_cons, show ((PySem.Str.ofString "take_new_name") == (PySem.Str.ofString "moves")) = false by decide +kernel]; rw [List.lookup_cons, show ((PySem.Str.ofString "take_new_name") == (PySem.Str.ofString "branchings")) = false by decide +kernel]; rfl

def keysS : List Str := ["option", "on", "off", "var", "round", "end", "set", "if", "else", "when", "draw", "first", "second", "show", "both", "pay", "take", "pick", "mod", "player", "keep", "lot", "while", "answer", "view", "long"]
def isKey (x : Str) : Bool := keysS.any fun k => k == x
def isLet (c : Nat) : Bool := decide (97 ≤ c ∧ c ≤ 122)
def headLet (cs : List Nat) : Bool := match cs with | [] => false | c :: _ => isLet c
def isName (x : Str) : Bool := !isKey x && decide (1 ≤ x.length ∧ x.length ≤ 12) && headLet x.cps.toList && x.cps.toList.all fun c => isLet c || isDig c
theorem letters (c : Nat) : decide (c ∈ ("abcdefghijklmnopqrstuvwxyz" : Str).cps.toList) = isLet c := by
  have e : ("abcdefghijklmnopqrstuvwxyz" : Str).cps.toList = List.range' 97 26 := by decide +kernel
  unfold isLet
  rw [e]
  refine decide_eq_decide.mpr ?_
  rw [List.mem_range'_1]
  omega
theorem digits (c : Nat) : decide (c ∈ ("0123456789" : Str).cps.toList) = isDig c := by
  have e : ("0123456789" : Str).cps.toList = List.range' 48 10 := by decide +kernel
  unfold isDig
  rw [e]
  refine decide_eq_decide.mpr ?_
  rw [List.mem_range'_1]
  omega
theorem go_inKeys {K : PySem.W.Frag} {H : Hp} {Q : VK} {p : Addr} {x : Str} (h : SqL K H p (keysS.map V.str) ∨ SqT K H p (keysS.map V.str)) (q : Q (.bl (isKey x)) H) : rIn K false (.str x) (.ref p) H Q :=
  ⟨p, _, rfl, h, rfl, Gx.flat_strs keysS, by rw [inV_str]; exact q⟩
theorem go_niKeys {K : PySem.W.Frag} {H : Hp} {Q : VK} {p : Addr} {x : Str} (h : SqL K H p (keysS.map V.str) ∨ SqT K H p (keysS.map V.str)) (q : Q (.bl (!isKey x)) H) : rIn K true (.str x) (.ref p) H Q :=
  ⟨p, _, rfl, h, rfl, Gx.flat_strs keysS, by rw [inV_str]; exact q⟩
open Classical in
/-- what number_of reads -/
noncomputable def numOf (x : Str) : Option Nat :=
  if x.cps.toList.all isDig = true ∧ x.cps.toList ≠ [] ∧ (∀ r, x.cps.toList = 48 :: r → r = []) ∧ NumText.digitsVal x.cps.toList ≤ 65535 then some (NumText.digitsVal x.cps.toList) else none
def optV : Option Nat → V
  | none => .non
  | some n => .int (n : Int)
theorem numOf_len {x : Str} {n : Nat} (h : numOf x = some n) : x.length ≤ 5 ∧ 1 ≤ x.length := by
  unfold numOf at h
  split at h
  · rename_i c
    obtain ⟨c1, c2, c3, c4⟩ := c
    have e := numL_canon _ (allDig c1) c2 c3
    have := TL.numL_len (n := NumText.digitsVal x.cps.toList) (k := 5) (by decide) (by omega)
    rw [e] at this
    have h2 : 0 < x.cps.toList.length := List.length_pos_iff.mpr c2
    rw [len_toList]
    omega
  · cases h
theorem numOf_no {x : Str} (h : ¬ (1 ≤ x.length ∧ x.length ≤ 5)) : numOf x = none := by
  cases e : numOf x with
  | none => rfl
  | some n => have := numOf_len e; omega
theorem numOf_bad {x : Str} {i c : Nat} (h : x.cps.toList[i]? = some c) (hc : isDig c = false) : numOf x = none := by
  refine if_neg fun z => ?_
  have := List.all_eq_true.mp z.1 c (List.mem_of_getElem? h)
  rw [hc] at this
  cases this
/-- the first i signs fit in a name -/
def nameTo (x : Str) (i : Nat) : Bool := (i == 0 || headLet x.cps.toList) && (x.cps.toList.take i).all fun c => isLet c || isDig c
theorem nameTo_0 (x : Str) : nameTo x 0 = true := rfl
theorem take_succ_all {p : Nat → Bool} {l : List Nat} {i c : Nat} (h : l[i]? = some c) : (l.take (i + 1)).all p = ((l.take i).all p && p c) := by
  rw [List.take_add_one, h, List.all_append]
  simp
theorem nameTo_succ {x : Str} {i c : Nat} (h : x.cps.toList[i]? = some c) : nameTo x (i + 1) = (nameTo x i && (isLet c || (decide (0 < i) && isDig c))) := by
  unfold nameTo
  rw [take_succ_all h]
  cases i with
  | zero =>
    cases e : x.cps.toList with
    | nil => rw [e] at h; cases h
    | cons d r =>
      rw [e] at h
      cases h
      cases h1 : isLet c <;> cases h2 : isDig c <;> simp [headLet, h1, h2]
  | succ j =>
    simp [Bool.and_assoc]
theorem name_all (x : Str) : ((decide (1 ≤ x.length ∧ x.length ≤ 12) && !isKey x) && nameTo x x.cps.toList.length) = isName x := by
  unfold isName nameTo
  rw [List.take_length]
  by_cases h : 1 ≤ x.length ∧ x.length ≤ 12
  · have : (x.cps.toList.length == 0) = false := by
      rw [← len_toList]
      simp
      omega
    rw [decide_eq_true h, this]
    simp [Bool.and_assoc]
  · rw [decide_eq_false h]
    simp
theorem keys_spl : TL.spl [32] 0 [] (Str.ofString "option on off var round end set if else when draw first second show both pay take pick mod player keep lot" ++ Str.ofString " while answer view long").cps.toList = keysS.map fun k => k.cps.toList := by decide +kernel
theorem keys_split : ((TL.spl [32] 0 [] (Str.ofString "option on off var round end set if else when draw first second show both pay take pick mod player keep lot" ++ Str.ofString " while answer view long").cps.toList).map fun w => V.str (S w)) = keysS.map V.str := by
  rw [keys_spl, List.map_map]
  rfl
theorem lt_a (c : Nat) : decide ((S [c]).cps.toList < (Str.ofString "a").cps.toList) = decide (c < 97) := by
  rw [show Str.ofString "a" = S [97] by decide +kernel, lt_sign]
theorem lt_z (c : Nat) : decide ((Str.ofString "z").cps.toList < (S [c]).cps.toList) = decide (122 < c) := by
  rw [show Str.ofString "z" = S [122] by decide +kernel, lt_sign]
theorem lt_0 (c : Nat) : decide ((S [c]).cps.toList < (Str.ofString "0").cps.toList) = decide (c < 48) := by
  rw [show Str.ofString "0" = S [48] by decide +kernel, lt_sign]
theorem lt_9 (c : Nat) : decide ((Str.ofString "9").cps.toList < (S [c]).cps.toList) = decide (57 < c) := by
  rw [show Str.ofString "9" = S [57] by decide +kernel, lt_sign]
theorem len5 : (Str.ofString (toString (65535 : Int))).length = 5 := by decide +kernel
theorem at_str {ks : List Str} {n : Nat} {k : Int} (h0 : 0 ≤ k) (h : k < ks.length) (hn : ks.all (fun y => decide (y.length ≤ n)) = true) : ∃ y : Str, y.length ≤ n ∧ atI (ks.map V.str) k = some (.str y) := by
  obtain ⟨v, hv, e⟩ := at_pick (xs := ks.map V.str) h0 (by rw [List.length_map]; exact h)
  obtain ⟨y, hy, rfl⟩ := List.mem_map.mp hv
  exact ⟨y, by simpa using List.all_eq_true.mp hn y hy, e⟩
theorem len_cat (a b : Str) : (a ++ b).length = a.length + b.length := by
  have e : (S a.cps.toList ++ S b.cps.toList).length = a.cps.toList.length + b.cps.toList.length := by rw [SX.S_cat, SX.S_len, List.length_append]
  rw [len_toList a, len_toList b]
  exact e
theorem go_splitX {H : Hp} {Q : VK} {x : Str} (hl : x.length ≤ 90000) {c : Nat} (hc : c < 256) (h : ∀ p, H p = none → Q (.ref p) (upd H p (.lst ((TL.spl [c] 0 [] x.cps.toList).map fun w => V.str (S w))))) : qSplit (.str x) [.str (S [c])] H Q :=
  go_split (a := x.cps.toList) (by rw [← len_toList]; exact hl) hc h
theorem log2_10 {n k : Nat} (h : n < 10 ^ k) (hk : k ≤ 400) : n.log2 < 1920 := by
  have h2 : n < 2 ^ (1599 + 1) := by
    refine Nat.lt_of_lt_of_le h ?_
    refine Nat.le_trans (Nat.pow_le_pow_right (by decide) hk) ?_
    decide +kernel
  have := log2_le h2
  omega

theorem signs_of : ∀ ys : List V, (∀ (k : Nat) y, ys[k]? = some y → ∃ c, y = V.str (S [c])) → ∃ cs : List Nat, ys = cs.map (fun c => V.str (S [c]))
  | [], _ => ⟨[], rfl⟩
  | y :: r, h => by
    obtain ⟨c, e⟩ := h 0 y rfl
    obtain ⟨cs, e2⟩ := signs_of r fun k z hz => h (k + 1) z hz
    exact ⟨c :: cs, by rw [e, e2, List.map_cons]⟩
theorem sum_ones : ∀ cs : List Nat, (cs.map (List.length ∘ fun c => [c])).sum = cs.length
  | [] => rfl
  | c :: r => by
    rw [List.map_cons, List.sum_cons, sum_ones r, List.length_cons]
    show 1 + r.length = r.length + 1
    omega
theorem joinL_empty (w : List Nat) : ∀ ws : List (List Nat), TL.joinL [] (w :: ws) = w ++ TL.joinL [] ws
  | [] => (List.append_nil w).symm
  | _ :: _ => rfl
theorem join_ones : ∀ cs : List Nat, TL.joinL [] (cs.map fun c => [c]) = cs
  | [] => rfl
  | c :: r => by
    rw [List.map_cons, joinL_empty, join_ones r]
    rfl

/-- letters and digits, a letter first -/
structure Body (x : Str) (n : Nat) : Prop where
  all : (x.cps.toList.all fun c => isLet c || isDig c) = true
  head : headLet x.cps.toList = true
  len : x.length ≤ n
  pos : 1 ≤ x.length
theorem Body.one {c : Nat} (h : isLet c = true) : Body (S [c]) 1 := ⟨by show ((isLet c || isDig c) && true) = true; rw [h]; rfl, h, Nat.le_refl _, Nat.le_refl _⟩
theorem cat_list (a b : Str) : (a ++ b).cps.toList = a.cps.toList ++ b.cps.toList := TL.tl_append a b
theorem Body.snoc {x : Str} {n c : Nat} (h : Body x n) (hc : (isLet c || isDig c) = true) : Body (x ++ S [c]) (n + 1) := by
  refine ⟨?_, ?_, ?_, ?_⟩
  · rw [cat_list, List.all_append, h.all]
    show (true && ((isLet c || isDig c) && true)) = true
    rw [hc]
    rfl
  · rw [cat_list]
    have := h.head
    cases e : x.cps.toList with
    | nil => rw [e] at this; cases this
    | cons d r => rw [e] at this; exact this
  · rw [len_cat]
    have := h.len
    show x.length + 1 ≤ n + 1
    omega
  · rw [len_cat]
    have := h.pos
    omega
theorem Body.name {x : Str} {n : Nat} (h : Body x n) (hn : n ≤ 12) (hk : (keysS.any fun k => k == x) = false) : isName x = true := by
  have hk2 : isKey x = false := hk
  unfold isName
  rw [hk2, h.all, h.head, decide_eq_true (show 1 ≤ x.length ∧ x.length ≤ 12 from ⟨h.pos, Nat.le_trans h.len hn⟩)]
  rfl
theorem signs_list : (Str.ofString "abcdefghijklmnopqrstuvwxyz0123456789").cps.toList = List.range' 97 26 ++ List.range' 48 10 := by decide +kernel
theorem sign_any {k : Int} {c : Nat} (h : atI (Str.ofString "abcdefghijklmnopqrstuvwxyz0123456789").cps.toList k = some c) : (isLet c || isDig c) = true := by
  have hm : c ∈ (Str.ofString "abcdefghijklmnopqrstuvwxyz0123456789").cps.toList := by
    unfold atI at h
    cases e : ixN (Str.ofString "abcdefghijklmnopqrstuvwxyz0123456789").cps.toList.length k with
    | none => rw [e] at h; cases h
    | some i => rw [e, Option.bind_some] at h; exact List.mem_of_getElem? h
  rw [signs_list, List.mem_append, List.mem_range'_1, List.mem_range'_1] at hm
  unfold isLet isDig
  simp
  omega
theorem sign_let {k : Int} {c : Nat} (h : atI (Str.ofString "abcdefghijklmnopqrstuvwxyz0123456789").cps.toList k = some c) (h0 : 0 ≤ k) (h1 : k < 26) : isLet c = true := by
  have e : k = (k.toNat : Int) := by omega
  rw [e, signs_list] at h
  have h2 : (List.range' 97 26 ++ List.range' 48 10)[k.toNat]? = some c := by
    have e2 := atI_nat (xs := List.range' 97 26 ++ List.range' 48 10) (j := k.toNat) (List.getElem?_eq_getElem (by simp; omega))
    rw [h] at e2
    rw [e2, List.getElem?_eq_getElem (by simp; omega)]
  rw [List.getElem?_append_left (by simp; omega), List.getElem?_range' (by omega)] at h2
  cases h2
  unfold isLet
  simp
  omega
def vName (k : Nat) : Str := Str.ofString "v" ++ S (TL.numL k)
theorem vName_all : (List.range 20).all (fun k => isName (vName k)) = true := by decide +kernel
theorem vName_ok {k : Nat} (h : k < 20) : isName (vName k) = true := List.all_eq_true.mp vName_all k (List.mem_range.mpr h)
theorem vName_nodup : ((List.range 20).map vName).Nodup := by decide +kernel
theorem pig : ∀ (l ts : List Str), l.Nodup → (∀ x ∈ l, x ∈ ts) → l.length ≤ ts.length
  | [], _, _, _ => Nat.zero_le _
  | a :: l, ts, hn, h => by
    have ha := h a List.mem_cons_self
    obtain ⟨h1, h2⟩ := List.nodup_cons.mp hn
    obtain ⟨s, t, rfl⟩ := List.append_of_mem ha
    have := pig l (s ++ t) h2 fun x hx => by
      have hx2 := h x (List.mem_cons_of_mem _ hx)
      rcases List.mem_append.mp hx2 with z | z
      · exact List.mem_append_left _ z
      · rcases List.mem_cons.mp z with z | z
        · exact absurd (z ▸ hx) h1
        · exact List.mem_append_right _ z
    rw [List.length_append] at this
    rw [List.length_cons, List.length_append, List.length_cons]
    omega
theorem pig20 {ts : List Str} (h : ∀ k, k < 20 → vName k ∈ ts) : 20 ≤ ts.length := by
  have := pig ((List.range 20).map vName) ts vName_nodup fun x hx => by
    obtain ⟨k, hk, rfl⟩ := List.mem_map.mp hx
    exact h k (List.mem_range.mp hk)
  simpa using this
theorem any_yes {ts : List Str} {x : Str} (h : (!ts.any fun k => k == x) = false) : x ∈ ts := by
  have : (ts.any fun k => k == x) = true := by simpa using h
  obtain ⟨k, hk, e⟩ := List.any_eq_true.mp this
  have : k = x := by simpa using e
  exact this ▸ hk
theorem any_no {ts : List Str} {x : Str} (h : (ts.any fun k => k == x) = false) : x ∉ ts := fun hm => by
  have := List.any_eq_false.mp h x hm
  simp at this
theorem any_not {ts : List Str} {x : Str} (h : (!ts.any fun k => k == x) = true) : x ∉ ts := any_no (by simpa using h)
theorem nodup_snoc {α : Type} {l : List α} {a : α} (h : l.Nodup) (ha : a ∉ l) : (l ++ [a]).Nodup := by
  rw [List.nodup_append]
  exact ⟨h, by simp, fun x hx y hy e => ha (by rw [List.mem_singleton.mp hy] at e; exact e ▸ hx)⟩
theorem name_ok {x : Str} (h : isName x = true) : PyData.strOk x = true ∧ x.length ≤ 12 := by
  unfold isName at h
  simp only [Bool.and_eq_true, decide_eq_true_eq] at h
  refine ⟨?_, h.1.1.2.2⟩
  show (x.cps.all (· < 0x110000)) = true
  rw [← Array.all_toList, List.all_eq_true]
  intro c hc
  have := List.all_eq_true.mp h.2 c hc
  unfold isLet isDig at this
  simp at this ⊢
  omega
theorem go_inStrs {K : PySem.W.Frag} {H : Hp} {Q : VK} {p : Addr} {x : Str} {ks : List Str} (h : SqL K H p (ks.map V.str) ∨ SqT K H p (ks.map V.str)) (q : Q (.bl (ks.any fun k => k == x)) H) : rIn K false (.str x) (.ref p) H Q :=
  ⟨p, _, rfl, h, rfl, Gx.flat_strs ks, by rw [inV_str]; exact q⟩
theorem go_niStrs {K : PySem.W.Frag} {H : Hp} {Q : VK} {p : Addr} {x : Str} {ks : List Str} (h : SqL K H p (ks.map V.str) ∨ SqT K H p (ks.map V.str)) (q : Q (.bl (!ks.any fun k => k == x)) H) : rIn K true (.str x) (.ref p) H Q :=
  ⟨p, _, rfl, h, rfl, Gx.flat_strs ks, by rw [inV_str]; exact q⟩

theorem any_in {ts : List Str} {x : Str} (h : (ts.any fun k => k == x) = true) : x ∈ ts := any_yes (by simpa using h)
/-- a cursor's parts -/
structure Cu where
  c : Addr
  l : Addr
  o : Addr
  v : Addr
  ws : List Str
  os : List Str
  vs : List Str
  sees : Bool
structure Cur (C : Addr) (H : Hp) (u : Cu) (i m b : Int) : Prop where
  ob : ∃ dx, H u.c = some (.ins C dx (F_Cursor (.ref u.l) (.ref u.o) (.ref u.v) (.bl u.sees) (.int i) (.int m) (.int b)))
  wl : H u.l = some (.lst (u.ws.map V.str))
  ol : H u.o = some (.lst (u.os.map V.str))
  vl : H u.v = some (.lst (u.vs.map V.str))
theorem Cur.same {C : Addr} {H H' : Hp} {u : Cu} {i m b : Int} (h : Cur C H u i m b) (s : Same H H') : Cur C H' u i m b := ⟨let ⟨dx, e⟩ := h.ob; ⟨dx, s _ _ e⟩, s _ _ h.wl, s _ _ h.ol, s _ _ h.vl⟩
theorem Cur.but {C a : Addr} {H H' : Hp} {u : Cu} {i m b : Int} {o : HO} (h : Cur C H u i m b) (ha : H a = some o) (hn : (∀ D dx fs, o ≠ .ins D dx fs)) (hl : u.l ≠ a) (ho : u.o ≠ a) (hv : u.v ≠ a) (s : But a H H') : Cur C H' u i m b :=
  ⟨let ⟨dx, e⟩ := h.ob; ⟨dx, s _ _ (fun z => by rw [z] at e; rw [e] at ha; cases ha; exact hn _ _ _ rfl) e⟩, s _ _ hl h.wl, s _ _ ho h.ol, s _ _ hv h.vl⟩
theorem Cur.ne {C a : Addr} {H : Hp} {u : Cu} {i m b : Int} {xs : List V} (h : Cur C H u i m b) (ha : H a = some (.lst xs)) : a ≠ u.c := fun z => by
  obtain ⟨dx, e⟩ := h.ob
  rw [z, e] at ha
  cases ha
def optS : Option Str → V
  | none => .non
  | some x => .str x
open Classical in
noncomputable def wordR (x : Str) : Option Str → Option V
  | none => none
  | some h => if h = x then some .non else none
open Classical in
noncomputable def numR (a b : Int) : Option Str → Option V
  | none => none
  | some h => match numOf h with
    | none => none
    | some n => if a ≤ (n : Int) ∧ (n : Int) ≤ b then some (.int n) else none
open Classical in
noncomputable def nameR (xs : List Str) : Option Str → Option V
  | none => none
  | some h => if h ∈ xs then some (.str h) else none
open Classical in
noncomputable def newR (xs : List Str) : Option Str → Option V
  | none => none
  | some h => if isName h = true ∧ h ∉ xs then some (.str h) else none
/-- a keyword's value: the empty tuple that is written, or a list -/
def Giv (K : PySem.W.Frag) (H : Hp) (e : Addr) (xs : List Str) : Prop := (∀ H', SqT K H' e (xs.map V.str)) ∨ H e = some (.lst (xs.map V.str))
theorem Giv.to {K : PySem.W.Frag} {H H' : Hp} {e : Addr} {xs : List Str} (h : Giv K H e xs) (s : ∀ ys, H e = some (.lst ys) → H' e = some (.lst ys)) : Giv K H' e xs := h.imp id (s _)
theorem Giv.list {K : PySem.W.Frag} {H : Hp} {Q : VK} {e : Addr} {xs : List Str} (h : Giv K H e xs) (q : ∀ l, H l = none → Q (.ref l) (upd H l (.lst (xs.map V.str)))) : qListOf K [.ref e] H Q := h.elim (fun z => go_listOfT (z H) q) (fun z => go_listOfL (.of z) q)

theorem dp1 {K : PySem.W.Frag} {H : Hp} {xs : List V} {a : PyData} (h : DpAll K H xs [a]) : ∃ x, xs = [x] ∧ Dp K H x a := by
  cases h with | cons h1 h2 => cases h2; exact ⟨_, rfl, h1⟩
theorem dp2 {K : PySem.W.Frag} {H : Hp} {xs : List V} {a b : PyData} (h : DpAll K H xs [a, b]) : ∃ x y, xs = [x, y] ∧ Dp K H x a ∧ Dp K H y b := by
  cases h with | cons h1 h2 => cases h2 with | cons h3 h4 => cases h4; exact ⟨_, _, rfl, h1, h3⟩
theorem dp3 {K : PySem.W.Frag} {H : Hp} {xs : List V} {a b c : PyData} (h : DpAll K H xs [a, b, c]) : ∃ x y z, xs = [x, y, z] ∧ Dp K H x a ∧ Dp K H y b ∧ Dp K H z c := by
  cases h with | cons h1 h2 => cases h2 with | cons h3 h4 => cases h4 with | cons h5 h6 => cases h6; exact ⟨_, _, _, rfl, h1, h3, h5⟩
theorem dp4 {K : PySem.W.Frag} {H : Hp} {xs : List V} {a b c d : PyData} (h : DpAll K H xs [a, b, c, d]) : ∃ x y z w, xs = [x, y, z, w] ∧ Dp K H x a ∧ Dp K H y b ∧ Dp K H z c ∧ Dp K H w d := by
  cases h with | cons h1 h2 => cases h2 with | cons h3 h4 => cases h4 with | cons h5 h6 => cases h6 with | cons h7 h8 => cases h8; exact ⟨_, _, _, _, rfl, h1, h3, h5, h7⟩
theorem dpS {K : PySem.W.Frag} {H : Hp} {x : V} {z : Str} (h : Dp K H x (.str z)) : x = .str z := by cases h; rfl
theorem dpI {K : PySem.W.Frag} {H : Hp} {x : V} {z : Int} (h : Dp K H x (.int z)) : x = .int z := by cases h; rfl
theorem at_get {seen : List Int} {k : Int} (h0 : 0 ≤ k) (h : k < seen.length) : atI (seen.map V.int) k = some (.int (seen.getD k.toNat 0)) := at_int h0 h
theorem sign_ne {s : Nat} (h : s < 7) : ¬ signS s = "number" ∧ ¬ signS s = "variable" ∧ ¬ signS s = "long" ∧ ¬ signS s = "view" ∧ ¬ signS s = "pick" := by
  rcases sign_cases h with rfl | rfl | rfl | rfl | rfl | rfl | rfl <;> decide +kernel

/-- what a reader of expressions knows -/
structure Rc where
  ws : List Str
  os : List Str
  vs : List Str
  sees : Bool
def Cu.rc (u : Cu) : Rc := ⟨u.ws, u.os, u.vs, u.sees⟩
abbrev RdRes (α : Type) := Except Nat (α × Nat)
def two (f : Nat → RdRes Ex) (g : Ex → Ex → Ex) (i : Nat) : RdRes Ex := match f i with
  | .error e => .error e
  | .ok (a, j) => match f j with
    | .error e => .error e
    | .ok (b, k) => .ok (g a b, k)
theorem two_e1 {f : Nat → RdRes Ex} {g : Ex → Ex → Ex} {i e : Nat} (h : f i = .error e) : two f g i = .error e := by unfold two; rw [h]
theorem two_e2 {f : Nat → RdRes Ex} {g : Ex → Ex → Ex} {i j e : Nat} {a : Ex} (h : f i = .ok (a, j)) (h2 : f j = .error e) : two f g i = .error e := by
  unfold two
  rw [h]
  show (match f j with | .error e => (.error e : RdRes Ex) | .ok (b, k) => .ok (g a b, k)) = _
  rw [h2]
theorem two_ok {f : Nat → RdRes Ex} {g : Ex → Ex → Ex} {i j k : Nat} {a b : Ex} (h : f i = .ok (a, j)) (h2 : f j = .ok (b, k)) : two f g i = .ok (g a b, k) := by
  unfold two
  rw [h]
  show (match f j with | .error e => (.error e : RdRes Ex) | .ok (b, k) => .ok (g a b, k)) = _
  rw [h2]
def one (f : Nat → RdRes Ex) (g : Ex → Ex) (i : Nat) : RdRes Ex := match f i with
  | .error e => .error e
  | .ok (a, j) => .ok (g a, j)
theorem one_e {f : Nat → RdRes Ex} {g : Ex → Ex} {i e : Nat} (h : f i = .error e) : one f g i = .error e := by unfold one; rw [h]
theorem one_ok {f : Nat → RdRes Ex} {g : Ex → Ex} {i j : Nat} {a : Ex} (h : f i = .ok (a, j)) : one f g i = .ok (g a, j) := by unfold one; rw [h]
open Classical in
/-- read_expression: room, place -/
noncomputable def rdE (c : Rc) : Nat → Nat → RdRes Ex
  | 0, i => .error i
  | r + 1, i => match c.ws[i]? with
    | none => .error i
    | some w =>
      if w ∈ signsS ∧ 0 < r then two (rdE c r) (.op (signsS.idxOf w)) (i + 1)
      else if w = "pick" ∧ c.os ≠ [] ∧ 0 < r then
        match c.ws[i + 1]? with
        | none => .error (i + 1)
        | some x => if x ∈ c.os then two (rdE c r) (.pick x) (i + 1 + 1) else .error (i + 1)
      else if w = "view" ∧ c.sees = true ∧ 0 < r then one (rdE c r) .view (i + 1)
      else if w = "long" ∧ c.sees = true then .ok (.long, i + 1)
      else if w ∈ c.vs then .ok (.var w, i + 1)
      else match numOf w with
        | some n => .ok (.num n, i + 1)
        | none => .error i
theorem rdE_end {c : Rc} {r i : Nat} (h : c.ws[i]? = none) : rdE c (r + 1) i = .error i := by rw [rdE, h]
section
variable {c : Rc} {r i : Nat} {w : Str} (h : c.ws[i]? = some w)
include h
theorem rdE_sign (h1 : w ∈ signsS) (h2 : 0 < r) : rdE c (r + 1) i = two (rdE c r) (.op (signsS.idxOf w)) (i + 1) := by
  rw [rdE, h]
  exact if_pos ⟨h1, h2⟩
theorem rdE_pick (h1 : ¬ (w ∈ signsS ∧ 0 < r)) (h2 : w = "pick") (h3 : c.os ≠ []) (h4 : 0 < r) : rdE c (r + 1) i = match c.ws[i + 1]? with | none => .error (i + 1) | some x => if x ∈ c.os then two (rdE c r) (.pick x) (i + 1 + 1) else .error (i + 1) := by
  rw [rdE, h]
  exact (if_neg h1).trans (if_pos ⟨h2, h3, h4⟩)
theorem rdE_view (h1 : ¬ (w ∈ signsS ∧ 0 < r)) (h2 : ¬ (w = "pick" ∧ c.os ≠ [] ∧ 0 < r)) (h3 : w = "view") (h4 : c.sees = true) (h5 : 0 < r) : rdE c (r + 1) i = one (rdE c r) .view (i + 1) := by
  rw [rdE, h]
  exact (if_neg h1).trans ((if_neg h2).trans (if_pos ⟨h3, h4, h5⟩))
theorem rdE_long (h1 : ¬ (w ∈ signsS ∧ 0 < r)) (h2 : ¬ (w = "pick" ∧ c.os ≠ [] ∧ 0 < r)) (h3 : ¬ (w = "view" ∧ c.sees = true ∧ 0 < r)) (h4 : w = "long") (h5 : c.sees = true) : rdE c (r + 1) i = .ok (.long, i + 1) := by
  rw [rdE, h]
  exact (if_neg h1).trans ((if_neg h2).trans ((if_neg h3).trans (if_pos ⟨h4, h5⟩)))
theorem rdE_var (h1 : ¬ (w ∈ signsS ∧ 0 < r)) (h2 : ¬ (w = "pick" ∧ c.os ≠ [] ∧ 0 < r)) (h3 : ¬ (w = "view" ∧ c.sees = true ∧ 0 < r)) (h4 : ¬ (w = "long" ∧ c.sees = true)) (h5 : w ∈ c.vs) : rdE c (r + 1) i = .ok (.var w, i + 1) := by
  rw [rdE, h]
  exact (if_neg h1).trans ((if_neg h2).trans ((if_neg h3).trans ((if_neg h4).trans (if_pos h5))))
theorem rdE_num (h1 : ¬ (w ∈ signsS ∧ 0 < r)) (h2 : ¬ (w = "pick" ∧ c.os ≠ [] ∧ 0 < r)) (h3 : ¬ (w = "view" ∧ c.sees = true ∧ 0 < r)) (h4 : ¬ (w = "long" ∧ c.sees = true)) (h5 : w ∉ c.vs) : rdE c (r + 1) i = match numOf w with | some n => .ok (.num n, i + 1) | none => .error i := by
  rw [rdE, h]
  exact (if_neg h1).trans ((if_neg h2).trans ((if_neg h3).trans ((if_neg h4).trans (if_neg h5))))
end
theorem numOf_le {w : Str} {n : Nat} (h : numOf w = some n) : n ≤ 65535 := by
  unfold numOf at h
  split at h
  · rename_i c
    cases h
    exact c.2.2.2
  · cases h
theorem Cur.bump {C dx : Addr} {H : Hp} {u : Cu} {i m b : Int} (h : Cur C H u i m b) (ho : H u.c = some (.ins C dx (F_Cursor (.ref u.l) (.ref u.o) (.ref u.v) (.bl u.sees) (.int i) (.int m) (.int b)))) :
    Cur C (upd H u.c (.ins C dx (putF "at" (.int (i + 1)) (F_Cursor (.ref u.l) (.ref u.o) (.ref u.v) (.bl u.sees) (.int i) (.int m) (.int b))))) u (i + 1) m b ∧ But u.c H (upd H u.c (.ins C dx (putF "at" (.int (i + 1)) (F_Cursor (.ref u.l) (.ref u.o) (.ref u.v) (.bl u.sees) (.int i) (.int m) (.int b))))) := by
  have ne : ∀ {x : Addr} {ys : List V}, H x = some (.lst ys) → x ≠ u.c := fun h z => by rw [z, ho] at h; cases h
  refine ⟨⟨⟨dx, by rw [F_Cursor_put_at]; exact upd_same⟩, ?_, ?_, ?_⟩, fun c o n e => by rw [upd_ne n]; exact e⟩
  · rw [upd_ne (ne h.wl)]
    exact h.wl
  · rw [upd_ne (ne h.ol)]
    exact h.ol
  · rw [upd_ne (ne h.vl)]
    exact h.vl
theorem signs_at {w : Str} (h : w ∈ signsS) : signsS.idxOf w < 7 ∧ signS (signsS.idxOf w) = w := by
  have h1 : signsS.idxOf w < signsS.length := List.idxOf_lt_length_iff.mpr h
  refine ⟨h1, ?_⟩
  unfold signS
  rw [List.getD_eq_getElem?_getD, List.getElem?_eq_getElem h1]
  exact List.getElem_idxOf h1
theorem numR_none {lo hi : Int} : numR lo hi none = none := rfl
theorem numR_no {lo hi : Int} {w : Str} (h : numOf w = none) : numR lo hi (some w) = none := by
  show (match numOf w with | none => none | some n => if lo ≤ (n : Int) ∧ (n : Int) ≤ hi then some (V.int n) else none) = none
  rw [h]
theorem numR_yes {lo hi : Int} {w : Str} {n : Nat} (h : numOf w = some n) (h1 : lo ≤ (n : Int)) (h2 : (n : Int) ≤ hi) : numR lo hi (some w) = some (.int n) := by
  show (match numOf w with | none => none | some n => if lo ≤ (n : Int) ∧ (n : Int) ≤ hi then some (V.int n) else none) = _
  rw [h]
  exact if_pos ⟨h1, h2⟩

def numS (n : Int) : Str := Str.ofString (toString n)
def wordsE : Ex → List Str
  | .num n => [numS n]
  | .var x => [x]
  | .long => ["long"]
  | .view e => "view" :: wordsE e
  | .pick x a b => "pick" :: x :: (wordsE a ++ wordsE b)
  | .op s a b => signS s :: (wordsE a ++ wordsE b)
/-- d deep, over these names -/
def ExQ (os vs : List Str) (sees : Bool) : Nat → Ex → Prop
  | 0, _ => False
  | _ + 1, .num n => 0 ≤ n ∧ n < 65536
  | _ + 1, .var x => x ∈ vs
  | _ + 1, .long => sees = true
  | d + 1, .view e => sees = true ∧ ExQ os vs sees d e
  | d + 1, .pick x a b => x ∈ os ∧ ExQ os vs sees d a ∧ ExQ os vs sees d b
  | d + 1, .op s a b => s < 7 ∧ ExQ os vs sees d a ∧ ExQ os vs sees d b
theorem ExQ.up {os vs : List Str} {sees : Bool} : ∀ {d : Nat} {e : Ex}, ExQ os vs sees d e → ExQ os vs sees (d + 1) e
  | 0, _, h => h.elim
  | _ + 1, .num n, h => h
  | _ + 1, .var x, h => h
  | _ + 1, .long, h => h
  | d + 1, .view e, h => ⟨h.1, ExQ.up h.2⟩
  | d + 1, .pick x a b, h => ⟨h.1, ExQ.up h.2.1, ExQ.up h.2.2⟩
  | d + 1, .op s a b, h => ⟨h.1, ExQ.up h.2.1, ExQ.up h.2.2⟩
theorem ExQ.le {os vs : List Str} {sees : Bool} {d m : Nat} {e : Ex} (h : ExQ os vs sees d e) (hm : d ≤ m) : ExQ os vs sees m e := by
  induction hm with
  | refl => exact h
  | step _ ih => exact ih.up
theorem ExQ.len {os vs : List Str} {sees : Bool} : ∀ {d : Nat} {e : Ex}, ExQ os vs sees d e → (wordsE e).length + 2 ≤ 3 * 2 ^ d
  | 0, _, h => h.elim
  | d + 1, .num n, h => by show 1 + 2 ≤ _; have := Nat.one_le_two_pow (n := d); rw [Nat.pow_succ]; omega
  | d + 1, .var x, h => by show 1 + 2 ≤ _; have := Nat.one_le_two_pow (n := d); rw [Nat.pow_succ]; omega
  | d + 1, .long, h => by show 1 + 2 ≤ _; have := Nat.one_le_two_pow (n := d); rw [Nat.pow_succ]; omega
  | d + 1, .view e, h => by
    have := h.2.len
    show (wordsE e).length + 1 + 2 ≤ _
    rw [Nat.pow_succ]
    omega
  | d + 1, .pick x a b, h => by
    have h1 := h.2.1.len
    have h2 := h.2.2.len
    show (wordsE a ++ wordsE b).length + 1 + 1 + 2 ≤ _
    rw [Nat.pow_succ, List.length_append]
    omega
  | d + 1, .op s a b, h => by
    have h1 := h.2.1.len
    have h2 := h.2.2.len
    show (wordsE a ++ wordsE b).length + 1 + 2 ≤ _
    rw [Nat.pow_succ, List.length_append]
    omega
theorem exD_sm : ∀ e : Ex, small (exD e) = true
  | .num n => rfl
  | .var x => rfl
  | .long => rfl
  | .view e => by
    show (true && (true && (small (exD e) && true))) = true
    rw [exD_sm e]
    rfl
  | .pick x a b => by
    show (true && (true && (true && (small (exD a) && (small (exD b) && true))))) = true
    rw [exD_sm a, exD_sm b]
    rfl
  | .op s a b => by
    show (true && (true && (small (exD a) && (small (exD b) && true)))) = true
    rw [exD_sm a, exD_sm b]
    rfl
theorem ExQ.deep {os vs : List Str} {sees : Bool} : ∀ {d : Nat} {e : Ex}, ExQ os vs sees d e → dDeep (exD e) ≤ d
  | 0, _, h => h.elim
  | d + 1, .num n, h => by show 0 + 1 ≤ _; omega
  | d + 1, .var x, h => by show 0 + 1 ≤ _; omega
  | d + 1, .long, h => by show 0 + 1 ≤ _; omega
  | d + 1, .view e, h => by
    have := h.2.deep
    show max 0 (max (dDeep (exD e)) 0) + 1 ≤ _
    omega
  | d + 1, .pick x a b, h => by
    have h1 := h.2.1.deep
    have h2 := h.2.2.deep
    show max 0 (max 0 (max (dDeep (exD a)) (max (dDeep (exD b)) 0))) + 1 ≤ _
    omega
  | d + 1, .op s a b, h => by
    have h1 := h.2.1.deep
    have h2 := h.2.2.deep
    show max 0 (max (dDeep (exD a)) (max (dDeep (exD b)) 0)) + 1 ≤ _
    omega
theorem numS_nat (n : Nat) : numS (n : Int) = S (TL.numL n) := SX.num_S n
theorem numS_len {n : Int} (h0 : 0 ≤ n) (h : n < 1000000) : (numS n).length ≤ 6 := by
  obtain ⟨m, rfl⟩ : ∃ m : Nat, n = (m : Int) := ⟨n.toNat, by omega⟩
  rw [numS_nat, SX.S_len]
  exact TL.numL_len (by decide) (by omega)
theorem go_numS {H : Hp} {Q : VK} {n : Int} (h0 : 0 ≤ n) (h : n < 1000000) (q : Q (.str (numS n)) H) : qStrInt [.int n] H Q := by
  obtain ⟨m, rfl⟩ : ∃ m : Nat, n = (m : Int) := ⟨n.toNat, by omega⟩
  exact go_str_int (by rw [Int.natAbs_natCast]; exact log2_10 (k := 6) (by omega) (by decide)) q
theorem numOf_numS {n : Int} (h0 : 0 ≤ n) (h : n < 65536) : numOf (numS n) = some n.toNat := by
  obtain ⟨m, rfl⟩ : ∃ m : Nat, n = (m : Int) := ⟨n.toNat, by omega⟩
  have e : (numS (m : Int)).cps.toList = TL.numL m := by rw [numS_nat]
  have hv := TL.numL_val m
  have hd := TL.numL_digits m
  have hi := (numL_iff hd).mp (by rw [hv])
  unfold numOf
  rw [e, hv, if_pos ⟨numL_dig m, hi.1, hi.2, by omega⟩, Int.toNat_natCast]

def rowsE : Ex → Nat → List (Str × Nat)
  | .num n, l => [(numS n, l)]
  | .var x, l => [(x, l)]
  | .long, l => [("long", l)]
  | .view e, l => ("view", l + 1) :: rowsE e (l + 1)
  | .pick x a b, l => ("pick", l + 1) :: (x, l) :: (rowsE a (l + 1) ++ rowsE b (l + 1))
  | .op s a b, l => (signS s, l + 1) :: (rowsE a (l + 1) ++ rowsE b (l + 1))
theorem rowsE_fst : ∀ (e : Ex) (l : Nat), (rowsE e l).map (·.1) = wordsE e
  | .num n, l => rfl
  | .var x, l => rfl
  | .long, l => rfl
  | .view e, l => by show ("view" : Str) :: (rowsE e (l + 1)).map (·.1) = _; rw [rowsE_fst e]; rfl
  | .pick x a b, l => by show ("pick" : Str) :: x :: (rowsE a (l + 1) ++ rowsE b (l + 1)).map (·.1) = _; rw [List.map_append, rowsE_fst a, rowsE_fst b]; rfl
  | .op s a b, l => by show signS s :: (rowsE a (l + 1) ++ rowsE b (l + 1)).map (·.1) = _; rw [List.map_append, rowsE_fst a, rowsE_fst b]; rfl
theorem rowsE_len (e : Ex) (l : Nat) : (rowsE e l).length = (wordsE e).length := by
  rw [← rowsE_fst e l, List.length_map]
def rdOut (e : Ex) (n i : Nat) : Option Nat → RdRes Ex
  | none => .ok (e, i + n)
  | some k => .error (i + k)
theorem two_out {f : Nat → RdRes Ex} {g : Ex → Ex → Ex} {a b : Ex} {na nb i m : Nat} {oa ob : Option Nat} (h1 : f (i + m) = rdOut a na (i + m) oa) (h2 : f (i + m + na) = rdOut b nb (i + m + na) ob) :
    two f g (i + m) = rdOut (g a b) (na + nb + m) i ((oa.or (ob.map (· + na))).map (· + m)) := by
  cases oa with
  | some k =>
    rw [two_e1 (show f (i + m) = .error (i + m + k) from h1)]
    show _ = Except.error (i + (k + m))
    rw [show i + m + k = i + (k + m) by omega]
  | none =>
    have h1 : f (i + m) = .ok (a, i + m + na) := h1
    cases ob with
    | some k =>
      rw [two_e2 h1 (show f (i + m + na) = .error (i + m + na + k) from h2)]
      show _ = Except.error (i + (k + na + m))
      rw [show i + m + na + k = i + (k + na + m) by omega]
    | none =>
      rw [two_ok h1 (show f (i + m + na) = .ok (b, i + m + na + nb) from h2)]
      show _ = Except.ok (g a b, i + (na + nb + m))
      rw [show i + m + na + nb = i + (na + nb + m) by omega]
theorem sign_nm : signsS.all (fun s => !isName s && !s.cps.toList.all isDig && decide (s ≠ "pick") && decide (s ≠ "view") && decide (s ≠ "long")) = true := by decide +kernel
theorem sign_facts {w : Str} (h : w ∈ signsS) : isName w = false ∧ w.cps.toList.all isDig = false ∧ w ≠ "pick" ∧ w ≠ "view" ∧ w ≠ "long" := by
  have := List.all_eq_true.mp sign_nm w h
  simpa [and_assoc] using this
theorem kw_name : isName "pick" = false ∧ isName "view" = false ∧ isName "long" = false := by decide +kernel
theorem kw_dig : ("pick" : Str).cps.toList.all isDig = false ∧ ("view" : Str).cps.toList.all isDig = false ∧ ("long" : Str).cps.toList.all isDig = false := by decide +kernel
theorem kw_diff : (PySem.Str.ofString "view" : Str) ≠ PySem.Str.ofString "pick" ∧ (PySem.Str.ofString "long" : Str) ≠ PySem.Str.ofString "pick" ∧ (PySem.Str.ofString "long" : Str) ≠ PySem.Str.ofString "view" := by decide +kernel
theorem kw_sign : (PySem.Str.ofString "view" : Str) ∉ signsS ∧ (PySem.Str.ofString "pick" : Str) ∉ signsS ∧ (PySem.Str.ofString "long" : Str) ∉ signsS := by decide +kernel
theorem num_dig {w : Str} {n : Nat} (h : numOf w = some n) : w.cps.toList.all isDig = true := by
  unfold numOf at h
  split at h
  · rename_i c
    exact c.1
  · cases h
theorem dig_num {w : Str} (h : w.cps.toList.all isDig = false) : numOf w = none := by
  cases e : numOf w with
  | none => rfl
  | some n => rw [num_dig e] at h; cases h
theorem num_notName {w : Str} {n : Nat} (h : numOf w = some n) : isName w = false := by
  unfold numOf at h
  split at h
  · rename_i c
    unfold isName
    cases e : w.cps.toList with
    | nil => exact absurd e c.2.1
    | cons d r =>
      have := c.1
      rw [e, List.all_cons, Bool.and_eq_true] at this
      have hd : isLet d = false := by
        have h1 := this.1
        unfold isDig at h1
        unfold isLet
        have h1 := of_decide_eq_true h1
        exact decide_eq_false (by omega)
      simp [headLet, hd]
  · cases h
/-- the words of an expression are read again, if no word is too deep -/
theorem rd_words {c : Rc} (hv : ∀ x ∈ c.vs, isName x = true) (ho : ∀ x ∈ c.os, isName x = true) : ∀ (d : Nat) (e : Ex) (r i l : Nat), ExQ c.os c.vs c.sees d e → 1 ≤ r → (∀ k w, (wordsE e)[k]? = some w → c.ws[i + k]? = some w) →
    rdE c r i = rdOut e (wordsE e).length i ((rowsE e l).findIdx? fun q => decide (l + r ≤ q.2))
  | 0, _, _, _, _, h, _, _ => h.elim
  | d + 1, e, 0, _, _, _, h1, _ => absurd h1 (by decide)
  | d + 1, .num n, r + 1, i, l, h, _, hw => by
    have e0 : c.ws[i]? = some (numS n) := hw 0 _ rfl
    have en := numOf_numS h.1 h.2
    have hd := num_dig en
    have hs : numS n ∉ signsS := fun z => by rw [(sign_facts z).2.1] at hd; cases hd
    have h2 : numS n ≠ "pick" := fun z => by rw [z, kw_dig.1] at hd; cases hd
    have h3 : numS n ≠ "view" := fun z => by rw [z, kw_dig.2.1] at hd; cases hd
    have h4 : numS n ≠ "long" := fun z => by rw [z, kw_dig.2.2] at hd; cases hd
    have h5 : numS n ∉ c.vs := fun z => by have := hv _ z; rw [num_notName en] at this; cases this
    rw [rdE_num e0 (fun z => hs z.1) (fun z => h2 z.1) (fun z => h3 z.1) (fun z => h4 z.1) h5, en]
    show Except.ok (Ex.num (n.toNat : Int), i + 1) = rdOut _ 1 i (if decide (l + (r + 1) ≤ l) = true then some 0 else none)
    rw [decide_eq_false (by omega), Int.toNat_of_nonneg h.1]
    rfl
  | d + 1, .var x, r + 1, i, l, h, _, hw => by
    have e0 : c.ws[i]? = some x := hw 0 _ rfl
    have hx := hv x h
    have hs : x ∉ signsS := fun z => by rw [(sign_facts z).1] at hx; cases hx
    have h2 : x ≠ "pick" := fun z => by rw [z, kw_name.1] at hx; cases hx
    have h3 : x ≠ "view" := fun z => by rw [z, kw_name.2.1] at hx; cases hx
    have h4 : x ≠ "long" := fun z => by rw [z, kw_name.2.2] at hx; cases hx
    rw [rdE_var e0 (fun z => hs z.1) (fun z => h2 z.1) (fun z => h3 z.1) (fun z => h4 z.1) h]
    show _ = rdOut _ 1 i (if decide (l + (r + 1) ≤ l) = true then some 0 else none)
    rw [decide_eq_false (by omega)]
    rfl
  | d + 1, .long, r + 1, i, l, h, _, hw => by
    have e0 : c.ws[i]? = some "long" := hw 0 _ rfl
    rw [rdE_long e0 (fun z => kw_sign.2.2 z.1) (fun z => kw_diff.2.1 z.1) (fun z => kw_diff.2.2 z.1) rfl h]
    show _ = rdOut _ 1 i (if decide (l + (r + 1) ≤ l) = true then some 0 else none)
    rw [decide_eq_false (by omega)]
    rfl
  | d + 1, .view e, r + 1, i, l, h, _, hw => by
    have e0 : c.ws[i]? = some "view" := hw 0 _ rfl
    have e1 : (rowsE (.view e) l).findIdx? (fun q => decide (l + (r + 1) ≤ q.2)) = if decide (l + (r + 1) ≤ l + 1) = true then some 0 else ((rowsE e (l + 1)).findIdx? fun q => decide (l + (r + 1) ≤ q.2)).map (· + 1) := List.findIdx?_cons
    rw [e1]
    by_cases hr : 0 < r
    · rw [decide_eq_false (by omega), rdE_view e0 (fun z => kw_sign.1 z.1) (fun z => kw_diff.1 z.1) rfl h.1 hr]
      have ih := rd_words hv ho d e r (i + 1) (l + 1) h.2 hr fun k w hk => by
        have := hw (k + 1) w hk
        rw [show i + 1 + k = i + (k + 1) by omega]
        exact this
      have e2 : (fun q : Str × Nat => decide (l + (r + 1) ≤ q.2)) = fun q => decide (l + 1 + r ≤ q.2) := by
        funext q
        exact decide_eq_decide.mpr (by omega)
      rw [e2]
      generalize (rowsE e (l + 1)).findIdx? (fun q => decide (l + 1 + r ≤ q.2)) = o at *
      cases o with
      | none =>
        rw [one_ok (show rdE c r (i + 1) = .ok (e, i + 1 + (wordsE e).length) from ih)]
        show _ = Except.ok (Ex.view e, i + ((wordsE e).length + 1))
        rw [show i + 1 + (wordsE e).length = i + ((wordsE e).length + 1) by omega]
      | some k =>
        rw [one_e (show rdE c r (i + 1) = .error (i + 1 + k) from ih)]
        show _ = Except.error (i + (k + 1))
        rw [show i + 1 + k = i + (k + 1) by omega]
    · rw [decide_eq_true (by omega), rdE_num e0 (fun z => hr z.2) (fun z => hr z.2.2) (fun z => hr z.2.2) (fun z => kw_diff.2.2 z.1.symm) (fun z => by have := hv _ z; rw [kw_name.2.1] at this; cases this), dig_num kw_dig.2.1]
      rfl
  | d + 1, .pick x a b, r + 1, i, l, h, _, hw => by
    have e0 : c.ws[i]? = some "pick" := hw 0 _ rfl
    have e9 : c.ws[i + 1]? = some x := hw 1 _ rfl
    have e1 : (rowsE (.pick x a b) l).findIdx? (fun q => decide (l + (r + 1) ≤ q.2)) = if decide (l + (r + 1) ≤ l + 1) = true then some 0 else (((x, l) :: (rowsE a (l + 1) ++ rowsE b (l + 1))).findIdx? fun q => decide (l + (r + 1) ≤ q.2)).map (· + 1) := List.findIdx?_cons
    have e3 : ((x, l) :: (rowsE a (l + 1) ++ rowsE b (l + 1))).findIdx? (fun q => decide (l + (r + 1) ≤ q.2)) = if decide (l + (r + 1) ≤ l) = true then some 0 else ((rowsE a (l + 1) ++ rowsE b (l + 1)).findIdx? fun q => decide (l + (r + 1) ≤ q.2)).map (· + 1) := List.findIdx?_cons
    rw [e1]
    by_cases hr : 0 < r
    · have hne : c.os ≠ [] := fun z => by have := h.1; rw [z] at this; cases this
      have ee := rdE_pick e0 (fun z => kw_sign.2.1 z.1) rfl hne hr
      rw [e9] at ee
      rw [decide_eq_false (by omega), ee.trans (if_pos h.1), e3, decide_eq_false (by omega)]
      have iha := rd_words hv ho d a r (i + 2) (l + 1) h.2.1 hr fun k w hk => by
        have := hw (k + 2) w (by show (wordsE a ++ wordsE b)[k]? = _; rw [List.getElem?_append_left (List.getElem?_eq_some_iff.mp hk).1]; exact hk)
        rw [show i + 2 + k = i + (k + 2) by omega]
        exact this
      have ihb := rd_words hv ho d b r (i + 2 + (wordsE a).length) (l + 1) h.2.2 hr fun k w hk => by
        have := hw (k + (wordsE a).length + 2) w (by show (wordsE a ++ wordsE b)[k + (wordsE a).length]? = _; rw [List.getElem?_append_right (by omega), Nat.add_sub_cancel]; exact hk)
        rw [show i + 2 + (wordsE a).length + k = i + (k + (wordsE a).length + 2) by omega]
        exact this
      have e2 : (fun q : Str × Nat => decide (l + (r + 1) ≤ q.2)) = fun q => decide (l + 1 + r ≤ q.2) := by
        funext q
        exact decide_eq_decide.mpr (by omega)
      rw [e2, List.findIdx?_append, rowsE_len]
      have := two_out (g := .pick x) iha ihb
      rw [show i + 1 + 1 = i + 2 by omega, this]
      show rdOut (.pick x a b) ((wordsE a).length + (wordsE b).length + 2) i _ = rdOut (.pick x a b) ((wordsE a ++ wordsE b).length + 1 + 1) i (((if false = true then some 0 else _).map (· + 1)))
      rw [List.length_append]
      generalize ((rowsE a (l + 1)).findIdx? _).or (((rowsE b (l + 1)).findIdx? _).map _) = o
      cases o <;> rfl
    · rw [decide_eq_true (by omega), rdE_num e0 (fun z => hr z.2) (fun z => hr z.2.2) (fun z => hr z.2.2) (fun z => kw_diff.2.1 z.1.symm) (fun z => by have := hv _ z; rw [kw_name.1] at this; cases this), dig_num kw_dig.1]
      rfl
  | d + 1, .op s a b, r + 1, i, l, h, _, hw => by
    have e0 : c.ws[i]? = some (signS s) := hw 0 _ rfl
    have hsm : signS s ∈ signsS := by
      unfold signS
      rw [List.getD_eq_getElem?_getD, List.getElem?_eq_getElem (show s < signsS.length from h.1)]
      exact List.getElem_mem _
    have hidx : signsS.idxOf (signS s) = s := by
      rcases sign_cases h.1 with rfl | rfl | rfl | rfl | rfl | rfl | rfl <;> decide +kernel
    obtain ⟨f1, f2, f3, f4, f5⟩ := sign_facts hsm
    have e1 : (rowsE (.op s a b) l).findIdx? (fun q => decide (l + (r + 1) ≤ q.2)) = if decide (l + (r + 1) ≤ l + 1) = true then some 0 else ((rowsE a (l + 1) ++ rowsE b (l + 1)).findIdx? fun q => decide (l + (r + 1) ≤ q.2)).map (· + 1) := List.findIdx?_cons
    rw [e1]
    by_cases hr : 0 < r
    · rw [decide_eq_false (by omega), rdE_sign e0 hsm hr, hidx]
      have iha := rd_words hv ho d a r (i + 1) (l + 1) h.2.1 hr fun k w hk => by
        have := hw (k + 1) w (by show (wordsE a ++ wordsE b)[k]? = _; rw [List.getElem?_append_left (List.getElem?_eq_some_iff.mp hk).1]; exact hk)
        rw [show i + 1 + k = i + (k + 1) by omega]
        exact this
      have ihb := rd_words hv ho d b r (i + 1 + (wordsE a).length) (l + 1) h.2.2 hr fun k w hk => by
        have := hw (k + (wordsE a).length + 1) w (by show (wordsE a ++ wordsE b)[k + (wordsE a).length]? = _; rw [List.getElem?_append_right (by omega), Nat.add_sub_cancel]; exact hk)
        rw [show i + 1 + (wordsE a).length + k = i + (k + (wordsE a).length + 1) by omega]
        exact this
      have e2 : (fun q : Str × Nat => decide (l + (r + 1) ≤ q.2)) = fun q => decide (l + 1 + r ≤ q.2) := by
        funext q
        exact decide_eq_decide.mpr (by omega)
      rw [e2, List.findIdx?_append, rowsE_len, two_out (g := .op s) iha ihb]
      show rdOut (.op s a b) ((wordsE a).length + (wordsE b).length + 1) i _ = rdOut (.op s a b) ((wordsE a ++ wordsE b).length + 1) i _
      rw [List.length_append]
      rfl
    · rw [decide_eq_true (by omega), rdE_num e0 (fun z => hr z.2) (fun z => hr z.2.2) (fun z => hr z.2.2) (fun z => f5 z.1) (fun z => by have := hv _ z; rw [f1] at this; cases this), dig_num f2]
      rfl
theorem dDeep_strs : ∀ l : List Str, dDeepAll (l.map PyData.str) ≤ 0
  | [] => Nat.le_refl _
  | x :: l => by
    show max 0 (dDeepAll (l.map PyData.str)) ≤ 0
    have := dDeep_strs l
    omega
theorem small_strs : ∀ l : List Str, smallAll (l.map PyData.str) = true
  | [] => rfl
  | x :: l => by
    show (true && smallAll (l.map PyData.str)) = true
    rw [small_strs l]
    rfl
def rwE (q : Str × Nat) : PyData := .tuple [.str q.1, .int (q.2 : Nat)]
theorem words_len {vs os : List Str} {sees : Bool} (hv : ∀ x ∈ vs, isName x = true) (ho : ∀ x ∈ os, isName x = true) : ∀ (d : Nat) (e : Ex), ExQ os vs sees d e → ∀ x ∈ wordsE e, x.length ≤ 1000
  | 0, _, h => h.elim
  | d + 1, .num n, h => fun x hx => by
    rw [List.mem_singleton.mp hx]
    have := numS_len h.1 (by have := h.2; omega)
    omega
  | d + 1, .var y, h => fun x hx => by
    rw [List.mem_singleton.mp hx]
    have := (name_ok (hv y h)).2
    omega
  | d + 1, .long, h => fun x hx => by
    rw [List.mem_singleton.mp hx]
    decide +kernel
  | d + 1, .view e, h => fun x hx => by
    rcases List.mem_cons.mp hx with rfl | hx
    · decide +kernel
    · exact words_len hv ho d e h.2 x hx
  | d + 1, .pick y a b, h => fun x hx => by
    rcases List.mem_cons.mp hx with rfl | hx
    · decide +kernel
    rcases List.mem_cons.mp hx with rfl | hx
    · have := (name_ok (ho x h.1)).2
      omega
    rcases List.mem_append.mp hx with hx | hx
    · exact words_len hv ho d a h.2.1 x hx
    · exact words_len hv ho d b h.2.2 x hx
  | d + 1, .op s a b, h => fun x hx => by
    rcases List.mem_cons.mp hx with rfl | hx
    · rcases sign_cases h.1 with rfl | rfl | rfl | rfl | rfl | rfl | rfl <;> decide +kernel
    rcases List.mem_append.mp hx with hx | hx
    · exact words_len hv ho d a h.2.1 x hx
    · exact words_len hv ho d b h.2.2 x hx
theorem noL_rows (e : Ex) (l : Nat) : noLAll ((rowsE e l).map rwE) = true := noL_all fun d hd => by
  obtain ⟨x, _, rfl⟩ := List.mem_map.mp hd
  rfl

theorem at_sign10 {k : Int} (h0 : 0 ≤ k) (h : k < 10) : ∃ s, s < 7 ∧ atI [V.str "+", .str "-", .str "*", .str "/", .str "mod", .str "<", .str "=", .str "+", .str "-", .str "/"] k = some (.str (signS s)) := by
  obtain rfl | rfl | rfl | rfl | rfl | rfl | rfl | rfl | rfl | rfl : k = 0 ∨ k = 1 ∨ k = 2 ∨ k = 3 ∨ k = 4 ∨ k = 5 ∨ k = 6 ∨ k = 7 ∨ k = 8 ∨ k = 9 := by omega
  · exact ⟨0, by decide, rfl⟩
  · exact ⟨1, by decide, rfl⟩
  · exact ⟨2, by decide, rfl⟩
  · exact ⟨3, by decide, rfl⟩
  · exact ⟨4, by decide, rfl⟩
  · exact ⟨5, by decide, rfl⟩
  · exact ⟨6, by decide, rfl⟩
  · exact ⟨0, by decide, rfl⟩
  · exact ⟨1, by decide, rfl⟩
  · exact ⟨3, by decide, rfl⟩

end K13
local macro_rules | `(tactic| walk_at "go1") => `(tactic| first
  | with_reducible refine K13.go_F_Cursor_words (by assumption) (by assumption) (by assumption) ?_
  | with_reducible refine K13.go_F_Cursor_options (by assumption) (by assumption) (by assumption) ?_
  | with_reducible refine K13.go_F_Cursor_variables (by assumption) (by assumption) (by assumption) ?_
  | with_reducible refine K13.go_F_Cursor_sees (by assumption) (by assumption) (by assumption) ?_
  | with_reducible refine K13.go_F_Cursor_at (by assumption) (by assumption) (by assumption) ?_
  | with_reducible refine K13.go_F_Cursor_moves (by assumption) (by assumption) (by assumption) ?_
  | with_reducible refine K13.go_F_Cursor_branchings (by assumption) (by assumption) (by assumption) ?_)
namespace K13
open PySem PySem.Spec PyProof.Rows L2 Gx
section
variable {P : Program} {w : World} {K : PySem.W.Frag} {mg : Str → Option Value} {base : Heap} {A : Ad}
def sp_number_of (K : PySem.W.Frag) : Sp := fun vs H Q _ => ∃ (x : Str), vs = [.str x] ∧ x.length ≤ 1000 ∧ ∀ v : V, v = optV (numOf x) → Q v H
theorem G_number_of (T : Txt P K mg A) : FnOk P w K mg base CX0 1 A.f_number_of A.d_number_of ["word"] (sp_number_of K) := by
  refine (T.F_number_of.ok (k := 0) sc_number_of (fun vs H Q E h => ?_) (fun cdv Ar outer s H vs Q E hr h => ?_))
  · obtain ⟨x, rfl, _⟩ := h
    rfl
  · obtain ⟨x, rfl, hl, q⟩ := h
    refine ⟨_, (pss_cons (ps_if (pt_not (pt_chain op_le op_le pe_int (pe_callB k_len (by rfl) T.n_len (by decide +kernel) (pa_cons (pv 0) pa_nil)) (pe_callB k_len (by rfl) T.n_len (by decide +kernel) (pa_cons (pe_callTy k_str_int (by rfl) T.n_str (by decide +kernel) (pa_cons (pe_glob (v := (.int 65535)) rfl T.v_GREATEST.choose_spec ⟨_, rfl⟩) pa_nil)) pa_nil))))
        (pss_one (ps_ret pe_non))
        pss_nil)
      (pss_cons (ps_for PassesOwn.never rfl (pi_str (pv 0)) (pg_name (i := 1) sc_number_of.nd rfl (Or.inl rfl))
        (pss_one (ps_if (pt_cmpR o_notIn_sign (pv 1) (pe_glob (v := (.str "0123456789")) rfl T.v_DIGITS.choose_spec ⟨_, rfl⟩) (by rfl))
        (pss_one (ps_ret pe_non))
        pss_nil)))
      (Evl.pss_cut (ps_if (PW.pt (pw_and (pt_cmpR op_eq (pe_ix ix_str (pv 0) pe_int (fun _ _ => rfl)) pe_str (nomark _)) (pw_and1 (pt_cmpR op_gt (pe_callB k_len (by rfl) T.n_len (by decide +kernel) (pa_cons (pv 0) pa_nil)) pe_int (nomark _)))))
        (pss_one (ps_ret pe_non))
        pss_nil)
      (pss_cons (ps_set (i := 2) sc_number_of.nd rfl (Or.inl rfl) (pe_callTy k_int_str (by rfl) T.n_int (by decide +kernel) (pa_cons (pv 0) pa_nil)))
      (pss_cons (ps_if (pt_cmpR op_gt (pv 2) (pe_glob (v := (.int 65535)) rfl T.v_GREATEST.choose_spec ⟨_, rfl⟩) (nomark _))
        (pss_one (ps_ret pe_non))
        pss_nil)
      (pss_one (ps_ret (pv 2)))))))), ?_⟩
    try dsimp only [cxOf, Cx.nox, Cx.wish]
    have hlen : x.length = x.cps.toList.length := len_toList x
    walk_at "go"
    refine go_lenS (sz (by omega)) ?_
    walk_at "go"
    walk_at "br"
    · intro h1
      walk_at "go"
      refine go_str_int (by decide) ?_
      walk_at "go"
      refine go_lenS (by rw [len5]; decide) ?_
      rw [len5]
      walk_at "go"
      walk_at "br"
      · intro h2
        walk_at "go"
        refine q _ ?_
        rw [numOf_no (by omega)]
        rfl
      · intro h2
        walk_at "go"
        refine foX x (fun i σ' H' => ∃ v, σ' = [some (.str x), v, none] ∧ H' = H ∧ (x.cps.toList.take i).all isDig = true) ⟨_, rfl, rfl, rfl⟩ ?_ ?_
        · rintro i c2 σ' H' hi ⟨v, rfl, rfl, ha⟩
          walk_at "go"
          rw [digits]
          walk_at "br"
          · intro h4
            walk_at "go"
            refine q _ ?_
            rw [numOf_bad hi (by simpa using h4)]
            rfl
          · intro h4
            walk_at "go"
            exact ⟨_, rfl, rfl, by rw [take_succ_all hi, ha]; simp_all⟩
        · rintro σ' H' ⟨v, rfl, rfl, ha⟩
          rw [List.take_length] at ha
          obtain ⟨c, r, hx⟩ : ∃ c r, x.cps.toList = c :: r := by
            cases e : x.cps.toList with
            | nil => rw [e] at hlen; simp at hlen; omega
            | cons c r => exact ⟨c, r, rfl⟩
          have hne : x.cps.toList ≠ [] := by rw [hx]; simp
          refine go_cut (fun σ' H1 => σ' = [some (.str x), v, none] ∧ H1 = H' ∧ ∀ r, x.cps.toList = 48 :: r → r = []) ?_ ?_
          · walk_at "go"
            refine go_ixS (sz (by omega)) (atS_get (k := 0) (c := c) (by rw [hx]; rfl)) ?_
            walk_at "go"
            walk_at "br"
            · intro h
              have hc : c = 48 := by simpa using SX.S_inj (a := [c]) (b := [48]) (h.trans (by decide +kernel))
              walk_at "go"
              refine go_lenS (sz (by omega)) ?_
              walk_at "go"
              walk_at "br"
              · intro h3
                walk_at "go"
                refine q _ ?_
                have : numOf x = none := if_neg fun z => by
                  have e := z.2.2.1 r (by rw [hx, hc])
                  rw [hx, e] at hlen
                  simp at hlen
                  omega
                rw [this]
                rfl
              · intro h3
                walk_at "go"
                refine ⟨rfl, rfl, fun r' e => ?_⟩
                rw [e] at hlen
                simp at hlen
                exact List.length_eq_zero_iff.mp (by omega)
            · intro h
              walk_at "go"
              refine ⟨rfl, rfl, fun r' e => ?_⟩
              rw [hx] at e
              injection e with e1 _
              exact absurd (by rw [e1]; decide +kernel) h
          rintro σ' H1 ⟨rfl, rfl, hz⟩
          walk_at "go"
          refine go_intDigits (allDig ha) hne (by omega) ?_
          walk_at "go"
          walk_at "br"
          · intro h
            walk_at "go"
            refine q _ ?_
            have : numOf x = none := if_neg fun z => by
              have := z.2.2.2
              omega
            rw [this]
            rfl
          · intro h
            walk_at "go"
            refine q _ ?_
            have : numOf x = some (NumText.digitsVal x.cps.toList) := if_pos ⟨ha, hne, hz, by omega⟩
            rw [this]
            rfl
    · intro h1
      walk_at "go"
      refine q _ ?_
      rw [numOf_no (by omega)]
      rfl
end
end K13

namespace K13
open PySem PySem.Spec PyProof.Rows L2 Gx
section
variable {P : Program} {w : World} {K : PySem.W.Frag} {mg : Str → Option Value} {base : Heap} {A : Ad}
def sp_Cursor___init__ (K : PySem.W.Frag) (C : Addr) : Sp := fun vs H Q _ => ∃ (p dx a e f : Addr) (ws os ps : List Str) (s : Bool), vs = [.ref p, .ref a, .ref e, .ref f, .bl s] ∧ H p = some (.ins C dx []) ∧ H a = some (.lst (ws.map V.str)) ∧ Giv K H e os ∧ Giv K H f ps ∧ ∀ (H' : Hp) (u : Cu), u.c = p → u.ws = ws → u.os = os → u.vs = ps → u.sees = s → H u.l = none → H u.o = none → H u.v = none → But p H H' → Cur C H' u 0 0 0 → Q .non H'
theorem G_Cursor___init__ (T : Txt P K mg A) : FnOk P w K mg base CX0 1 A.f_Cursor___init__ A.d_Cursor___init__ ["self", "words", "options", "variables", "sees"] (sp_Cursor___init__ K A.c_Cursor) := by
  refine (T.F_Cursor___init__.ok (k := 0) sc_Cursor___init__ (fun vs H Q E h => ?_) (fun cdv Ar outer s H vs Q E hr h => ?_))
  · obtain ⟨p, dx, a, e, f, ws, os, ps, s, rfl, _⟩ := h
    rfl
  · obtain ⟨p, dx, a, e, f, ws, os, ps, s, rfl, hp, ha, he, hf, q⟩ := h
    have cl := T.cl_Cursor
    have na_words := T.na_Cursor_words
    have na_options := T.na_Cursor_options
    have na_variables := T.na_Cursor_variables
    have na_sees := T.na_Cursor_sees
    have na_at := T.na_Cursor_at
    have na_moves := T.na_Cursor_moves
    have na_branchings := T.na_Cursor_branchings

    have nl : ∀ {x : Addr} {ys : List V} {H1 : Hp} {D : Addr} {fs : List (Str × V)}, H1 x = some (.lst ys) → H1 p = some (.ins A.c_Cursor D fs) → x ≠ p := fun h1 h2 z => by rw [z, h2] at h1; cases h1
    refine ⟨_, (pss_cons (ps_fld (pv 0) (pe_callTy k_list_of (by rfl) T.n_list (by decide +kernel) (pa_cons (pv 1) pa_nil)) rfl)
      (pss_cons (ps_fld (pv 0) (pe_callTy k_list_of (by rfl) T.n_list (by decide +kernel) (pa_cons (pv 2) pa_nil)) rfl)
      (pss_cons (ps_fld (pv 0) (pe_callTy k_list_of (by rfl) T.n_list (by decide +kernel) (pa_cons (pv 3) pa_nil)) rfl)
      (pss_cons (ps_fld (pv 0) (pv 4) rfl)
      (pss_cons (ps_fld (pv 0) pe_int rfl)
      (pss_cons (ps_fld (pv 0) pe_int rfl)
      (pss_one (ps_fld (pv 0) pe_int rfl)))))))), ?_⟩
    try dsimp only [cxOf, Cx.nox, Cx.wish]
    walk_at "go"
    refine go_listOfL (.of ha) fun l hl => ?_
    walk_at "go"
    have lp : l ≠ p := (ne_of_none hp hl).symm
    have hp1 : upd H l (.lst (ws.map V.str)) p = some (.ins A.c_Cursor dx []) := by rw [upd_ne lp.symm]; exact hp
    refine go_sfldV hp1 cl na_words (by show 0 < 1000; decide) ?_
    walk_at "go"
    have s1 : ∀ x ys, H x = some (.lst ys) → upd (upd H l (.lst (ws.map V.str))) p (.ins A.c_Cursor dx (putF "words" (.ref l) [])) x = some (.lst ys) := fun x ys hx => by
      rw [upd_ne (nl hx hp), upd_ne (ne_of_none hx hl)]
      exact hx
    have l2 : upd (upd H l (.lst (ws.map V.str))) p (.ins A.c_Cursor dx (putF "words" (.ref l) [])) l = some (.lst (ws.map V.str)) := by rw [upd_ne lp, upd_same]
    have b2 : But p H (upd (upd H l (.lst (ws.map V.str))) p (.ins A.c_Cursor dx (putF "words" (.ref l) []))) := fun c o n e => by rw [upd_ne n, upd_ne (ne_of_none e hl)]; exact e
    have p2 : upd (upd H l (.lst (ws.map V.str))) p (.ins A.c_Cursor dx (putF "words" (.ref l) [])) p = some (.ins A.c_Cursor dx (putF "words" (.ref l) [])) := upd_same
    have he2 := he.to (s1 e)
    have hf2 := hf.to (s1 f)
    generalize upd (upd H l (.lst (ws.map V.str))) p (.ins A.c_Cursor dx (putF "words" (.ref l) [])) = H2 at *
    refine he2.list fun o ho => ?_
    walk_at "go"
    have op : o ≠ p := (ne_of_none p2 ho).symm
    refine go_sfldV (by rw [upd_ne op.symm]; exact p2) cl na_options (by show 1 < 1000; decide) ?_
    walk_at "go"
    have lo : l ≠ o := ne_of_none l2 ho
    have l3 : upd (upd H2 o (.lst (os.map V.str))) p (.ins A.c_Cursor dx (putF "options" (.ref o) (putF "words" (.ref l) []))) l = some (.lst (ws.map V.str)) := by rw [upd_ne lp, upd_ne lo]; exact l2
    have o3 : upd (upd H2 o (.lst (os.map V.str))) p (.ins A.c_Cursor dx (putF "options" (.ref o) (putF "words" (.ref l) []))) o = some (.lst (os.map V.str)) := by rw [upd_ne op, upd_same]
    have b3 : But p H (upd (upd H2 o (.lst (os.map V.str))) p (.ins A.c_Cursor dx (putF "options" (.ref o) (putF "words" (.ref l) [])))) := fun c o' n e => by have e2 := b2 c o' n e; rw [upd_ne n, upd_ne (ne_of_none e2 ho)]; exact e2
    have p3 : upd (upd H2 o (.lst (os.map V.str))) p (.ins A.c_Cursor dx (putF "options" (.ref o) (putF "words" (.ref l) []))) p = some (.ins A.c_Cursor dx (putF "options" (.ref o) (putF "words" (.ref l) []))) := upd_same
    have hf3 : Giv K (upd (upd H2 o (.lst (os.map V.str))) p (.ins A.c_Cursor dx (putF "options" (.ref o) (putF "words" (.ref l) [])))) f ps := hf2.to fun ys hx => by
      rw [upd_ne (nl hx p2), upd_ne (ne_of_none hx ho)]
      exact hx
    have fo : H o = none := by
      cases z : H o with
      | none => rfl
      | some w => have := b2 o w op z; rw [ho] at this; cases this
    generalize upd (upd H2 o (.lst (os.map V.str))) p (.ins A.c_Cursor dx (putF "options" (.ref o) (putF "words" (.ref l) []))) = H3 at *
    refine hf3.list fun v hv => ?_
    walk_at "go"
    have vp : v ≠ p := (ne_of_none p3 hv).symm
    refine go_sfldV (by rw [upd_ne vp.symm]; exact p3) cl na_variables (by show 2 < 1000; decide) ?_
    walk_at "go"
    refine go_sfldV upd_same cl na_sees (by show 3 < 1000; decide) ?_
    walk_at "go"
    refine go_sfldV upd_same cl na_at (by show 4 < 1000; decide) ?_
    walk_at "go"
    refine go_sfldV upd_same cl na_moves (by show 5 < 1000; decide) ?_
    walk_at "go"
    refine go_sfldV upd_same cl na_branchings (by show 6 < 1000; decide) ?_
    rw [F_Cursor_made]
    have fv : H v = none := by
      cases z : H v with
      | none => rfl
      | some w => have := b3 v w vp z; rw [hv] at this; cases this
    have lv : l ≠ v := ne_of_none l3 hv
    have ov : o ≠ v := ne_of_none o3 hv
    refine q _ ⟨p, l, o, v, ws, os, ps, s⟩ rfl rfl rfl rfl rfl hl fo fv (fun c o' n e => ?_) ⟨⟨dx, upd_same⟩, ?_, ?_, ?_⟩
    · have e3 := b3 c o' n e
      repeat rw [upd_ne n]
      rw [upd_ne (ne_of_none e3 hv)]
      exact e3
    · show upd _ p _ l = _
      repeat rw [upd_ne lp]
      rw [upd_ne lv]
      exact l3
    · show upd _ p _ o = _
      repeat rw [upd_ne op]
      rw [upd_ne ov]
      exact o3
    · show upd _ p _ v = _
      repeat rw [upd_ne vp]
      exact upd_same
end
end K13

namespace K13
open PySem PySem.Spec PyProof.Rows L2 Gx
section
variable {P : Program} {w : World} {K : PySem.W.Frag} {mg : Str → Option Value} {base : Heap} {A : Ad}
def sp_Cursor_word (K : PySem.W.Frag) (C : Addr) : Sp := fun vs H Q _ => ∃ (u : Cu) (i : Nat) (m b : Int), vs = [.ref u.c] ∧ Cur C H u i m b ∧ u.ws.length ≤ 100000 ∧ Q (optS u.ws[i]?) H
theorem G_Cursor_word (T : Txt P K mg A) : FnOk P w K mg base CX0 1 A.f_Cursor_word A.d_Cursor_word ["self"] (sp_Cursor_word K A.c_Cursor) := by
  refine (T.F_Cursor_word.ok (k := 0) sc_Cursor_word (fun vs H Q E h => ?_) (fun cdv Ar outer s H vs Q E hr h => ?_))
  · obtain ⟨u, i, m, b, rfl, _⟩ := h
    rfl
  · obtain ⟨u, i, m, b, rfl, hu, hz, q⟩ := h
    obtain ⟨⟨dx, ho⟩, hw, _, _⟩ := id hu
    have cl := T.cl_Cursor
    have na_words := T.na_Cursor_words
    have na_options := T.na_Cursor_options
    have na_variables := T.na_Cursor_variables
    have na_sees := T.na_Cursor_sees
    have na_at := T.na_Cursor_at
    have na_moves := T.na_Cursor_moves
    have na_branchings := T.na_Cursor_branchings

    refine ⟨_, (pss_cons (ps_if (pt_cmpR op_lt (pe_fld (pv 0) rfl) (pe_callB k_len (by rfl) T.n_len (by decide +kernel) (pa_cons (pe_fld (pv 0) rfl) pa_nil)) (nomark _))
        (pss_one (ps_ret (pe_ix ix_list (pe_fld (pv 0) rfl) (pe_fld (pv 0) rfl) (fun _ _ => rfl))))
        pss_nil)
      (pss_one (ps_ret pe_non))), ?_⟩
    try dsimp only [cxOf, Cx.nox, Cx.wish]
    walk_at "go"
    refine go_lenL (.of hw) ?_
    rw [List.length_map]
    walk_at "go"
    walk_at "br"
    · intro h
      walk_at "go"
      have hi : i < u.ws.length := by omega
      refine go_ixL (.of hw) (at_nat (by rw [List.getElem?_map, List.getElem?_eq_getElem hi]; rfl)) ?_
      walk_at "go"
      rw [List.getElem?_eq_getElem hi] at q
      exact q
    · intro h
      walk_at "go"
      rw [List.getElem?_eq_none (by omega)] at q
      exact q
end
end K13

namespace K13
open PySem PySem.Spec PyProof.Rows L2 Gx
section
variable {P : Program} {w : World} {K : PySem.W.Frag} {mg : Str → Option Value} {base : Heap} {A : Ad}
def sp__law_pool (K : PySem.W.Frag) : Sp := fun vs H Q _ => ∃ (a : Addr) (ns : List Int) (b : Int), vs = [.ref a, .int b] ∧ SqL K H a (ns.map V.int) ∧ ns.length ≤ 100000 ∧ ∀ (p : Pl) H', p.ns = ns → H p.a = none → H p.l = none → Same H H' → Pool H' p b → Q (.ref p.a) H'
theorem G__law_pool (T : Txt P K mg A) : FnOk P w K mg base CX0 1 A.f__law_pool A.d__law_pool ["_law_script", "_law_budget"] (sp__law_pool K) := by
  refine (T.F__law_pool.ok (k := 0) sc__law_pool (fun vs H Q E h => ?_) (fun cdv Ar outer s H vs Q E hr h => ?_))
  · obtain ⟨a, ns, b, rfl, _⟩ := h
    rfl
  · obtain ⟨a, ns, b, rfl, hs, hl, q⟩ := h
    refine ⟨_, (pss_one (ps_ret (pe_lst (pa_cons (pe_callTy k_list_of (by rfl) T.n_list (by decide +kernel) (pa_cons (pv 0) pa_nil)) (pa_cons pe_int (pa_cons pe_int (pa_cons pe_int (pa_cons pe_int (pa_cons (pv 1) pa_nil))))))))), ?_⟩
    try dsimp only [cxOf, Cx.nox, Cx.wish]
    walk_at "go"
    refine go_listOfL hs fun l hl => ?_
    walk_at "go"
    refine ⟨by show 6 ≤ sizeLine; decide, fun p hp => ?_⟩
    have n : l ≠ p := fun e => by rw [e, upd_same] at hp; cases hp
    exact q ⟨p, l, ns⟩ _ rfl (by rw [upd_ne n.symm] at hp; exact hp) hl ((same_new hl).trans (same_new hp)) ⟨⟨0, 0, 1, 0, upd_same, by decide, by decide, by decide⟩, by show upd _ p _ l = _; rw [upd_ne n, upd_same], n⟩
end
end K13

namespace K13
open PySem PySem.Spec PyProof.Rows L2 Gx
section
variable {P : Program} {w : World} {K : PySem.W.Frag} {mg : Str → Option Value} {base : Heap} {A : Ad}
def sp__law_draw (K : PySem.W.Frag) : Sp := fun vs H Q _ => ∃ (p : Pl) (b k : Int), vs = [.ref p.a, .int k] ∧ Pool H p b ∧ 0 < k ∧ k < 1073741824 ∧ ∀ v H', 0 ≤ v → v < k → Turn p b H H' → Q (.int v) H'
theorem G__law_draw (T : Txt P K mg A) : FnOk P w K mg base CX0 1 A.f__law_draw A.d__law_draw ["_law_pool_here", "_law_size"] (sp__law_draw K) := by
  refine (T.F__law_draw.ok (k := 0) sc__law_draw (fun vs H Q E h => ?_) (fun cdv Ar outer s H vs Q E hr h => ?_))
  · obtain ⟨p, b, k, rfl, _⟩ := h
    rfl
  · obtain ⟨p, b, k, rfl, hp, hk0, hk1, q⟩ := h
    obtain ⟨p1, p2, p3, p4, e, h1, h3, h3'⟩ := id hp.ex
    have hn := hp.ne
    have eli := hp.li
    refine ⟨_, (Evl.pss_cut (ps_if (PW.pt (pw_and (pt_cmpR op_le (pe_ix ix_list (pv 0) pe_int (fun _ _ => rfl)) pe_int (nomark _)) (pw_and (pt_cmpR op_le (pe_ix ix_list (pv 0) pe_int (fun _ _ => rfl)) pe_int (nomark _)) (pw_and1 (pt_cmpR op_lt (pe_ix ix_list (pv 0) pe_int (fun _ _ => rfl)) (pe_callB k_len (by rfl) T.n_len (by decide +kernel) (pa_cons (pe_ix ix_list (pv 0) pe_int (fun _ _ => rfl)) pa_nil)) (nomark _))))))
        (pss_cons (ps_set (i := 2) sc__law_draw.nd rfl (Or.inl rfl) (pe_ix ix_list (pe_ix ix_list (pv 0) pe_int (fun _ _ => rfl)) (pe_ix ix_list (pv 0) pe_int (fun _ _ => rfl)) (fun _ _ => rfl)))
      (pss_cons (ps_asg (pe_op op_add (pe_ix ix_list (pv 0) pe_int (fun _ _ => rfl)) pe_int) (pg_sub (pv 0) pe_int set_list))
      (pss_cons (ps_asg (pe_op op_mod (pe_callTy k_int1 (by rfl) T.n_int (by decide +kernel) (pa_cons (pe_op op_add (pe_op op_mul (pe_ix ix_list (pv 0) pe_int (fun _ _ => rfl)) pe_int) (pv 2)) pa_nil)) pe_int) (pg_sub (pv 0) pe_int set_list))
      (pss_cons (ps_asg pe_int (pg_sub (pv 0) pe_int set_list))
      (pss_one (ps_if (pt_cmpR op_ge (pv 2) (pe_op op_pow pe_int pe_int) (nomark _))
        (pss_one (ps_asg (pv 2) (pg_sub (pv 0) pe_int set_list)))
        pss_nil))))))
        pss_nil)
      (pss_cons (ps_if (pt_cmpR op_gt (pe_ix ix_list (pv 0) pe_int (fun _ _ => rfl)) pe_int (nomark _))
        (pss_cons (ps_set (i := 3) sc__law_draw.nd rfl (Or.inl rfl) (pe_op op_mod (pe_callTy k_int1 (by rfl) T.n_int (by decide +kernel) (pa_cons (pe_ix ix_list (pv 0) pe_int (fun _ _ => rfl)) pa_nil)) (pv 1)))
      (pss_cons (ps_asg (pe_op op_fdiv (pe_ix ix_list (pv 0) pe_int (fun _ _ => rfl)) (pv 1)) (pg_sub (pv 0) pe_int set_list))
      (pss_cons (ps_asg pe_int (pg_sub (pv 0) pe_int set_list))
      (pss_one (ps_ret (pv 3))))))
        pss_nil)
      (pss_cons (ps_asg (pe_op op_sub (pe_ix ix_list (pv 0) pe_int (fun _ _ => rfl)) pe_int) (pg_sub (pv 0) pe_int set_list))
      (pss_cons (ps_asg (pe_op op_mod (pe_callTy k_int1 (by rfl) T.n_int (by decide +kernel) (pa_cons (pe_op op_add (pe_op op_mul (pe_ix ix_list (pv 0) pe_int (fun _ _ => rfl)) pe_int) pe_int) pa_nil)) pe_int) (pg_sub (pv 0) pe_int set_list))
      (pss_one (ps_ret (pe_op op_mod (pe_op op_mod (pe_callTy k_int1 (by rfl) T.n_int (by decide +kernel) (pa_cons (pe_op op_add (pe_op op_mul (pe_ix ix_list (pv 0) pe_int (fun _ _ => rfl)) pe_int) pe_int) pa_nil)) pe_int) (pv 1)))))))), ?_⟩
    try dsimp only [cxOf, Cx.nox, Cx.wish]
    walk_at "go"
    refine go_cut (fun σ' H' => ∃ (x : Option V) (p1 p2 p3 p4 : Int), σ' = [some (.ref p.a), some (.int k), x, none] ∧ H' p.a = some (.lst [.ref p.l, .int p1, .int p2, .int p3, .int p4, .int b]) ∧ But p.a H H' ∧ 0 ≤ p1 ∧ 0 ≤ p3 ∧ p3 < 2147483647) ?_ ?_
    · walk_at "go"
      have skip : ∃ (x : Option V) (p1 p2 p3 p4 : Int), L2.start ["_law_pool_here", "_law_size", "_law_cell", "_law_value"] [.ref p.a, .int k] = [some (.ref p.a), some (.int k), x, none] ∧ H p.a = some (.lst [.ref p.l, .int p1, .int p2, .int p3, .int p4, .int b]) ∧ But p.a H H ∧ 0 ≤ p1 ∧ 0 ≤ p3 ∧ p3 < 2147483647 :=
        ⟨none, p1, p2, p3, p4, rfl, e, .refl _ _, h1, h3, h3'⟩
      walk_at "br"
      · intro _
        walk_at "go"
        walk_at "br"
        · intro _
          walk_at "go"
          refine go_lenL (.of eli) ?_
          walk_at "go"
          rw [List.length_map]
          walk_at "br"
          · intro h
            walk_at "go"
            refine go_ixL (.of eli) (at_int h1 h) ?_
            walk_at "go"
            generalize p.ns.getD p1.toNat 0 = c
            have hm := Int.emod_nonneg (p3 * 31 + c) (b := 2147483647) (by decide)
            have hm' := Int.emod_lt_of_pos (p3 * 31 + c) (b := 2147483647) (by decide)
            walk_at "br"
            · intro _
              walk_at "go"
              exact ⟨_, _, _, _, _, rfl, upd_same, (But.refl _ _).upd, by omega, hm, hm'⟩
            · intro _
              walk_at "go"
              exact ⟨_, _, _, _, _, rfl, upd_same, (But.refl _ _).upd, by omega, hm, hm'⟩
          · intro _
            walk_at "go"
            exact skip
        · intro _
          walk_at "go"
          exact skip
      · intro _
        walk_at "go"
        exact skip
    rintro σ2 H2 ⟨x, p1, p2, p3, p4, rfl, e2, b2, h1, h3, h3'⟩
    walk_at "go"
    have fin : ∀ (r1 r2 r3 r4 : Int), 0 ≤ r1 → 0 ≤ r3 → r3 < 2147483647 → Turn p b H (upd H2 p.a (.lst [.ref p.l, .int r1, .int r2, .int r3, .int r4, .int b])) := fun r1 r2 r3 r4 k1 k3 k4 =>
      ⟨⟨⟨r1, r2, r3, r4, upd_same, k1, k3, k4⟩, b2.upd _ _ hn hp.li, hn⟩, b2.upd⟩
    walk_at "br"
    · intro _
      walk_at "go"
      refine q _ _ (Int.emod_nonneg _ (by omega)) (Int.emod_lt_of_pos _ hk0) (fin p1 (p2 / k) p3 0 h1 h3 h3')
    · intro _
      walk_at "go"
      refine q _ _ (Int.emod_nonneg _ (by omega)) (Int.emod_lt_of_pos _ hk0) (fin p1 p2 _ (p4 - 1) h1 (Int.emod_nonneg _ (by decide)) (Int.emod_lt_of_pos _ (by decide)))
end
end K13

namespace K13
open PySem PySem.Spec PyProof.Rows L2 Gx
section
variable {P : Program} {w : World} {K : PySem.W.Frag} {mg : Str → Option Value} {base : Heap} {A : Ad}
def sp__law_spend (K : PySem.W.Frag) : Sp := fun vs H Q _ => ∃ (p : Pl) (b : Int), vs = [.ref p.a] ∧ Pool H p b ∧ ∀ (r : Bool) H', Turn p (b - 1) H H' → Q (.bl r) H'
theorem G__law_spend (T : Txt P K mg A) : FnOk P w K mg base CX0 1 A.f__law_spend A.d__law_spend ["_law_pool_here"] (sp__law_spend K) := by
  refine (T.F__law_spend.ok (k := 0) sc__law_spend (fun vs H Q E h => ?_) (fun cdv Ar outer s H vs Q E hr h => ?_))
  · obtain ⟨p, b, rfl, _⟩ := h
    rfl
  · obtain ⟨p, b, rfl, hp, q⟩ := h
    obtain ⟨p1, p2, p3, p4, e, h1, h3, h4⟩ := id hp.ex
    refine ⟨_, (pss_cons (ps_asg (pe_op op_sub (pe_ix ix_list (pv 0) pe_int (fun _ _ => rfl)) pe_int) (pg_sub (pv 0) pe_int set_list))
      (pss_one (ps_ret (pe_cmpR op_ge (pe_ix ix_list (pv 0) pe_int (fun _ _ => rfl)) pe_int (nomark _))))), ?_⟩
    try dsimp only [cxOf, Cx.nox, Cx.wish]
    walk_at "go"
    exact q _ _ ⟨⟨⟨p1, p2, p3, p4, upd_same, h1, h3, h4⟩, by rw [upd_ne hp.ne]; exact hp.li, hp.ne⟩, (But.refl _ _).upd⟩
end
end K13

namespace K13
open PySem PySem.Spec PyProof.Rows L2 Gx
section
variable {P : Program} {w : World} {K : PySem.W.Frag} {mg : Str → Option Value} {base : Heap} {A : Ad}
def sp__law_keys (K : PySem.W.Frag) : Sp := fun vs H Q _ => vs = [] ∧ ∀ p H', Same H H' → H p = none → H' p = some (.lst (keysS.map V.str)) → Q (.ref p) H'
theorem G__law_keys (T : Txt P K mg A) : FnOk P w K mg base CX0 1 A.f__law_keys A.d__law_keys [] (sp__law_keys K) := by
  refine (T.F__law_keys.ok (k := 0) sc__law_keys (fun vs H Q E h => ?_) (fun cdv Ar outer s H vs Q E hr h => ?_))
  · obtain ⟨rfl, _⟩ := h
    rfl
  · obtain ⟨rfl, q⟩ := h
    refine ⟨_, (pss_cons (ps_set (i := 0) sc__law_keys.nd rfl (Or.inl rfl) pe_str)
      (pss_one (ps_ret (e_split (pe_op o_add_str (pv 0) pe_str) pe_str)))), ?_⟩
    try dsimp only [cxOf, Cx.nox, Cx.wish]
    walk_at "go"
    refine go_addS (by decide +kernel) ?_
    walk_at "go"
    refine go_splitX (c := 32) (by decide +kernel) (by decide) fun p hp => q p _ (same_new hp) hp ?_
    rw [upd_same, keys_split]
end
end K13

namespace K13
open PySem PySem.Spec PyProof.Rows L2 Gx
section
variable {P : Program} {w : World} {K : PySem.W.Frag} {mg : Str → Option Value} {base : Heap} {A : Ad}
def sp__law_few (K : PySem.W.Frag) : Sp := fun vs H Q _ => ∃ (p : Pl) (b m : Int), vs = [.ref p.a, .int m] ∧ Pool H p b ∧ 0 ≤ m ∧ m < 1000 ∧ ∀ v H', 0 ≤ v → v ≤ m → Turn p b H H' → Q (.int v) H'
theorem G__law_few (T : Txt P K mg A) : FnOk P w K mg base CX0 2 A.f__law_few A.d__law_few ["_law_pool_here", "_law_most"] (sp__law_few K) := by
  refine (T.F__law_few.ok (k := 1) sc__law_few (fun vs H Q E h => ?_) (fun cdv Ar outer s H vs Q E hr h => ?_))
  · obtain ⟨p, b, m, rfl, _⟩ := h
    rfl
  · obtain ⟨p, b, m, rfl, hp, hm0, hm1, q⟩ := h
    refine ⟨_, (pss_cons (ps_set (i := 2) sc__law_few.nd rfl (Or.inl rfl) (pe_call (G__law_draw T) (hr.mono (by decide)) rfl T.m__law_draw T.F__law_draw.kp T.b__law_draw .nil pass0 (pa_cons (pv 0) (pa_cons pe_int pa_nil))))
      (pss_cons (ps_if (pt_cmpR op_eq (pv 2) pe_int (nomark _))
        (pss_one (ps_ret (pe_call (G__law_draw T) (hr.mono (by decide)) rfl T.m__law_draw T.F__law_draw.kp T.b__law_draw .nil pass0 (pa_cons (pv 0) (pa_cons (pe_op op_add (pv 1) pe_int) pa_nil)))))
        pss_nil)
      (pss_one (ps_ret (pe_callB (k_min2 rfl) (by rfl) T.n_min (by decide +kernel) (pa_cons (pv 2) (pa_cons (pv 1) pa_nil))))))), ?_⟩
    try dsimp only [cxOf, Cx.nox, Cx.wish]
    walk_at "go"
    refine ⟨p, b, 4, rfl, hp, by decide, by decide, fun v H1 hv0 hv1 t1 => ?_⟩
    walk_at "go"
    walk_at "br"
    · intro _
      walk_at "go"
      exact ⟨p, b, m + 1, rfl, t1.pool, by omega, by omega, fun v H2 h0 h1 t2 => q _ _ h0 (by omega) (t1.trans t2)⟩
    · intro _
      walk_at "go"
      exact q _ _ (by split <;> omega) (by split <;> omega) t1
end
end K13

namespace K13
open PySem PySem.Spec PyProof.Rows L2 Gx
section
variable {P : Program} {w : World} {K : PySem.W.Frag} {mg : Str → Option Value} {base : Heap} {A : Ad}
def sp__law_number (K : PySem.W.Frag) : Sp := fun vs H Q _ => ∃ (p : Pl) (b : Int), vs = [.ref p.a] ∧ Pool H p b ∧ ∀ v H', 0 ≤ v → v < 65536 → Turn p b H H' → Q (.int v) H'
theorem G__law_number (T : Txt P K mg A) : FnOk P w K mg base CX0 2 A.f__law_number A.d__law_number ["_law_pool_here"] (sp__law_number K) := by
  refine (T.F__law_number.ok (k := 1) sc__law_number (fun vs H Q E h => ?_) (fun cdv Ar outer s H vs Q E hr h => ?_))
  · obtain ⟨p, b, rfl, _⟩ := h
    rfl
  · obtain ⟨p, b, rfl, hp, q⟩ := h
    refine ⟨_, (pss_cons (ps_if (pt_cmpR op_eq (pe_call (G__law_draw T) (hr.mono (by decide)) rfl T.m__law_draw T.F__law_draw.kp T.b__law_draw .nil pass0 (pa_cons (pv 0) (pa_cons pe_int pa_nil))) pe_int (nomark _))
        (pss_one (ps_ret (pe_call (G__law_draw T) (hr.mono (by decide)) rfl T.m__law_draw T.F__law_draw.kp T.b__law_draw .nil pass0 (pa_cons (pv 0) (pa_cons pe_int pa_nil)))))
        pss_nil)
      (pss_one (ps_ret (pe_call (G__law_draw T) (hr.mono (by decide)) rfl T.m__law_draw T.F__law_draw.kp T.b__law_draw .nil pass0 (pa_cons (pv 0) (pa_cons pe_int pa_nil)))))), ?_⟩
    try dsimp only [cxOf, Cx.nox, Cx.wish]
    walk_at "go"
    refine ⟨p, b, 3, rfl, hp, by decide, by decide, fun v H1 hv0 hv1 t1 => ?_⟩
    walk_at "go"
    walk_at "br"
    · intro _
      walk_at "go"
      exact ⟨p, b, 65536, rfl, t1.pool, by decide, by decide, fun v H2 h0 h1 t2 => q _ _ h0 h1 (t1.trans t2)⟩
    · intro _
      walk_at "go"
      exact ⟨p, b, 9, rfl, t1.pool, by decide, by decide, fun v H2 h0 h1 t2 => q _ _ h0 (by omega) (t1.trans t2)⟩
end
end K13

namespace K13
open PySem PySem.Spec PyProof.Rows L2 Gx
section
variable {P : Program} {w : World} {K : PySem.W.Frag} {mg : Str → Option Value} {base : Heap} {A : Ad}
def sp__law_name (K : PySem.W.Frag) : Sp := fun vs H Q _ => ∃ (p : Pl) (b : Int) (l : Addr) (ts : List Str), vs = [.ref p.a, .ref l] ∧ Pool H p b ∧ H l = some (.lst (ts.map V.str)) ∧ l ≠ p.a ∧ ts.length < 20 ∧ ∀ (x : Str) H', isName x = true → x ∉ ts → Turn p b H H' → Q (.str x) H'
theorem G__law_name (T : Txt P K mg A) : FnOk P w K mg base CX0 3 A.f__law_name A.d__law_name ["_law_pool_here", "_law_taken"] (sp__law_name K) := by
  refine (T.F__law_name.ok (k := 2) sc__law_name (fun vs H Q E h => ?_) (fun cdv Ar outer s H vs Q E hr h => ?_))
  · obtain ⟨p, b, l, ts, rfl, _⟩ := h
    rfl
  · obtain ⟨p, b, l, ts, rfl, hp, hl, hla, hts, q⟩ := h
    have sg : (Str.ofString "abcdefghijklmnopqrstuvwxyz0123456789").length = 36 := by decide +kernel
    refine ⟨_, (pss_cons (ps_set (i := 2) sc__law_name.nd rfl (Or.inl rfl) pe_str)
      (pss_cons (ps_set (i := 3) sc__law_name.nd rfl (Or.inl rfl) (pe_ix ix_str (pv 2) (pe_call (G__law_draw T) (hr.mono (by decide)) rfl T.m__law_draw T.F__law_draw.kp T.b__law_draw .nil pass0 (pa_cons (pv 0) (pa_cons pe_int pa_nil))) (fun _ _ => rfl)))
      (pss_cons (ps_for PassesOwn.never rfl (pi_range1 rfl T.n_range (pa_cons (pe_call (G__law_few T) (hr.mono (by decide)) rfl T.m__law_few T.F__law_few.kp T.b__law_few .nil pass0 (pa_cons (pv 0) (pa_cons pe_int pa_nil))) pa_nil)) (pg_name (i := 4) sc__law_name.nd rfl (Or.inl rfl))
        (pss_one (ps_set (i := 3) sc__law_name.nd rfl (Or.inl rfl) (pe_op o_add_str (pv 3) (pe_ix ix_str (pv 2) (pe_call (G__law_draw T) (hr.mono (by decide)) rfl T.m__law_draw T.F__law_draw.kp T.b__law_draw .nil pass0 (pa_cons (pv 0) (pa_cons pe_int pa_nil))) (fun _ _ => rfl))))))
      (Evl.pss_cut (ps_if (PW.pt (pw_or (pt_cmpR op_in_seq (pv 3) (pv 1) (by rfl)) (pw_or1 (pt_cmpR op_in_seq (pv 3) (pe_call0 (G__law_keys T) (hr.mono (by decide)) rfl T.m__law_keys T.F__law_keys.kp T.b__law_keys .nil pass0) (by rfl)))))
        (pss_one (ps_for PassesOwn.never rfl (pi_range1 rfl T.n_range (pa_cons pe_int pa_nil)) (pg_name (i := 4) sc__law_name.nd rfl (Or.inl rfl))
        (pss_one (ps_if (pt_cmpR op_notIn_seq (pe_op o_add_str pe_str (pe_callTy k_str_int (by rfl) T.n_str (by decide +kernel) (pa_cons (pv 4) pa_nil))) (pv 1) (by rfl))
        (pss_one (ps_set (i := 3) sc__law_name.nd rfl (Or.inl rfl) (pe_op o_add_str pe_str (pe_callTy k_str_int (by rfl) T.n_str (by decide +kernel) (pa_cons (pv 4) pa_nil)))))
        pss_nil))))
        pss_nil)
      (pss_one (ps_ret (pv 3))))))), ?_⟩
    try dsimp only [cxOf, Cx.nox, Cx.wish]
    walk_at "go"
    refine ⟨p, b, 26, rfl, hp, by decide, by decide, fun v H1 h0 h1 t1 => ?_⟩
    obtain ⟨c, hc⟩ := atS_ex (z := "abcdefghijklmnopqrstuvwxyz0123456789") h0 (by rw [sg]; omega)
    have hcl := sign_let hc h0 h1
    walk_at "go"
    refine go_ixS (by rw [sg]; decide) hc ?_
    walk_at "go"
    refine ⟨p, b, 11, rfl, t1.pool, by decide, by decide, fun n H2 hn0 hn1 t2 => ?_⟩
    walk_at "go"
    refine foR1 (fun i σ' H' => ∃ (x : Str) (v : Option V), σ' = [some (.ref p.a), some (.ref l), some (.str "abcdefghijklmnopqrstuvwxyz0123456789"), some (.str x), v] ∧ Body x (i + 1) ∧ Turn p b H H') (by omega)
      ⟨_, _, rfl, .one hcl, t1.trans t2⟩ ?_ ?_
    · rintro i σ' H3 hi ⟨x, v, rfl, hx, t3⟩
      walk_at "go"
      refine ⟨p, b, 36, rfl, t3.pool, by decide, by decide, fun v4 H4 h40 h41 t4 => ?_⟩
      obtain ⟨c4, hc4⟩ := atS_ex (z := "abcdefghijklmnopqrstuvwxyz0123456789") h40 (by rw [sg]; omega)
      walk_at "go"
      refine go_ixS (by rw [sg]; decide) hc4 ?_
      walk_at "go"
      have l1 : (⟨#[c4]⟩ : Str).length = 1 := rfl
      have l2 := hx.len
      refine go_addS (sz (by omega)) ?_
      walk_at "go"
      exact ⟨_, _, rfl, hx.snoc (sign_any hc4), t3.trans t4⟩
    rintro σ' H3 ⟨x, v, rfl, hx, t3⟩
    have hl3 := t3.but _ _ hla hl
    walk_at "go"
    refine go_cut (fun σ' H' => ∃ (y : Str) (v : Option V), σ' = [some (.ref p.a), some (.ref l), some (.str "abcdefghijklmnopqrstuvwxyz0123456789"), some (.str y), v] ∧ isName y = true ∧ y ∉ ts ∧ Turn p b H H') ?_ ?_
    · have inner : ∀ H4, Turn p b H H4 → tFor (iRng1 (tCons (tC (.int 20)) tNil)) (gName 4) (tIfS (tTest (tOp (rIn K true) (tOp qAddS (tC (.str "v")) (tCB qStrInt (tCons (tVar 4) tNil))) (tVar 1))) (tAsg (tOp qAddS (tC (.str "v")) (tCB qStrInt (tCons (tVar 4) tNil))) (gName 3)) tNext)
          { nx := fun σ' H' => ∃ (y : Str) (v : Option V), σ' = [some (.ref p.a), some (.ref l), some (.str "abcdefghijklmnopqrstuvwxyz0123456789"), some (.str y), v] ∧ isName y = true ∧ y ∉ ts ∧ Turn p b H H', rt := Q } [some (.ref p.a), some (.ref l), some (.str "abcdefghijklmnopqrstuvwxyz0123456789"), some (.str x), v] H4 := fun H4 t4 => by
        have hl4 := t4.but _ _ hla hl
        walk_at "go"
        refine foR1 (fun i σ' H' => ∃ (y : Str) (v : Option V), σ' = [some (.ref p.a), some (.ref l), some (.str "abcdefghijklmnopqrstuvwxyz0123456789"), some (.str y), v] ∧ ((∀ k, k < i → vName k ∈ ts) ∨ (isName y = true ∧ y ∉ ts)) ∧ H' = H4) (by decide) ⟨x, v, rfl, .inl (fun k hk => nomatch hk), rfl⟩ ?_ ?_
        · rintro i σ' H5 hi ⟨y, v, rfl, hy, rfl⟩
          have hk : (Str.ofString (toString ((i : Nat) : Int))).length ≤ 2 := by
            rw [SX.num_S, SX.S_len]
            exact TL.numL_len (by decide) (by omega)
          have hv1 : (Str.ofString "v").length = 1 := by decide +kernel
          have ev : Str.ofString "v" ++ Str.ofString (toString ((i : Nat) : Int)) = vName i := by
            rw [SX.num_S]
            rfl
          walk_at "go"
          refine go_str_int (by rw [Int.natAbs_natCast]; exact log2_10 (k := 2) (by omega) (by decide)) ?_
          walk_at "go"
          refine go_addS (sz (by omega)) ?_
          walk_at "go"
          rw [ev]
          refine go_niStrs (.inl (.of hl4)) ?_
          walk_at "go"
          walk_at "br"
          · intro h
            walk_at "go"
            refine go_str_int (by rw [Int.natAbs_natCast]; exact log2_10 (k := 2) (by omega) (by decide)) ?_
            walk_at "go"
            refine go_addS (sz (by omega)) ?_
            walk_at "go"
            rw [ev]
            exact ⟨_, _, rfl, .inr ⟨vName_ok (by omega), any_not h⟩, rfl⟩
          · intro h
            walk_at "go"
            refine ⟨y, _, rfl, ?_, rfl⟩
            rcases hy with hy | hy
            · refine .inl fun k hk2 => ?_
              by_cases e : k = i
              · subst e
                exact any_yes h
              · exact hy k (by omega)
            · exact .inr hy
        · rintro σ' H5 ⟨y, v, rfl, hy, rfl⟩
          rcases hy with hy | hy
          · exact absurd hts (by have := pig20 (fun k hk => hy k hk); omega)
          · exact ⟨y, v, rfl, hy.1, hy.2, t4⟩
      walk_at "go"
      refine go_inStrs (.inl (.of hl3)) ?_
      walk_at "go"
      walk_at "br"
      · intro _
        exact inner H3 t3
      intro h1
      walk_at "go"
      refine ⟨rfl, fun pk H4 s4 n4 e4 => ?_⟩
      walk_at "go"
      refine go_inStrs (.inl (.of e4)) ?_
      walk_at "go"
      walk_at "br"
      · intro _
        exact inner H4 (t3.same s4)
      intro h2
      walk_at "go"
      exact ⟨x, v, rfl, hx.name (by omega) h2, any_no h1, t3.same s4⟩
    rintro σ' H4 ⟨y, v, rfl, hy, hy2, t4⟩
    walk_at "go"
    exact q _ _ hy hy2 t4
end
end K13

namespace K13
open PySem PySem.Spec PyProof.Rows L2 Gx
section
variable {P : Program} {w : World} {K : PySem.W.Frag} {mg : Str → Option Value} {base : Heap} {A : Ad}
def sp_Cursor_take_word (K : PySem.W.Frag) (C B : Addr) : Sp := fun vs H Q E => ∃ (u : Cu) (i : Nat) (m b : Int) (x : Str), vs = [.ref u.c, .str x] ∧ Cur C H u i m b ∧ u.ws.length ≤ 100000 ∧ (∀ x ∈ u.ws, x.length ≤ 1000) ∧ (∀ r H', wordR x u.ws[i]? = some r → But u.c H H' → Cur C H' u ((i : Int) + 1) m b → Q r H') ∧ (wordR x u.ws[i]? = none → ∀ d, H d = none → E (.ref B) (some d) (upd H d (.xd [("at", .int i)])))
theorem G_Cursor_take_word (T : Txt P K mg A) : FnOk P w K mg base (L2.CX P w) 4 A.f_Cursor_take_word A.d_Cursor_take_word ["self", "word"] (sp_Cursor_take_word K A.c_Cursor A.c_BadText) := by
  refine (T.F_Cursor_take_word.okX (k := 3) sc_Cursor_take_word (fun vs H Q E h => ?_) (fun cdv Ar outer s H vs Q E hr h => ?_))
  · obtain ⟨u, i, m, b, x, rfl, _⟩ := h
    rfl
  · obtain ⟨u, i, m, b, x, rfl, hu, hz, hx, q1, q2⟩ := h
    obtain ⟨⟨dx, ho⟩, hw, hol, hvl⟩ := id hu
    have cl := T.cl_Cursor
    have na_words := T.na_Cursor_words
    have na_options := T.na_Cursor_options
    have na_variables := T.na_Cursor_variables
    have na_sees := T.na_Cursor_sees
    have na_at := T.na_Cursor_at
    have na_moves := T.na_Cursor_moves
    have na_branchings := T.na_Cursor_branchings

    have pas : ∀ r, (∀ H', But u.c H H' → Cur A.c_Cursor H' u ((i : Int) + 1) m b → Q r H') → Q r (upd H u.c (.ins A.c_Cursor dx (putF "at" (.int ((i : Int) + 1)) (F_Cursor (.ref u.l) (.ref u.o) (.ref u.v) (.bl u.sees) (.int i) (.int m) (.int b))))) := fun r hr => by
      have ne : ∀ {x : Addr} {ys : List V}, H x = some (.lst ys) → x ≠ u.c := fun h z => by rw [z, ho] at h; cases h
      refine hr _ (fun c o n e => by rw [upd_ne n]; exact e) ⟨⟨dx, ?_⟩, ?_, ?_, ?_⟩
      · rw [F_Cursor_put_at]
        exact upd_same
      · rw [upd_ne (ne hw)]
        exact hw
      · rw [upd_ne (ne hol)]
        exact hol
      · rw [upd_ne (ne hvl)]
        exact hvl
    refine ⟨_, (pss_cons (ps_if (pt_cmpR op_ne (pe_prop (pv 0) T.cl_Cursor T.pr_Cursor_word (G_Cursor_word T) (hr.mono (by decide)) T.b_Cursor_word .nil pass0 rfl) (pv 1) (nomark _))
        (pss_one (ps_raiseErr rfl T.er_BadText hr T.m_BadText (takes_of rfl rfl rfl rfl) (pa_cons (pe_fld (pv 0) rfl) pa_nil)))
        pss_nil)
      (pss_one (ps_fldaug (pv 0) pe_int in_add))), ?_⟩
    try dsimp only [cxOf, Cx.nox, Cx.wish]
    walk_at "go"
    refine ⟨_, _, _, rfl, ho, u, i, m, b, rfl, hu, hz, ?_⟩

    cases e : u.ws[i]? with
    | none =>
      rw [e] at q2
      show _
      unfold optS
      walk_at "go"
      exact ⟨_, rfl, fun d hd => q2 rfl d hd⟩
    | some y =>
      rw [e] at q1 q2
      unfold optS
      walk_at "go"
      walk_at "br"
      · intro h
        walk_at "go"
        exact ⟨_, rfl, fun d hd => q2 (if_neg h) d hd⟩
      · intro h
        walk_at "go"
        refine go_faI ho cl na_at F_Cursor_at (by show 7 < 1000; decide) ?_
        walk_at "go"
        exact pas .non fun H' => q1 _ H' (if_pos h)
end
end K13

namespace K13
open PySem PySem.Spec PyProof.Rows L2 Gx
section
variable {P : Program} {w : World} {K : PySem.W.Frag} {mg : Str → Option Value} {base : Heap} {A : Ad}
def sp_Cursor_take_number (K : PySem.W.Frag) (C B : Addr) : Sp := fun vs H Q E => ∃ (u : Cu) (i : Nat) (m b : Int) (lo hi : Int), vs = [.ref u.c, .int lo, .int hi] ∧ Cur C H u i m b ∧ u.ws.length ≤ 100000 ∧ (∀ x ∈ u.ws, x.length ≤ 1000) ∧ (∀ r H', numR lo hi u.ws[i]? = some r → But u.c H H' → Cur C H' u ((i : Int) + 1) m b → Q r H') ∧ (numR lo hi u.ws[i]? = none → ∀ d, H d = none → E (.ref B) (some d) (upd H d (.xd [("at", .int i)])))
theorem G_Cursor_take_number (T : Txt P K mg A) : FnOk P w K mg base (L2.CX P w) 4 A.f_Cursor_take_number A.d_Cursor_take_number ["self", "least", "most"] (sp_Cursor_take_number K A.c_Cursor A.c_BadText) := by
  refine (T.F_Cursor_take_number.okX (k := 3) sc_Cursor_take_number (fun vs H Q E h => ?_) (fun cdv Ar outer s H vs Q E hr h => ?_))
  · obtain ⟨u, i, m, b, lo, hi, rfl, _⟩ := h
    rfl
  · obtain ⟨u, i, m, b, lo, hi, rfl, hu, hz, hx, q1, q2⟩ := h
    obtain ⟨⟨dx, ho⟩, hw, hol, hvl⟩ := id hu
    have cl := T.cl_Cursor
    have na_words := T.na_Cursor_words
    have na_options := T.na_Cursor_options
    have na_variables := T.na_Cursor_variables
    have na_sees := T.na_Cursor_sees
    have na_at := T.na_Cursor_at
    have na_moves := T.na_Cursor_moves
    have na_branchings := T.na_Cursor_branchings

    have pas : ∀ r, (∀ H', But u.c H H' → Cur A.c_Cursor H' u ((i : Int) + 1) m b → Q r H') → Q r (upd H u.c (.ins A.c_Cursor dx (putF "at" (.int ((i : Int) + 1)) (F_Cursor (.ref u.l) (.ref u.o) (.ref u.v) (.bl u.sees) (.int i) (.int m) (.int b))))) := fun r hr => by
      have ne : ∀ {x : Addr} {ys : List V}, H x = some (.lst ys) → x ≠ u.c := fun h z => by rw [z, ho] at h; cases h
      refine hr _ (fun c o n e => by rw [upd_ne n]; exact e) ⟨⟨dx, ?_⟩, ?_, ?_, ?_⟩
      · rw [F_Cursor_put_at]
        exact upd_same
      · rw [upd_ne (ne hw)]
        exact hw
      · rw [upd_ne (ne hol)]
        exact hol
      · rw [upd_ne (ne hvl)]
        exact hvl
    refine ⟨_, (pss_cons (ps_set (i := 3) sc_Cursor_take_number.nd rfl (Or.inl rfl) (pe_prop (pv 0) T.cl_Cursor T.pr_Cursor_word (G_Cursor_word T) (hr.mono (by decide)) T.b_Cursor_word .nil pass0 rfl))
      (pss_cons (ps_set (i := 4) sc_Cursor_take_number.nd rfl (Or.inl rfl) pe_non)
      (pss_cons (ps_if (pt_cmpR o_notN (pv 3) pe_non (nomark _))
        (pss_one (ps_set (i := 4) sc_Cursor_take_number.nd rfl (Or.inl rfl) (pe_call (G_number_of T) (hr.mono (by decide)) rfl T.m_number_of T.F_number_of.kp T.b_number_of .nil pass0 (pa_cons (pv 3) pa_nil))))
        pss_nil)
      (pss_cons (ps_if (PW.pt (pw_or (pt_cmpR o_isN (pv 4) pe_non (nomark _)) (pw_or1 (pt_not (pt_chain op_le op_le (pv 1) (pv 4) (pv 2))))))
        (pss_one (ps_raiseErr rfl T.er_BadText hr T.m_BadText (takes_of rfl rfl rfl rfl) (pa_cons (pe_fld (pv 0) rfl) pa_nil)))
        pss_nil)
      (pss_cons (ps_fldaug (pv 0) pe_int in_add)
      (pss_one (ps_ret (pv 4)))))))), ?_⟩
    try dsimp only [cxOf, Cx.nox, Cx.wish]
    walk_at "go"
    refine ⟨_, _, _, rfl, ho, u, i, m, b, rfl, hu, hz, ?_⟩

    cases e : u.ws[i]? with
    | none =>
      rw [e] at q2
      unfold optS
      walk_at "go"
      exact ⟨_, rfl, fun d hd => q2 rfl d hd⟩
    | some y =>
      rw [e] at q1 q2
      unfold optS
      walk_at "go"
      refine ⟨y, rfl, hx y (List.mem_of_getElem? e), fun v hv => ?_⟩
      subst hv
      unfold numR at q1 q2
      cases en : numOf y with
      | none =>
        simp only [en] at q1 q2
        unfold optV
        walk_at "go"
        exact ⟨_, rfl, fun d hd => q2 trivial d hd⟩
      | some n =>
        simp only [en] at q1 q2
        unfold optV
        walk_at "go"
        walk_at "br"
        · intro h
          walk_at "go"
          walk_at "br"
          · intro h2
            walk_at "go"
            exact ⟨_, rfl, fun d hd => q2 (if_neg fun z => h2 z.2) d hd⟩
          · intro h2
            walk_at "go"
            refine go_faI ho cl na_at F_Cursor_at (by show 7 < 1000; decide) ?_
            walk_at "go"
            exact pas (.int n) fun H' => q1 _ H' (if_pos ⟨h, h2⟩)
        · intro h
          walk_at "go"
          exact ⟨_, rfl, fun d hd => q2 (if_neg fun z => h z.1) d hd⟩
end
end K13

namespace K13
open PySem PySem.Spec PyProof.Rows L2 Gx
section
variable {P : Program} {w : World} {K : PySem.W.Frag} {mg : Str → Option Value} {base : Heap} {A : Ad}
def sp_Cursor_take_name (K : PySem.W.Frag) (C B : Addr) : Sp := fun vs H Q E => ∃ (u : Cu) (i : Nat) (m b : Int) (n : Addr) (xs : List Str), vs = [.ref u.c, .ref n] ∧ Cur C H u i m b ∧ u.ws.length ≤ 100000 ∧ (∀ x ∈ u.ws, x.length ≤ 1000) ∧ H n = some (.lst (xs.map V.str)) ∧ (∀ r H', nameR xs u.ws[i]? = some r → But u.c H H' → Cur C H' u ((i : Int) + 1) m b → Q r H') ∧ (nameR xs u.ws[i]? = none → ∀ d, H d = none → E (.ref B) (some d) (upd H d (.xd [("at", .int i)])))
theorem G_Cursor_take_name (T : Txt P K mg A) : FnOk P w K mg base (L2.CX P w) 4 A.f_Cursor_take_name A.d_Cursor_take_name ["self", "names"] (sp_Cursor_take_name K A.c_Cursor A.c_BadText) := by
  refine (T.F_Cursor_take_name.okX (k := 3) sc_Cursor_take_name (fun vs H Q E h => ?_) (fun cdv Ar outer s H vs Q E hr h => ?_))
  · obtain ⟨u, i, m, b, n, xs, rfl, _⟩ := h
    rfl
  · obtain ⟨u, i, m, b, n, xs, rfl, hu, hz, hx, hn, q1, q2⟩ := h
    obtain ⟨⟨dx, ho⟩, hw, hol, hvl⟩ := id hu
    have cl := T.cl_Cursor
    have na_words := T.na_Cursor_words
    have na_options := T.na_Cursor_options
    have na_variables := T.na_Cursor_variables
    have na_sees := T.na_Cursor_sees
    have na_at := T.na_Cursor_at
    have na_moves := T.na_Cursor_moves
    have na_branchings := T.na_Cursor_branchings

    have pas : ∀ r, (∀ H', But u.c H H' → Cur A.c_Cursor H' u ((i : Int) + 1) m b → Q r H') → Q r (upd H u.c (.ins A.c_Cursor dx (putF "at" (.int ((i : Int) + 1)) (F_Cursor (.ref u.l) (.ref u.o) (.ref u.v) (.bl u.sees) (.int i) (.int m) (.int b))))) := fun r hr => by
      have ne : ∀ {x : Addr} {ys : List V}, H x = some (.lst ys) → x ≠ u.c := fun h z => by rw [z, ho] at h; cases h
      refine hr _ (fun c o n e => by rw [upd_ne n]; exact e) ⟨⟨dx, ?_⟩, ?_, ?_, ?_⟩
      · rw [F_Cursor_put_at]
        exact upd_same
      · rw [upd_ne (ne hw)]
        exact hw
      · rw [upd_ne (ne hol)]
        exact hol
      · rw [upd_ne (ne hvl)]
        exact hvl
    refine ⟨_, (pss_cons (ps_set (i := 2) sc_Cursor_take_name.nd rfl (Or.inl rfl) (pe_prop (pv 0) T.cl_Cursor T.pr_Cursor_word (G_Cursor_word T) (hr.mono (by decide)) T.b_Cursor_word .nil pass0 rfl))
      (pss_cons (ps_if (PW.pt (pw_or (pt_cmpR o_isN (pv 2) pe_non (nomark _)) (pw_or1 (pt_cmpR op_notIn_seq (pv 2) (pv 1) (by rfl)))))
        (pss_one (ps_raiseErr rfl T.er_BadText hr T.m_BadText (takes_of rfl rfl rfl rfl) (pa_cons (pe_fld (pv 0) rfl) pa_nil)))
        pss_nil)
      (pss_cons (ps_fldaug (pv 0) pe_int in_add)
      (pss_one (ps_ret (pv 2)))))), ?_⟩
    try dsimp only [cxOf, Cx.nox, Cx.wish]
    walk_at "go"
    refine ⟨_, _, _, rfl, ho, u, i, m, b, rfl, hu, hz, ?_⟩

    cases e : u.ws[i]? with
    | none =>
      rw [e] at q2
      unfold optS
      walk_at "go"
      exact ⟨_, rfl, fun d hd => q2 rfl d hd⟩
    | some y =>
      rw [e] at q1 q2
      unfold optS
      walk_at "go"
      refine go_niStrs (.inl (.of hn)) ?_
      walk_at "go"
      walk_at "br"
      · intro h
        walk_at "go"
        exact ⟨_, rfl, fun d hd => q2 (if_neg (any_not h)) d hd⟩
      · intro h
        walk_at "go"
        refine go_faI ho cl na_at F_Cursor_at (by show 7 < 1000; decide) ?_
        walk_at "go"
        exact pas (.str y) fun H' => q1 _ H' (if_pos (any_yes h))
end
end K13

namespace K13
open PySem PySem.Spec PyProof.Rows L2 Gx
section
variable {P : Program} {w : World} {K : PySem.W.Frag} {mg : Str → Option Value} {base : Heap} {A : Ad}
def sp__law_names (K : PySem.W.Frag) : Sp := fun vs H Q _ => ∃ (p : Pl) (b m : Int), vs = [.ref p.a, .int m] ∧ Pool H p b ∧ 0 ≤ m ∧ m < 20 ∧ ∀ l (xs : List Str) H', H l = none → H' l = some (.lst (xs.map V.str)) → (xs.length : Int) ≤ m → xs.Nodup → (∀ x ∈ xs, isName x = true) → Turn p b H H' → Q (.ref l) H'
theorem G__law_names (T : Txt P K mg A) : FnOk P w K mg base CX0 4 A.f__law_names A.d__law_names ["_law_pool_here", "_law_most"] (sp__law_names K) := by
  refine (T.F__law_names.ok (k := 3) sc__law_names (fun vs H Q E h => ?_) (fun cdv Ar outer s H vs Q E hr h => ?_))
  · obtain ⟨p, b, m, rfl, _⟩ := h
    rfl
  · obtain ⟨p, b, m, rfl, hp, hm0, hm1, q⟩ := h
    refine ⟨_, (pss_cons (ps_set (i := 2) sc__law_names.nd rfl (Or.inl rfl) (pe_lst pa_nil))
      (pss_cons (ps_for PassesOwn.never rfl (pi_range1 rfl T.n_range (pa_cons (pe_call (G__law_few T) (hr.mono (by decide)) rfl T.m__law_few T.F__law_few.kp T.b__law_few .nil pass0 (pa_cons (pv 0) (pa_cons (pv 1) pa_nil))) pa_nil)) (pg_name (i := 3) sc__law_names.nd rfl (Or.inl rfl))
        (pss_one (ps_expr (pe_bm PySem.F.plainAttrs_list PySem.F.slot_list_append PySem.F.type_list_append mt_append (pv 2) (pa_cons (pe_call (G__law_name T) (hr.mono (by decide)) rfl T.m__law_name T.F__law_name.kp T.b__law_name .nil pass0 (pa_cons (pv 0) (pa_cons (pv 2) pa_nil))) pa_nil)))))
      (pss_one (ps_ret (pv 2))))), ?_⟩
    try dsimp only [cxOf, Cx.nox, Cx.wish]
    walk_at "go"
    refine ⟨by show 0 ≤ sizeLine; decide, fun l nl => ?_⟩
    walk_at "go"
    have la := hp.nea nl
    have ll := hp.nel nl
    refine ⟨p, b, m, rfl, hp.new nl, hm0, by omega, fun n H1 h0 h1 t1 => ?_⟩
    walk_at "go"
    refine foR1 (fun i σ' H' => ∃ (xs : List Str) (v : Option V), σ' = [some (.ref p.a), some (.int m), some (.ref l), v] ∧ H' l = some (.lst (xs.map V.str)) ∧ xs.length ≤ i ∧ xs.Nodup ∧ (∀ x ∈ xs, isName x = true) ∧ Turn p b H H') (by omega)
      ⟨[], _, rfl, t1.but _ _ la upd_same, Nat.le_refl _, List.nodup_nil, (fun _ h => nomatch h), (Turn.refl hp).new nl |>.trans t1⟩ ?_ ?_
    · rintro i σ' H2 hi ⟨xs, v, rfl, e2, hx, hnd, hna, t2⟩
      walk_at "go"
      refine ⟨.inl ⟨rfl, _, .inl (.inl e2)⟩, ?_⟩
      walk_at "go"
      refine ⟨p, b, l, xs, rfl, t2.pool, e2, la, by omega, fun x H3 hx1 hx2 t3 => ?_⟩
      have e3 := t3.but _ _ la e2
      walk_at "go"
      refine go_append e3 (szlt (by rw [List.length_map]; omega)) ?_
      walk_at "go"
      refine ⟨xs ++ [x], _, rfl, by rw [upd_same, List.map_append]; rfl, by simp; omega, nodup_snoc hnd hx2, fun y hy => ?_, Turn.mut hp nl (t2.trans t3)⟩
      rcases List.mem_append.mp hy with hy | hy
      · exact hna y hy
      · rw [List.mem_singleton.mp hy]
        exact hx1
    · rintro σ' H2 ⟨xs, v, rfl, e2, hx, hnd, hna, t2⟩
      walk_at "go"
      exact q l xs H2 nl e2 (by omega) hnd hna t2
end
end K13

namespace K13
open PySem PySem.Spec PyProof.Rows L2 Gx
section
variable {P : Program} {w : World} {K : PySem.W.Frag} {mg : Str → Option Value} {base : Heap} {A : Ad}
def sp_expression_words (K : PySem.W.Frag) (n : Nat) : Sp := fun vs H Q _ => ∃ (v : V) (e : Ex) (os xs : List Str) (s : Bool), vs = [v] ∧ Dp K H v (exD e) ∧ ExQ os xs s n e ∧ n ≤ 13 ∧ ∀ D H', H D = none → Same H H' → H' D = some (.lst ((wordsE e).map V.str)) → Q (.ref D) H'
theorem Z_expression_words {n : Nat} (K : PySem.W.Frag) {vs : List V} {H : Hp} {Q : VK} {E : XK} (hn : n = 0) (h : sp_expression_words K n vs H Q E) : False := by
  subst hn
  obtain ⟨v, e, os, vs, s, rfl, _, h0, _⟩ := h
  exact h0.elim
theorem R_expression_words (T : Txt P K mg A) : ∀ n : Nat, FnOk P w K mg base CX0 (n + 0) A.f_expression_words A.d_expression_words ["expression"] (sp_expression_words K n)
  | 0 => ⟨fun vs H Q E h => (Z_expression_words K rfl h).elim, fun _ _ _ _ _ _ _ _ _ _ _ _ _ h => (Z_expression_words K rfl h).elim⟩
  | n + 1 => by
    have IH := R_expression_words T n
    refine (T.F_expression_words.ok (k := n + 0) sc_expression_words (fun vs H Q E h => ?_) (fun cdv Ar outer s H vs Q E hr h => ?_))
    · obtain ⟨v, e, os, xs, s, rfl, _⟩ := h
      rfl
    · obtain ⟨v, e, os, xs, s, rfl, hv, hin, hn, q⟩ := h
      refine ⟨_, (pss_cons (ps_set (i := 1) sc_expression_words.nd rfl (Or.inl rfl) (pe_ix ix_tup (pv 0) pe_int (fun _ _ => rfl)))
      (pss_cons (ps_if (pt_cmpR op_eq (pv 1) pe_str (nomark _))
        (pss_one (ps_ret (pe_lst (pa_cons (pe_callTy k_str_int (by rfl) T.n_str (by decide +kernel) (pa_cons (pe_ix ix_tup (pv 0) pe_int (fun _ _ => rfl)) pa_nil)) pa_nil))))
        pss_nil)
      (pss_cons (ps_if (pt_cmpR op_eq (pv 1) pe_str (nomark _))
        (pss_one (ps_ret (pe_lst (pa_cons (pe_ix ix_tup (pv 0) pe_int (fun _ _ => rfl)) pa_nil))))
        pss_nil)
      (pss_cons (ps_if (pt_cmpR op_eq (pv 1) pe_str (nomark _))
        (pss_one (ps_ret (pe_lst (pa_cons pe_str pa_nil))))
        pss_nil)
      (pss_cons (ps_if (pt_cmpR op_eq (pv 1) pe_str (nomark _))
        (pss_one (ps_ret (pe_lst (pa_cons pe_str (StX.pa_star (pe_call IH (hr.mono (by omega)) rfl T.m_expression_words T.F_expression_words.kp T.b_expression_words .nil pass0 (pa_cons (pe_ix ix_tup (pv 0) pe_int (fun _ _ => rfl)) pa_nil)) pa_nil)))))
        pss_nil)
      (pss_cons (ps_if (pt_cmpR op_eq (pv 1) pe_str (nomark _))
        (pss_one (ps_set (i := 2) sc_expression_words.nd rfl (Or.inl rfl) (pe_lst (pa_cons pe_str (pa_cons (pe_ix ix_tup (pv 0) pe_int (fun _ _ => rfl)) pa_nil)))))
        (pss_one (ps_set (i := 2) sc_expression_words.nd rfl (Or.inl rfl) (pe_lst (pa_cons (pv 1) pa_nil)))))
      (pss_cons (ps_expr (pe_bm PySem.F.plainAttrs_list PySem.F.slot_list_extend PySem.F.type_list_extend mt_extend (pv 2) (pa_cons (pe_call IH (hr.mono (by omega)) rfl T.m_expression_words T.F_expression_words.kp T.b_expression_words .nil pass0 (pa_cons (pe_ix ix_tup (pv 0) (pe_un un_neg pe_int) (fun _ _ => rfl)) pa_nil)) pa_nil)))
      (pss_cons (ps_expr (pe_bm PySem.F.plainAttrs_list PySem.F.slot_list_extend PySem.F.type_list_extend mt_extend (pv 2) (pa_cons (pe_call IH (hr.mono (by omega)) rfl T.m_expression_words T.F_expression_words.kp T.b_expression_words .nil pass0 (pa_cons (pe_ix ix_tup (pv 0) (pe_un un_neg pe_int) (fun _ _ => rfl)) pa_nil)) pa_nil)))
      (pss_one (ps_ret (pv 2))))))))))), ?_⟩
      try dsimp only [cxOf, Cx.nox, Cx.wish]
      cases e with
      | num k =>
        obtain ⟨a, xs, rfl, ha, hx⟩ := dp_tup hv
        obtain ⟨x, y, rfl, h1, h2⟩ := dp2 hx
        cases dpS h1
        cases dpI h2
        walk_at "go"
        refine go_numS hin.1 (by have := hin.2; omega) ?_
        walk_at "go"
        exact ⟨by show 1 ≤ sizeLine; decide, fun l nl => q l _ nl (same_new nl) upd_same⟩
      | var x =>
        obtain ⟨a, xs, rfl, ha, hx⟩ := dp_tup hv
        obtain ⟨x1, y, rfl, h1, h2⟩ := dp2 hx
        cases dpS h1
        cases dpS h2
        walk_at "go"
        exact ⟨by show 1 ≤ sizeLine; decide, fun l nl => q l _ nl (same_new nl) upd_same⟩
      | long =>
        obtain ⟨a, xs, rfl, ha, hx⟩ := dp_tup hv
        obtain ⟨x1, rfl, h1⟩ := dp1 hx
        cases dpS h1
        walk_at "go"
        exact ⟨by show 1 ≤ sizeLine; decide, fun l nl => q l _ nl (same_new nl) upd_same⟩
      | view e =>
        obtain ⟨a, xs, rfl, ha, hx⟩ := dp_tup hv
        obtain ⟨x1, y, rfl, h1, h2⟩ := dp2 hx
        cases dpS h1
        have hl := hin.2.len
        have hp : 2 ^ n ≤ 2 ^ 12 := Nat.pow_le_pow_right (by decide) (by omega)
        walk_at "go"
        refine ⟨y, e, _, _, _, rfl, h2, hin.2, by omega, fun D H1 hD s1 eD => ?_⟩
        walk_at "go"
        refine ⟨_, _, rfl, .inr (.of eD), ?_⟩
        walk_at "go"
        refine ⟨sz (by simp; omega), fun l nl => q l _ ?_ (s1.trans (same_new nl)) (by rw [upd_same, List.append_nil]; rfl)⟩
        cases z : H l with
        | none => rfl
        | some o => rw [s1 _ _ z] at nl; cases nl
      | pick x e1 e2 =>
        obtain ⟨a, xs, rfl, ha, hx⟩ := dp_tup hv
        obtain ⟨x1, y, z1, z2, rfl, h1, h2, h3, h4⟩ := dp4 hx
        cases dpS h1
        cases dpS h2
        have hl1 := hin.2.1.len
        have hl2 := hin.2.2.len
        have hp : 2 ^ n ≤ 2 ^ 12 := Nat.pow_le_pow_right (by decide) (by omega)
        walk_at "go"
        refine ⟨by show 2 ≤ sizeLine; decide, fun l nl => ?_⟩
        have l0 : upd H l (.lst [V.str "pick", .str x]) l = some (.lst ((["pick", x] : List Str).map V.str)) := upd_same
        have s0 := same_new (o := HO.lst [V.str "pick", .str x]) nl
        generalize upd H l (.lst [V.str "pick", .str x]) = H0 at *
        have ha2 := same_sqT s0 ha
        have g1 := dp_same s0 _ _ h3
        have g2 := dp_same s0 _ _ h4
        walk_at "go"
        refine ⟨.inl ⟨rfl, _, .inl (.inl l0)⟩, ?_⟩
        walk_at "go"
        refine ⟨z1, e1, _, _, _, rfl, g1, hin.2.1, by omega, fun A1 H1 nA1 s1 eA1 => ?_⟩
        have l1 := s1 _ _ l0
        walk_at "go"
        refine go_extend l1 eA1 (by simp; omega) ?_
        have l2 : upd H1 l (.lst ((["pick", x] : List Str).map V.str ++ (wordsE e1).map V.str)) l = some (.lst (((["pick", x] : List Str) ++ wordsE e1).map V.str)) := by rw [upd_same, List.map_append]
        have s2 : Same H (upd H1 l (.lst ((["pick", x] : List Str).map V.str ++ (wordsE e1).map V.str))) := same_mut (s0.trans s1) nl
        generalize upd H1 l (.lst ((["pick", x] : List Str).map V.str ++ (wordsE e1).map V.str)) = H2 at *
        have ha3 := same_sqT s2 ha
        have g3 := dp_same s2 _ _ h4
        walk_at "go"
        refine ⟨.inl ⟨rfl, _, .inl (.inl l2)⟩, ?_⟩
        walk_at "go"
        refine ⟨z2, e2, _, _, _, rfl, g3, hin.2.2, by omega, fun A2 H3 nA2 s3 eA2 => ?_⟩
        have l3 := s3 _ _ l2
        walk_at "go"
        refine go_extend l3 eA2 (by simp; omega) ?_
        walk_at "go"
        refine q l _ nl (same_mut (s2.trans s3) nl) ?_
        rw [upd_same, ← List.map_append]
        show _ = some (HO.lst ((Str.ofString "pick" :: x :: (wordsE e1 ++ wordsE e2)).map V.str))
        simp
      | op k e1 e2 =>
        obtain ⟨a, xs, rfl, ha, hx⟩ := dp_tup hv
        obtain ⟨x1, y, z, rfl, h1, h2, h3⟩ := dp3 hx
        cases dpS h1
        obtain ⟨n1, n2, n3, n4, n5⟩ := sign_ne hin.1
        have hl1 := hin.2.1.len
        have hl2 := hin.2.2.len
        have hp : 2 ^ n ≤ 2 ^ 12 := Nat.pow_le_pow_right (by decide) (by omega)
        walk_at "go"
        rw [decide_eq_false n1]
        walk_at "go"
        rw [decide_eq_false n2]
        walk_at "go"
        rw [decide_eq_false n3]
        walk_at "go"
        rw [decide_eq_false n4]
        walk_at "go"
        rw [decide_eq_false n5]
        walk_at "go"
        refine ⟨by show 1 ≤ sizeLine; decide, fun l nl => ?_⟩
        have l0 : upd H l (.lst [V.str (signS k)]) l = some (.lst (([signS k] : List Str).map V.str)) := upd_same
        have s0 := same_new (o := HO.lst [V.str (signS k)]) nl
        generalize upd H l (.lst [V.str (signS k)]) = H0 at *
        have ha2 := same_sqT s0 ha
        have g1 := dp_same s0 _ _ h2
        have g2 := dp_same s0 _ _ h3
        walk_at "go"
        refine ⟨.inl ⟨rfl, _, .inl (.inl l0)⟩, ?_⟩
        walk_at "go"
        refine ⟨y, e1, _, _, _, rfl, g1, hin.2.1, by omega, fun A1 H1 nA1 s1 eA1 => ?_⟩
        have l1 := s1 _ _ l0
        walk_at "go"
        refine go_extend l1 eA1 (by simp; omega) ?_
        have l2 : upd H1 l (.lst (([signS k] : List Str).map V.str ++ (wordsE e1).map V.str)) l = some (.lst ((([signS k] : List Str) ++ wordsE e1).map V.str)) := by rw [upd_same, List.map_append]
        have s2 : Same H (upd H1 l (.lst (([signS k] : List Str).map V.str ++ (wordsE e1).map V.str))) := same_mut (s0.trans s1) nl
        generalize upd H1 l (.lst (([signS k] : List Str).map V.str ++ (wordsE e1).map V.str)) = H2 at *
        have ha3 := same_sqT s2 ha
        have g3 := dp_same s2 _ _ h3
        walk_at "go"
        refine ⟨.inl ⟨rfl, _, .inl (.inl l2)⟩, ?_⟩
        walk_at "go"
        refine ⟨z, e2, _, _, _, rfl, g3, hin.2.2, by omega, fun A2 H3 nA2 s3 eA2 => ?_⟩
        have l3 := s3 _ _ l2
        walk_at "go"
        refine go_extend l3 eA2 (by simp; omega) ?_
        walk_at "go"
        refine q l _ nl (same_mut (s2.trans s3) nl) ?_
        rw [upd_same, ← List.map_append]
        show _ = some (HO.lst ((signS k :: (wordsE e1 ++ wordsE e2)).map V.str))
        simp
end
end K13

namespace K13
open PySem PySem.Spec PyProof.Rows L2 Gx
section
variable {P : Program} {w : World} {K : PySem.W.Frag} {mg : Str → Option Value} {base : Heap} {A : Ad}
def sp__law_rows (K : PySem.W.Frag) (n : Nat) : Sp := fun vs H Q _ => ∃ (v : V) (l : Nat) (e : Ex) (os xs : List Str) (s : Bool), vs = [v, .int l] ∧ Dp K H v (exD e) ∧ ExQ os xs s n e ∧ n ≤ 13 ∧ ∀ D ys H', H D = none → Same H H' → H' D = some (.lst ys) → DpAll K H' ys ((rowsE e l).map rwE) → Q (.ref D) H'
theorem Z__law_rows {n : Nat} (K : PySem.W.Frag) {vs : List V} {H : Hp} {Q : VK} {E : XK} (hn : n = 0) (h : sp__law_rows K n vs H Q E) : False := by
  subst hn
  obtain ⟨v, l, e, os, xs, s, rfl, _, h0, _⟩ := h
  exact h0.elim
theorem R__law_rows (T : Txt P K mg A) : ∀ n : Nat, FnOk P w K mg base CX0 (n + 0) A.f__law_rows A.d__law_rows ["_law_due", "_law_level"] (sp__law_rows K n)
  | 0 => ⟨fun vs H Q E h => (Z__law_rows K rfl h).elim, fun _ _ _ _ _ _ _ _ _ _ _ _ _ h => (Z__law_rows K rfl h).elim⟩
  | n + 1 => by
    have IH := R__law_rows T n
    refine (T.F__law_rows.ok (k := n + 0) sc__law_rows (fun vs H Q E h => ?_) (fun cdv Ar outer s H vs Q E hr h => ?_))
    · obtain ⟨v, l, e, os, xs, s, rfl, _⟩ := h
      rfl
    · obtain ⟨v, l, e, os, xs, s, rfl, hv, hin, hn, q⟩ := h
      have mkr : ∀ {Hx : Hp} {a : Addr} (w : Str) (m : Nat), Hx a = none → Dp K (upd Hx a (.tup [.str w, .int (m : Nat)])) (.ref a) (rwE (w, m)) := fun w m n => .tup (.inl (.inl upd_same)) (.cons (.str _) (.cons (.int _) .nil))
      have fr : ∀ {H1 : Hp} {a : Addr}, Same H H1 → H1 a = none → H a = none := fun {H1 a} s n => by
        cases z : H a with
        | none => rfl
        | some o => rw [s _ _ z] at n; cases n
      refine ⟨_, (pss_cons (ps_if (pt_cmpR op_eq (pe_ix ix_tup (pv 0) pe_int (fun _ _ => rfl)) pe_str (nomark _))
        (pss_one (ps_ret (pe_lst (pa_cons (pe_tup (pa_cons (pe_callTy k_str_int (by rfl) T.n_str (by decide +kernel) (pa_cons (pe_ix ix_tup (pv 0) pe_int (fun _ _ => rfl)) pa_nil)) (pa_cons (pv 1) pa_nil))) pa_nil))))
        pss_nil)
      (pss_cons (ps_if (pt_cmpR op_eq (pe_ix ix_tup (pv 0) pe_int (fun _ _ => rfl)) pe_str (nomark _))
        (pss_one (ps_ret (pe_lst (pa_cons (pe_tup (pa_cons (pe_ix ix_tup (pv 0) pe_int (fun _ _ => rfl)) (pa_cons (pv 1) pa_nil))) pa_nil))))
        pss_nil)
      (pss_cons (ps_if (pt_cmpR op_eq (pe_ix ix_tup (pv 0) pe_int (fun _ _ => rfl)) pe_str (nomark _))
        (pss_one (ps_ret (pe_lst (pa_cons (pe_tup (pa_cons pe_str (pa_cons (pv 1) pa_nil))) pa_nil))))
        pss_nil)
      (pss_cons (ps_if (pt_cmpR op_eq (pe_ix ix_tup (pv 0) pe_int (fun _ _ => rfl)) pe_str (nomark _))
        (pss_one (ps_ret (pe_op op_cat (pe_lst (pa_cons (pe_tup (pa_cons pe_str (pa_cons (pe_op op_add (pv 1) pe_int) pa_nil))) pa_nil)) (pe_call IH (hr.mono (by omega)) rfl T.m__law_rows T.F__law_rows.kp T.b__law_rows .nil pass0 (pa_cons (pe_ix ix_tup (pv 0) pe_int (fun _ _ => rfl)) (pa_cons (pe_op op_add (pv 1) pe_int) pa_nil))))))
        pss_nil)
      (pss_cons (ps_if (pt_cmpR op_eq (pe_ix ix_tup (pv 0) pe_int (fun _ _ => rfl)) pe_str (nomark _))
        (pss_one (ps_ret (pe_op op_cat (pe_op op_cat (pe_lst (pa_cons (pe_tup (pa_cons pe_str (pa_cons (pe_op op_add (pv 1) pe_int) pa_nil))) (pa_cons (pe_tup (pa_cons (pe_ix ix_tup (pv 0) pe_int (fun _ _ => rfl)) (pa_cons (pv 1) pa_nil))) pa_nil))) (pe_call IH (hr.mono (by omega)) rfl T.m__law_rows T.F__law_rows.kp T.b__law_rows .nil pass0 (pa_cons (pe_ix ix_tup (pv 0) pe_int (fun _ _ => rfl)) (pa_cons (pe_op op_add (pv 1) pe_int) pa_nil)))) (pe_call IH (hr.mono (by omega)) rfl T.m__law_rows T.F__law_rows.kp T.b__law_rows .nil pass0 (pa_cons (pe_ix ix_tup (pv 0) pe_int (fun _ _ => rfl)) (pa_cons (pe_op op_add (pv 1) pe_int) pa_nil))))))
        pss_nil)
      (pss_one (ps_ret (pe_op op_cat (pe_op op_cat (pe_lst (pa_cons (pe_tup (pa_cons (pe_ix ix_tup (pv 0) pe_int (fun _ _ => rfl)) (pa_cons (pe_op op_add (pv 1) pe_int) pa_nil))) pa_nil)) (pe_call IH (hr.mono (by omega)) rfl T.m__law_rows T.F__law_rows.kp T.b__law_rows .nil pass0 (pa_cons (pe_ix ix_tup (pv 0) pe_int (fun _ _ => rfl)) (pa_cons (pe_op op_add (pv 1) pe_int) pa_nil)))) (pe_call IH (hr.mono (by omega)) rfl T.m__law_rows T.F__law_rows.kp T.b__law_rows .nil pass0 (pa_cons (pe_ix ix_tup (pv 0) pe_int (fun _ _ => rfl)) (pa_cons (pe_op op_add (pv 1) pe_int) pa_nil))))))))))), ?_⟩
      try dsimp only [cxOf, Cx.nox, Cx.wish]
      cases e with
      | num k =>
        obtain ⟨a, xs, rfl, ha, hx⟩ := dp_tup hv
        obtain ⟨x, y, rfl, h1, h2⟩ := dp2 hx
        cases dpS h1
        cases dpI h2
        walk_at "go"
        refine go_numS hin.1 (by have := hin.2; omega) ?_
        walk_at "go"
        refine ⟨by show 2 ≤ sizeLine; decide, fun t nt => ?_⟩
        walk_at "go"
        refine ⟨by show 1 ≤ sizeLine; decide, fun m nm => ?_⟩
        have s1 := same_new (o := HO.tup [.str (numS k), .int l]) nt
        have s2 := same_new (o := HO.lst [.ref t]) nm
        exact q m _ _ (fr s1 nm) (s1.trans s2) upd_same (dpAll_same s2 _ _ (.cons (mkr _ _ nt) .nil))
      | var x =>
        obtain ⟨a, xs, rfl, ha, hx⟩ := dp_tup hv
        obtain ⟨x1, y, rfl, h1, h2⟩ := dp2 hx
        cases dpS h1
        cases dpS h2
        walk_at "go"
        refine ⟨by show 2 ≤ sizeLine; decide, fun t nt => ?_⟩
        walk_at "go"
        refine ⟨by show 1 ≤ sizeLine; decide, fun m nm => ?_⟩
        have s1 := same_new (o := HO.tup [.str x, .int l]) nt
        have s2 := same_new (o := HO.lst [.ref t]) nm
        exact q m _ _ (fr s1 nm) (s1.trans s2) upd_same (dpAll_same s2 _ _ (.cons (mkr _ _ nt) .nil))
      | long =>
        obtain ⟨a, xs, rfl, ha, hx⟩ := dp_tup hv
        obtain ⟨x1, rfl, h1⟩ := dp1 hx
        cases dpS h1
        walk_at "go"
        refine ⟨by show 2 ≤ sizeLine; decide, fun t nt => ?_⟩
        walk_at "go"
        refine ⟨by show 1 ≤ sizeLine; decide, fun m nm => ?_⟩
        have s1 := same_new (o := HO.tup [.str "long", .int l]) nt
        have s2 := same_new (o := HO.lst [.ref t]) nm
        exact q m _ _ (fr s1 nm) (s1.trans s2) upd_same (dpAll_same s2 _ _ (.cons (mkr _ _ nt) .nil))
      | view e =>
        obtain ⟨a, xs, rfl, ha, hx⟩ := dp_tup hv
        obtain ⟨x1, y, rfl, h1, h2⟩ := dp2 hx
        cases dpS h1
        have hl := hin.2.len
        have hp : 2 ^ n ≤ 2 ^ 12 := Nat.pow_le_pow_right (by decide) (by omega)
        walk_at "go"
        refine ⟨by show 2 ≤ sizeLine; decide, fun t nt => ?_⟩
        walk_at "go"
        have s1 := same_new (o := HO.tup [.str "view", .int ((l : Int) + 1)]) nt
        have m1 : Dp K _ _ (rwE ("view", l + 1)) := mkr "view" (l + 1) nt
        have s1 : Same H (upd H t (.tup [.str "view", .int ((l + 1 : Nat) : Int)])) := s1
        rw [show (l : Int) + 1 = ((l + 1 : Nat) : Int) from rfl]
        generalize upd H t (.tup [.str "view", .int ((l + 1 : Nat) : Int)]) = H1 at *
        refine ⟨by show 1 ≤ sizeLine; decide, fun m nm => ?_⟩
        have s2 := same_new (o := HO.lst [.ref t]) nm
        have e2 : upd H1 m (.lst [.ref t]) m = some (.lst [.ref t]) := upd_same
        have m2 := dp_same s2 _ _ m1
        generalize upd H1 m (.lst [.ref t]) = H2 at *
        have ha2 := same_sqT (s1.trans s2) ha
        walk_at "go"
        refine ⟨y, l + 1, e, _, _, _, rfl, dp_same (s1.trans s2) _ _ h2, hin.2, by omega, fun D ys H3 hD s3 eD dD => ?_⟩
        refine go_cat (s3 _ _ e2) eD (sz (by rw [dpAll_len dD, List.length_map, rowsE_len]; show 1 + _ ≤ _; omega)) fun c nc => ?_
        have s4 := same_new (o := HO.lst ([.ref t] ++ ys)) nc
        exact q c _ _ (fr ((s1.trans s2).trans s3) nc) (((s1.trans s2).trans s3).trans s4) upd_same (dpAll_same s4 _ _ (.cons (dp_same s3 _ _ m2) dD))
      | pick x e1 e2 =>
        obtain ⟨a, xs, rfl, ha, hx⟩ := dp_tup hv
        obtain ⟨x1, y, z1, z2, rfl, h1, h2, h3, h4⟩ := dp4 hx
        cases dpS h1
        cases dpS h2
        have hl1 := hin.2.1.len
        have hl2 := hin.2.2.len
        have hp : 2 ^ n ≤ 2 ^ 12 := Nat.pow_le_pow_right (by decide) (by omega)
        walk_at "go"
        refine ⟨by show 2 ≤ sizeLine; decide, fun t nt => ?_⟩
        rw [show (l : Int) + 1 = ((l + 1 : Nat) : Int) from rfl]
        have m1 : Dp K _ _ (rwE ("pick", l + 1)) := mkr "pick" (l + 1) nt
        have s1 := same_new (o := HO.tup [.str "pick", .int ((l + 1 : Nat) : Int)]) nt
        generalize upd H t (.tup [.str "pick", .int ((l + 1 : Nat) : Int)]) = H1 at *
        have ha1 := same_sqT s1 ha
        walk_at "go"
        refine ⟨by show 2 ≤ sizeLine; decide, fun t2 nt2 => ?_⟩
        walk_at "go"
        have m2 : Dp K _ _ (rwE (x, l)) := mkr x l nt2
        have s2 := same_new (o := HO.tup [.str x, .int (l : Nat)]) nt2
        have m12 := dp_same s2 _ _ m1
        generalize upd H1 t2 (.tup [.str x, .int (l : Nat)]) = H2 at *
        refine ⟨by show 2 ≤ sizeLine; decide, fun m nm => ?_⟩
        have s3 := same_new (o := HO.lst [.ref t, .ref t2]) nm
        have e3 : upd H2 m (.lst [.ref t, .ref t2]) m = some (.lst [.ref t, .ref t2]) := upd_same
        have s13 := (s1.trans s2).trans s3
        have k1 := dp_same s3 _ _ m12
        have k2 := dp_same s3 _ _ m2
        generalize upd H2 m (.lst [.ref t, .ref t2]) = H3 at *
        have ha2 := same_sqT s13 ha
        walk_at "go"
        rw [show (l : Int) + 1 = ((l + 1 : Nat) : Int) from rfl]
        refine ⟨z1, l + 1, e1, _, _, _, rfl, dp_same s13 _ _ h3, hin.2.1, by omega, fun D ys H4 hD s4 eD dD => ?_⟩
        refine go_cat (s4 _ _ e3) eD (sz (by rw [dpAll_len dD, List.length_map, rowsE_len]; show 2 + _ ≤ _; omega)) fun c nc => ?_
        have s5 := same_new (o := HO.lst ([.ref t, .ref t2] ++ ys)) nc
        have e5 : upd H4 c (.lst ([.ref t, .ref t2] ++ ys)) c = some (.lst ([.ref t, .ref t2] ++ ys)) := upd_same
        have d5 : DpAll K (upd H4 c (.lst ([.ref t, .ref t2] ++ ys))) ([.ref t, .ref t2] ++ ys) ((((PySem.Str.ofString "pick" : Str), l + 1) :: (x, l) :: rowsE e1 (l + 1)).map rwE) := dpAll_same s5 _ _ (.cons (dp_same s4 _ _ k1) (.cons (dp_same s4 _ _ k2) dD))
        have l5 : ([.ref t, .ref t2] ++ ys : List V).length ≤ 20000 := by rw [dpAll_len d5, List.length_map]; show (rowsE e1 (l + 1)).length + 1 + 1 ≤ _; rw [rowsE_len]; omega
        generalize ([.ref t, .ref t2] ++ ys : List V) = zs at *
        have s15 := (s13.trans s4).trans s5
        generalize upd H4 c (.lst zs) = H5 at *
        have ha3 := same_sqT s15 ha
        walk_at "go"
        rw [show (l : Int) + 1 = ((l + 1 : Nat) : Int) from rfl]
        refine ⟨z2, l + 1, e2, _, _, _, rfl, dp_same s15 _ _ h4, hin.2.2, by omega, fun D2 ys2 H6 hD2 s6 eD2 dD2 => ?_⟩
        refine go_cat (s6 _ _ e5) eD2 (sz (by rw [dpAll_len dD2, List.length_map, rowsE_len]; omega)) fun c2 nc2 => ?_
        have s7 := same_new (o := HO.lst (zs ++ ys2)) nc2
        refine q c2 _ _ (fr (s15.trans s6) nc2) ((s15.trans s6).trans s7) upd_same ?_
        have := dpAll_append (dpAll_same (s6.trans s7) _ _ d5) (dpAll_same s7 _ _ dD2)
        rw [← List.map_append] at this
        exact this
      | op k e1 e2 =>
        obtain ⟨a, xs, rfl, ha, hx⟩ := dp_tup hv
        obtain ⟨x1, y, z, rfl, h1, h2, h3⟩ := dp3 hx
        cases dpS h1
        obtain ⟨n1, n2, n3, n4, n5⟩ := sign_ne hin.1
        have hl1 := hin.2.1.len
        have hl2 := hin.2.2.len
        have hp : 2 ^ n ≤ 2 ^ 12 := Nat.pow_le_pow_right (by decide) (by omega)
        walk_at "go"
        rw [decide_eq_false n1]
        walk_at "go"
        rw [decide_eq_false n2]
        walk_at "go"
        rw [decide_eq_false n3]
        walk_at "go"
        rw [decide_eq_false n4]
        walk_at "go"
        rw [decide_eq_false n5]
        walk_at "go"
        refine ⟨by show 2 ≤ sizeLine; decide, fun t nt => ?_⟩
        rw [show (l : Int) + 1 = ((l + 1 : Nat) : Int) from rfl]
        have m1 : Dp K _ _ (rwE (signS k, l + 1)) := mkr (signS k) (l + 1) nt
        have s1 := same_new (o := HO.tup [.str (signS k), .int ((l + 1 : Nat) : Int)]) nt
        generalize upd H t (.tup [.str (signS k), .int ((l + 1 : Nat) : Int)]) = H1 at *
        walk_at "go"
        refine ⟨by show 1 ≤ sizeLine; decide, fun m nm => ?_⟩
        have s3 := same_new (o := HO.lst [.ref t]) nm
        have e3 : upd H1 m (.lst [.ref t]) m = some (.lst [.ref t]) := upd_same
        have s13 := s1.trans s3
        have k1 := dp_same s3 _ _ m1
        generalize upd H1 m (.lst [.ref t]) = H3 at *
        have ha2 := same_sqT s13 ha
        walk_at "go"
        rw [show (l : Int) + 1 = ((l + 1 : Nat) : Int) from rfl]
        refine ⟨y, l + 1, e1, _, _, _, rfl, dp_same s13 _ _ h2, hin.2.1, by omega, fun D ys H4 hD s4 eD dD => ?_⟩
        refine go_cat (s4 _ _ e3) eD (sz (by rw [dpAll_len dD, List.length_map, rowsE_len]; show 1 + _ ≤ _; omega)) fun c nc => ?_
        have s5 := same_new (o := HO.lst ([.ref t] ++ ys)) nc
        have e5 : upd H4 c (.lst ([.ref t] ++ ys)) c = some (.lst ([.ref t] ++ ys)) := upd_same
        have d5 : DpAll K (upd H4 c (.lst ([.ref t] ++ ys))) ([.ref t] ++ ys) (((signS k, l + 1) :: rowsE e1 (l + 1)).map rwE) := dpAll_same s5 _ _ (.cons (dp_same s4 _ _ k1) dD)
        have l5 : ([.ref t] ++ ys : List V).length ≤ 20000 := by rw [dpAll_len d5, List.length_map]; show (rowsE e1 (l + 1)).length + 1 ≤ _; rw [rowsE_len]; omega
        generalize ([.ref t] ++ ys : List V) = zs at *
        have s15 := (s13.trans s4).trans s5
        generalize upd H4 c (.lst zs) = H5 at *
        have ha3 := same_sqT s15 ha
        walk_at "go"
        rw [show (l : Int) + 1 = ((l + 1 : Nat) : Int) from rfl]
        refine ⟨z, l + 1, e2, _, _, _, rfl, dp_same s15 _ _ h3, hin.2.2, by omega, fun D2 ys2 H6 hD2 s6 eD2 dD2 => ?_⟩
        refine go_cat (s6 _ _ e5) eD2 (sz (by rw [dpAll_len dD2, List.length_map, rowsE_len]; omega)) fun c2 nc2 => ?_
        have s7 := same_new (o := HO.lst (zs ++ ys2)) nc2
        refine q c2 _ _ (fr (s15.trans s6) nc2) ((s15.trans s6).trans s7) upd_same ?_
        have := dpAll_append (dpAll_same (s6.trans s7) _ _ d5) (dpAll_same s7 _ _ dD2)
        rw [← List.map_append] at this
        exact this
end
end K13

namespace K13
open PySem PySem.Spec PyProof.Rows L2 Gx
section
variable {P : Program} {w : World} {K : PySem.W.Frag} {mg : Str → Option Value} {base : Heap} {A : Ad}
def sp__law_same (K : PySem.W.Frag) : Nat → Sp
  | 0 => fun _ _ _ _ => False
  | n + 1 => fun vs H Q _ => ∃ (x y : V), vs = [x, y] ∧ Eqd K H n x y ∧ Q (.bl true) H
theorem R__law_same (T : Txt P K mg A) : ∀ n : Nat, FnOk P w K mg base CX0 (n + 0) A.f__law_same A.d__law_same ["_law_actual", "_law_due"] (sp__law_same K n)
  | 0 => ⟨fun vs H Q E h => False.elim h, fun _ _ _ _ _ _ _ _ _ _ _ _ _ h => False.elim h⟩
  | n + 1 => by
    have IH := R__law_same T n
    refine (T.F__law_same.ok (k := n + 0) sc__law_same (fun vs H Q E h => ?_) (fun cdv Ar outer s H vs Q E hr h => ?_))
    · obtain ⟨x, y, rfl, _⟩ := h
      rfl
    · obtain ⟨x, y, rfl, hxy, q⟩ := h
      refine ⟨_, (pss_cons (ps_if (PW.pt (pw_or (pt_val (pe_callB call_isi (by rfl) T.n_isinstance (by decide +kernel) (pa_cons (pv 1) (pa_cons (pe_bltn (v := .ty "tuple") (by rfl) T.n_tuple (by decide +kernel) rfl) pa_nil)))) (pw_or1 (pt_val (pe_callB call_isi (by rfl) T.n_isinstance (by decide +kernel) (pa_cons (pv 1) (pa_cons (pe_bltn (v := .ty "list") (by rfl) T.n_list (by decide +kernel) rfl) pa_nil)))))))
        (pss_cons (ps_if (PW.pt (pw_or (pt_cmpR op_ne (pe_callB call_isi (by rfl) T.n_isinstance (by decide +kernel) (pa_cons (pv 1) (pa_cons (pe_bltn (v := .ty "tuple") (by rfl) T.n_tuple (by decide +kernel) rfl) pa_nil))) (pe_callB call_isi (by rfl) T.n_isinstance (by decide +kernel) (pa_cons (pv 0) (pa_cons (pe_bltn (v := .ty "tuple") (by rfl) T.n_tuple (by decide +kernel) rfl) pa_nil))) (nomark _)) (pw_or1 (pt_cmpR op_ne (pe_callB call_isi (by rfl) T.n_isinstance (by decide +kernel) (pa_cons (pv 1) (pa_cons (pe_bltn (v := .ty "list") (by rfl) T.n_list (by decide +kernel) rfl) pa_nil))) (pe_callB call_isi (by rfl) T.n_isinstance (by decide +kernel) (pa_cons (pv 0) (pa_cons (pe_bltn (v := .ty "list") (by rfl) T.n_list (by decide +kernel) rfl) pa_nil))) (nomark _)))))
        (pss_one (ps_ret pe_bl))
        pss_nil)
      (pss_cons (ps_if (pt_cmpR op_ne (pe_callB k_len (by rfl) T.n_len (by decide +kernel) (pa_cons (pv 0) pa_nil)) (pe_callB k_len (by rfl) T.n_len (by decide +kernel) (pa_cons (pv 1) pa_nil)) (nomark _))
        (pss_one (ps_ret pe_bl))
        pss_nil)
      (pss_cons (ps_for PassesOwn.never rfl (pi_range1 rfl T.n_range (pa_cons (pe_callB k_len (by rfl) T.n_len (by decide +kernel) (pa_cons (pv 1) pa_nil)) pa_nil)) (pg_name (i := 2) sc__law_same.nd rfl (Or.inl rfl))
        (pss_one (ps_if (pt_not (pt_val (pe_call IH (hr.mono (by omega)) rfl T.m__law_same T.F__law_same.kp T.b__law_same .nil pass0 (pa_cons (pe_ix ix_seq (pv 0) (pv 2) (fun _ _ => rfl)) (pa_cons (pe_ix ix_seq (pv 1) (pv 2) (fun _ _ => rfl)) pa_nil)))))
        (pss_one (ps_ret pe_bl))
        pss_nil)))
      (pss_one (ps_ret pe_bl)))))
        pss_nil)
      (pss_cons (ps_if (PW.pt (pw_or (pt_cmpR o_isN (pv 1) pe_non (nomark _)) (pw_or1 (pt_val (pe_callB call_isi (by rfl) T.n_isinstance (by decide +kernel) (pa_cons (pv 1) (pa_cons (pe_bltn (v := .ty "bool") (by rfl) T.n_bool (by decide +kernel) rfl) pa_nil)))))))
        (pss_one (ps_ret (pe_and (pe_cmpR op_eq (pe_cmpR o_isN (pv 0) pe_non (nomark _)) (pe_cmpR o_isN (pv 1) pe_non (nomark _)) (nomark _)) (pe_and (pe_or (pe_cmpR o_isN (pv 1) pe_non (nomark _)) (pe_one (pe_callB call_isi (by rfl) T.n_isinstance (by decide +kernel) (pa_cons (pv 0) (pa_cons (pe_bltn (v := .ty "bool") (by rfl) T.n_bool (by decide +kernel) rfl) pa_nil))))) (pe_one (pe_cmpR op_eq (pv 0) (pv 1) (nomark _)))))))
        pss_nil)
      (pss_cons (ps_if (pt_val (pe_callB call_isi (by rfl) T.n_isinstance (by decide +kernel) (pa_cons (pv 1) (pa_cons (pe_bltn (v := .ty "int") (by rfl) T.n_int (by decide +kernel) rfl) pa_nil))))
        (pss_one (ps_ret (pe_and (pe_callB call_isi (by rfl) T.n_isinstance (by decide +kernel) (pa_cons (pv 0) (pa_cons (pe_bltn (v := .ty "int") (by rfl) T.n_int (by decide +kernel) rfl) pa_nil))) (pe_and (pe_not (pe_callB call_isi (by rfl) T.n_isinstance (by decide +kernel) (pa_cons (pv 0) (pa_cons (pe_bltn (v := .ty "bool") (by rfl) T.n_bool (by decide +kernel) rfl) pa_nil)))) (pe_one (pe_cmpR op_eq (pv 0) (pv 1) (nomark _)))))))
        pss_nil)
      (pss_one (ps_ret (pe_and (pe_callB call_isi (by rfl) T.n_isinstance (by decide +kernel) (pa_cons (pv 0) (pa_cons (pe_bltn (v := .ty "str") (by rfl) T.n_str (by decide +kernel) rfl) pa_nil))) (pe_one (pe_cmpR op_eq (pv 0) (pv 1) (nomark _))))))))), ?_⟩
      try dsimp only [cxOf, Cx.nox, Cx.wish]
      walk_at "go"
      cases hxy with
      | non => walk_at "go"; exact q
      | bl b => walk_at "go"; (rw [decide_eq_true rfl]; exact q)
      | int i => walk_at "go"; (rw [decide_eq_true rfl]; exact q)
      | str z => walk_at "go"; (rw [decide_eq_true rfl]; exact q)
      | @lst m a b xs ys h1 h2 hl hz hall =>
        walk_at "go"
        rw [decide_eq_true rfl]
        walk_at "go"
        rw [decide_eq_true rfl]
        walk_at "go"
        refine go_lenL h1 ?_
        walk_at "go"
        refine go_lenL h2 ?_
        walk_at "go"
        rw [decide_eq_true (by omega : (xs.length : Int) = ys.length)]
        walk_at "go"
        refine go_lenL h2 ?_
        walk_at "go"
        refine foR1 (fun i σ' H' => ∃ v, σ' = [some (.ref a), some (.ref b), v] ∧ H' = H) (by omega) ⟨_, rfl, rfl⟩ ?_ ?_
        · rintro i σ' H' hi ⟨v, rfl, rfl⟩
          walk_at "go"
          have hi2 : i < ys.length := by omega
          have hi1 : i < xs.length := by omega
          refine go_ixQL h1 (at_nat (List.getElem?_eq_getElem hi1)) ?_
          walk_at "go"
          refine go_ixQL h2 (at_nat (List.getElem?_eq_getElem hi2)) ?_
          walk_at "go"
          refine ⟨_, _, rfl, hall i _ _ (List.getElem?_eq_getElem hi1) (List.getElem?_eq_getElem hi2), ?_⟩
          walk_at "go"
          exact ⟨_, rfl, rfl⟩
        · rintro σ' H' ⟨v, rfl, rfl⟩
          walk_at "go"
          exact q
      | @tup m a b xs ys h1 h2 hl hz hall =>
        walk_at "go"
        rw [decide_eq_true rfl]
        walk_at "go"
        rw [decide_eq_true rfl]
        walk_at "go"
        refine go_lenT h1 ?_
        walk_at "go"
        refine go_lenT h2 ?_
        walk_at "go"
        rw [decide_eq_true (by omega : (xs.length : Int) = ys.length)]
        walk_at "go"
        refine go_lenT h2 ?_
        walk_at "go"
        refine foR1 (fun i σ' H' => ∃ v, σ' = [some (.ref a), some (.ref b), v] ∧ H' = H) (by omega) ⟨_, rfl, rfl⟩ ?_ ?_
        · rintro i σ' H' hi ⟨v, rfl, rfl⟩
          walk_at "go"
          have hi2 : i < ys.length := by omega
          have hi1 : i < xs.length := by omega
          refine go_ixQT h1 (at_nat (List.getElem?_eq_getElem hi1)) ?_
          walk_at "go"
          refine go_ixQT h2 (at_nat (List.getElem?_eq_getElem hi2)) ?_
          walk_at "go"
          refine ⟨_, _, rfl, hall i _ _ (List.getElem?_eq_getElem hi1) (List.getElem?_eq_getElem hi2), ?_⟩
          walk_at "go"
          exact ⟨_, rfl, rfl⟩
        · rintro σ' H' ⟨v, rfl, rfl⟩
          walk_at "go"
          exact q
end
end K13

namespace K13
open PySem PySem.Spec PyProof.Rows L2 Gx
section
variable {P : Program} {w : World} {K : PySem.W.Frag} {mg : Str → Option Value} {base : Heap} {A : Ad}
def sp__law_expression (K : PySem.W.Frag) (n : Nat) : Sp := fun vs H Q _ => ∃ (p : Pl) (b : Int) (nl pl : Addr) (ns ps : List Str) (s : Bool) (d : Int), vs = [.ref p.a, .ref nl, .ref pl, .bl s, .int d] ∧ Pool H p b ∧ H nl = some (.lst (ns.map V.str)) ∧ H pl = some (.lst (ps.map V.str)) ∧ nl ≠ p.a ∧ pl ≠ p.a ∧ ns.length < 100 ∧ ps.length < 100 ∧ 1 ≤ d ∧ d ≤ n ∧ 0 < n ∧ ∀ (v : V) (e : Ex) (b' : Int) H', ExQ ps ns s n e → Dp K H' v (exD e) → Turn p b' H H' → Q v H'
theorem Z__law_expression {n : Nat} (K : PySem.W.Frag) {vs : List V} {H : Hp} {Q : VK} {E : XK} (hn : n = 0) (h : sp__law_expression K n vs H Q E) : False := by
  subst hn
  obtain ⟨p, b, nl, pl, ns, ps, s, d, _, _, _, _, _, _, _, _, _, _, h0, _⟩ := h
  exact absurd h0 (by decide)
theorem R__law_expression (T : Txt P K mg A) : ∀ n : Nat, FnOk P w K mg base CX0 (n + 2) A.f__law_expression A.d__law_expression ["_law_pool_here", "_law_names_here", "_law_picks", "_law_brain", "_law_deep"] (sp__law_expression K n)
  | 0 => ⟨fun vs H Q E h => (Z__law_expression K rfl h).elim, fun _ _ _ _ _ _ _ _ _ _ _ _ _ h => (Z__law_expression K rfl h).elim⟩
  | n + 1 => by
    have IH := R__law_expression T n
    refine (T.F__law_expression.ok (k := n + 2) sc__law_expression (fun vs H Q E h => ?_) (fun cdv Ar outer s H vs Q E hr h => ?_))
    · obtain ⟨p, b, nl, pl, ns, ps, s, d, rfl, _⟩ := h
      rfl
    · obtain ⟨p, b, nl, pl, ns, ps, s, d, rfl, hp, hnl, hpl, na, pa, hns, hps, hd, hdn, hn0, q⟩ := h
      refine ⟨_, (pss_cons (ps_set (i := 5) sc__law_expression.nd rfl (Or.inl rfl) (pe_call (G__law_draw T) (hr.mono (by omega)) rfl T.m__law_draw T.F__law_draw.kp T.b__law_draw .nil pass0 (pa_cons (pv 0) (pa_cons pe_int pa_nil))))
      (Evl.pss_cut (ps_if (PW.pt (pw_and (pt_cmpR op_gt (pv 4) pe_int (nomark _)) (pw_and (pt_cmpR op_lt (pv 5) pe_int (nomark _)) (pw_and1 (pt_val (pe_call (G__law_spend T) (hr.mono (by omega)) rfl T.m__law_spend T.F__law_spend.kp T.b__law_spend .nil pass0 (pa_cons (pv 0) pa_nil)))))))
        (Evl.pss_cut (ps_if (PW.pt (pw_and (pt_cmpR op_gt (pv 5) pe_int (nomark _)) (pw_and1 (pt_val (pv 3)))))
        (pss_one (ps_ret (pe_tup (pa_cons pe_str (pa_cons (pe_call IH (hr.mono (by omega)) rfl T.m__law_expression T.F__law_expression.kp T.b__law_expression .nil pass0 (pa_cons (pv 0) (pa_cons (pv 1) (pa_cons (pv 2) (pa_cons (pv 3) (pa_cons (pe_op op_sub (pv 4) pe_int) pa_nil)))))) pa_nil)))))
        pss_nil)
      (Evl.pss_cut (ps_if (PW.pt (pw_and (pt_cmpR op_gt (pv 5) pe_int (nomark _)) (pw_and1 (p_truthK (K := K) rfl (pv 2) (by intro _; rfl)))))
        (pss_cons (ps_set (i := 6) sc__law_expression.nd rfl (Or.inl rfl) (pe_ix ix_list (pv 2) (pe_call (G__law_draw T) (hr.mono (by omega)) rfl T.m__law_draw T.F__law_draw.kp T.b__law_draw .nil pass0 (pa_cons (pv 0) (pa_cons (pe_callB k_len (by rfl) T.n_len (by decide +kernel) (pa_cons (pv 2) pa_nil)) pa_nil))) (fun _ _ => rfl)))
      (pss_cons (ps_set (i := 7) sc__law_expression.nd rfl (Or.inl rfl) (pe_call IH (hr.mono (by omega)) rfl T.m__law_expression T.F__law_expression.kp T.b__law_expression .nil pass0 (pa_cons (pv 0) (pa_cons (pv 1) (pa_cons (pv 2) (pa_cons (pv 3) (pa_cons (pe_op op_sub (pv 4) pe_int) pa_nil)))))))
      (pss_one (ps_ret (pe_tup (pa_cons pe_str (pa_cons (pv 6) (pa_cons (pv 7) (pa_cons (pe_call IH (hr.mono (by omega)) rfl T.m__law_expression T.F__law_expression.kp T.b__law_expression .nil pass0 (pa_cons (pv 0) (pa_cons (pv 1) (pa_cons (pv 2) (pa_cons (pv 3) (pa_cons (pe_op op_sub (pv 4) pe_int) pa_nil)))))) pa_nil)))))))))
        pss_nil)
      (pss_cons (ps_set (i := 8) sc__law_expression.nd rfl (Or.inl rfl) (pe_ix ix_tup (pe_tup (pa_cons pe_str (pa_cons pe_str (pa_cons pe_str (pa_cons pe_str (pa_cons pe_str (pa_cons pe_str (pa_cons pe_str (pa_cons pe_str (pa_cons pe_str (pa_cons pe_str pa_nil))))))))))) (pv 5) (fun _ _ => rfl)))
      (pss_cons (ps_set (i := 7) sc__law_expression.nd rfl (Or.inl rfl) (pe_call IH (hr.mono (by omega)) rfl T.m__law_expression T.F__law_expression.kp T.b__law_expression .nil pass0 (pa_cons (pv 0) (pa_cons (pv 1) (pa_cons (pv 2) (pa_cons (pv 3) (pa_cons (pe_op op_sub (pv 4) pe_int) pa_nil)))))))
      (pss_one (ps_ret (pe_tup (pa_cons (pv 8) (pa_cons (pv 7) (pa_cons (pe_call IH (hr.mono (by omega)) rfl T.m__law_expression T.F__law_expression.kp T.b__law_expression .nil pass0 (pa_cons (pv 0) (pa_cons (pv 1) (pa_cons (pv 2) (pa_cons (pv 3) (pa_cons (pe_op op_sub (pv 4) pe_int) pa_nil)))))) pa_nil))))))))))
        pss_nil)
      (Evl.pss_cut (ps_if (PW.pt (pw_and (pt_val (pv 3)) (pw_and1 (pt_cmpR op_eq (pv 5) pe_int (nomark _)))))
        (pss_one (ps_ret (pe_tup (pa_cons pe_str pa_nil))))
        pss_nil)
      (Evl.pss_cut (ps_if (PW.pt (pw_and (p_truthK (K := K) rfl (pv 1) (by intro _; rfl)) (pw_and1 (pt_cmpR op_eq (pe_op op_mod (pe_callTy k_int1 (by rfl) T.n_int (by decide +kernel) (pa_cons (pv 5) pa_nil)) pe_int) pe_int (nomark _)))))
        (pss_one (ps_ret (pe_tup (pa_cons pe_str (pa_cons (pe_ix ix_list (pv 1) (pe_call (G__law_draw T) (hr.mono (by omega)) rfl T.m__law_draw T.F__law_draw.kp T.b__law_draw .nil pass0 (pa_cons (pv 0) (pa_cons (pe_callB k_len (by rfl) T.n_len (by decide +kernel) (pa_cons (pv 1) pa_nil)) pa_nil))) (fun _ _ => rfl)) pa_nil)))))
        pss_nil)
      (pss_one (ps_ret (pe_tup (pa_cons pe_str (pa_cons (pe_call (G__law_number T) (hr.mono (by omega)) rfl T.m__law_number T.F__law_number.kp T.b__law_number .nil pass0 (pa_cons (pv 0) pa_nil)) pa_nil))))))))), ?_⟩
      try dsimp only [cxOf, Cx.nox, Cx.wish]
      walk_at "go"
      refine ⟨p, b, 14, rfl, hp, by decide, by decide, fun k H1 hk0 hk1 t1 => ?_⟩
      walk_at "go"
      refine go_cut (fun σ' H' => ∃ b', σ' = [some (.ref p.a), some (.ref nl), some (.ref pl), some (.bl s), some (.int d), some (.int k), none, none, none] ∧ Turn p b' H H') ?_ ?_
      · walk_at "go"
        have out : ∀ b' H', Turn p b' H H' → ∃ b', [some (V.ref p.a), some (.ref nl), some (.ref pl), some (.bl s), some (.int d), some (.int k), none, none, none] = [some (V.ref p.a), some (.ref nl), some (.ref pl), some (.bl s), some (.int d), some (.int k), none, none, none] ∧ Turn p b' H H' := fun b' H' t => ⟨b', rfl, t⟩
        walk_at "br"
        · intro h1
          walk_at "go"
          walk_at "br"
          · intro h2
            walk_at "go"
            refine ⟨p, b, rfl, t1.pool, fun r H2 t2 => ?_⟩
            have t12 := t1.trans t2
            have e2 := t12.but _ _ na hnl
            have f2 := t12.but _ _ pa hpl
            walk_at "go"
            walk_at "br"
            · intro _
              walk_at "go"
              refine go_cut (fun σ' H' => σ' = [some (.ref p.a), some (.ref nl), some (.ref pl), some (.bl s), some (.int d), some (.int k), none, none, none] ∧ H' = H2) ?_ ?_
              · walk_at "go"
                walk_at "br"
                · intro h3
                  walk_at "go"
                  walk_at "br"
                  · intro hs
                    walk_at "go"
                    refine ⟨p, _, nl, pl, ns, ps, s, d - 1, rfl, t12.pool, e2, f2, na, pa, hns, hps, by omega, by omega, by omega, fun v e b3 H3 hin hv t3 => ?_⟩
                    walk_at "go"
                    refine ⟨by show 2 ≤ sizeLine; decide, fun u nu => ?_⟩
                    exact q _ (.view e) _ _ ⟨hs, hin⟩ (.tup (.inl (.inl upd_same)) (.cons (.str _) (.cons (dp_same (same_new nu) _ _ hv) .nil))) ((t12.trans t3).new nu)
                  · intro hs
                    walk_at "go"
                    exact ⟨rfl, rfl⟩
                · intro h3
                  walk_at "go"
                  exact ⟨rfl, rfl⟩
              rintro σ' H3 ⟨rfl, rfl⟩
              walk_at "go"
              refine go_cut (fun σ' H' => σ' = [some (.ref p.a), some (.ref nl), some (.ref pl), some (.bl s), some (.int d), some (.int k), none, none, none] ∧ H' = H3) ?_ ?_
              · walk_at "go"
                walk_at "br"
                · intro h4
                  walk_at "go"
                  refine go_truL (.of f2) ?_
                  walk_at "br"
                  · intro h5
                    have h6 : 0 < ps.length := by
                      cases ps with
                      | nil => simp at h5
                      | cons _ _ => simp
                    walk_at "go"
                    refine go_lenL (.of f2) ?_
                    rw [List.length_map]
                    walk_at "go"
                    refine ⟨p, _, _, rfl, t12.pool, by omega, by omega, fun j H3 hj0 hj1 t3 => ?_⟩
                    obtain ⟨x, hx, ex⟩ := strs_pick hj0 hj1
                    have t13 := t12.trans t3
                    have f3 := t13.but _ _ pa hpl
                    walk_at "go"
                    refine go_ixL (.of f3) ex ?_
                    walk_at "go"
                    refine ⟨p, _, nl, pl, ns, ps, s, d - 1, rfl, t13.pool, t13.but _ _ na hnl, f3, na, pa, hns, hps, by omega, by omega, by omega, fun v1 e1 b4 H4 hin1 hv1 t4 => ?_⟩
                    have t14 := t13.trans t4
                    walk_at "go"
                    refine ⟨p, _, nl, pl, ns, ps, s, d - 1, rfl, t14.pool, t14.but _ _ na hnl, t14.but _ _ pa hpl, na, pa, hns, hps, by omega, by omega, by omega, fun v2 e2 b5 H5 hin2 hv2 t5 => ?_⟩
                    walk_at "go"
                    refine ⟨by show 4 ≤ sizeLine; decide, fun u nu => ?_⟩
                    exact q _ (.pick x e1 e2) _ _ ⟨hx, hin1, hin2⟩ (.tup (.inl (.inl upd_same)) (.cons (.str _) (.cons (.str _) (.cons (dp_same (same_new nu) _ _ (t5.dp t14.pool (exD_noL e1) hv1)) (.cons (dp_same (same_new nu) _ _ hv2) .nil))))) ((t14.trans t5).new nu)
                  · intro _
                    walk_at "go"
                    exact ⟨rfl, rfl⟩
                · intro _
                  walk_at "go"
                  exact ⟨rfl, rfl⟩
              rintro σ' H3 ⟨rfl, rfl⟩
              walk_at "go"
              refine ⟨by show 10 ≤ sizeLine; decide, fun u nu => ?_⟩
              obtain ⟨sg, hs, es⟩ := at_sign10 hk0 h2
              walk_at "go"
              refine go_ixT (.inl (.inl upd_same)) es ?_
              have t4 := t12.new (o := .tup [V.str "+", .str "-", .str "*", .str "/", .str "mod", .str "<", .str "=", .str "+", .str "-", .str "/"]) nu
              generalize upd H3 u (.tup [V.str "+", .str "-", .str "*", .str "/", .str "mod", .str "<", .str "=", .str "+", .str "-", .str "/"]) = H4 at *
              walk_at "go"
              refine ⟨p, _, nl, pl, ns, ps, s, d - 1, rfl, t4.pool, t4.but _ _ na hnl, t4.but _ _ pa hpl, na, pa, hns, hps, by omega, by omega, by omega, fun v1 e1 b5 H5 hin1 hv1 t5 => ?_⟩
              have t15 := t4.trans t5
              walk_at "go"
              refine ⟨p, _, nl, pl, ns, ps, s, d - 1, rfl, t15.pool, t15.but _ _ na hnl, t15.but _ _ pa hpl, na, pa, hns, hps, by omega, by omega, by omega, fun v2 e2 b6 H6 hin2 hv2 t6 => ?_⟩
              walk_at "go"
              refine ⟨by show 3 ≤ sizeLine; decide, fun u2 nu2 => ?_⟩
              exact q _ (.op sg e1 e2) _ _ ⟨hs, hin1, hin2⟩ (.tup (.inl (.inl upd_same)) (.cons (.str _) (.cons (dp_same (same_new nu2) _ _ (t6.dp t15.pool (exD_noL e1) hv1)) (.cons (dp_same (same_new nu2) _ _ hv2) .nil)))) ((t15.trans t6).new nu2)
            · intro _
              walk_at "go"
              exact out _ _ t12
          · intro _
            walk_at "go"
            exact out _ _ t1
        · intro _
          walk_at "go"
          exact out _ _ t1
      rintro σ' H2 ⟨b2, rfl, t2⟩
      have e2 := t2.but _ _ na hnl
      walk_at "go"
      refine go_cut (fun σ' H' => σ' = [some (.ref p.a), some (.ref nl), some (.ref pl), some (.bl s), some (.int d), some (.int k), none, none, none] ∧ H' = H2) ?_ ?_
      · walk_at "go"
        walk_at "br"
        · intro hs
          walk_at "go"
          walk_at "br"
          · intro _
            walk_at "go"
            refine ⟨by show 1 ≤ sizeLine; decide, fun u nu => ?_⟩
            exact q _ .long _ _ hs (.tup (.inl (.inl upd_same)) (.cons (.str _) .nil)) (t2.new nu)
          · intro _
            walk_at "go"
            exact ⟨rfl, rfl⟩
        · intro hs
          walk_at "go"
          exact ⟨rfl, rfl⟩
      rintro σ' H3 ⟨rfl, rfl⟩
      walk_at "go"
      refine go_cut (fun σ' H' => σ' = [some (.ref p.a), some (.ref nl), some (.ref pl), some (.bl s), some (.int d), some (.int k), none, none, none] ∧ H' = H3) ?_ ?_
      · walk_at "go"
        refine go_truL (.of e2) ?_
        walk_at "br"
        · intro h5
          have h6 : 0 < ns.length := by
            cases ns with
            | nil => simp at h5
            | cons _ _ => simp
          walk_at "go"
          walk_at "br"
          · intro _
            walk_at "go"
            refine go_lenL (.of e2) ?_
            rw [List.length_map]
            walk_at "go"
            refine ⟨p, _, _, rfl, t2.pool, by omega, by omega, fun j H3 hj0 hj1 t3 => ?_⟩
            obtain ⟨x, hx, ex⟩ := strs_pick hj0 hj1
            have t13 := t2.trans t3
            walk_at "go"
            refine go_ixL (.of (t13.but _ _ na hnl)) ex ?_
            walk_at "go"
            refine ⟨by show 2 ≤ sizeLine; decide, fun u nu => ?_⟩
            exact q _ (.var x) _ _ hx (.tup (.inl (.inl upd_same)) (.cons (.str _) (.cons (.str _) .nil))) (t13.new nu)
          · intro _
            walk_at "go"
            exact ⟨rfl, rfl⟩
        · intro _
          walk_at "go"
          exact ⟨rfl, rfl⟩
      rintro σ' H4 ⟨rfl, rfl⟩
      walk_at "go"
      refine ⟨p, _, rfl, t2.pool, fun v H3 h0 h1 t3 => ?_⟩
      walk_at "go"
      refine ⟨by show 2 ≤ sizeLine; decide, fun u nu => ?_⟩
      exact q _ (.num v) _ _ ⟨h0, h1⟩ (.tup (.inl (.inl upd_same)) (.cons (.str _) (.cons (.int _) .nil))) ((t2.trans t3).new nu)
end
end K13

namespace K13
open PySem PySem.Spec PyProof.Rows L2 Gx
section
variable {P : Program} {w : World} {K : PySem.W.Frag} {mg : Str → Option Value} {base : Heap} {A : Ad}
def sp_read_expression (K : PySem.W.Frag) (C B : Addr) (n : Nat) : Sp := fun vs H Q E => ∃ (u : Cu) (i : Nat) (m b : Int) (ri : Int) (r : Nat), vs = [.ref u.c, .int ri] ∧ ri = (r : Int) ∧ 1 ≤ r ∧ r ≤ n ∧ Cur C H u i m b ∧ u.ws.length ≤ 100000 ∧ (∀ x ∈ u.ws, x.length ≤ 1000) ∧ (∀ e j v H', rdE u.rc r i = .ok (e, j) → But u.c H H' → Cur C H' u j m b → Dp K H' v (exD e) → Q v H') ∧ (∀ e d H', rdE u.rc r i = .error e → H d = none → But u.c H H' → H' d = some (.xd [("at", .int (e : Nat))]) → E (.ref B) (some d) H')
theorem Z_read_expression {n : Nat} (K : PySem.W.Frag) (C B : Addr) {vs : List V} {H : Hp} {Q : VK} {E : XK} (hn : n = 0) (h : sp_read_expression K C B n vs H Q E) : False := by
  subst hn
  obtain ⟨u, i, m, b, ri, r, rfl, h0, h1, h2, _⟩ := h
  omega
theorem R_read_expression (T : Txt P K mg A) : ∀ n : Nat, FnOk P w K mg base (L2.CX P w) (n + 5) A.f_read_expression A.d_read_expression ["cursor", "room"] (sp_read_expression K A.c_Cursor A.c_BadText n)
  | 0 => ⟨fun vs H Q E h => (Z_read_expression K A.c_Cursor A.c_BadText rfl h).elim, fun _ _ _ _ _ _ _ _ _ _ _ _ _ h => (Z_read_expression K A.c_Cursor A.c_BadText rfl h).elim⟩
  | n + 1 => by
    have IH := R_read_expression T n
    refine (T.F_read_expression.ok (k := n + 5) sc_read_expression (fun vs H Q E h => ?_) (fun cdv Ar outer s H vs Q E hr h => ?_))
    · obtain ⟨u, i, m, b, ri, r, rfl, _⟩ := h
      rfl
    · obtain ⟨u, i, m, b, ri, r, rfl, rfl, hr1, hrn, hu, hz, hx, q1, q2⟩ := h
      obtain ⟨k, rfl⟩ : ∃ k, r = k + 1 := ⟨r - 1, by omega⟩
      obtain ⟨⟨dx, ho⟩, hw, hol, hvl⟩ := id hu
      have cl := T.cl_Cursor
      have na_words := T.na_Cursor_words
      have na_options := T.na_Cursor_options
      have na_variables := T.na_Cursor_variables
      have na_sees := T.na_Cursor_sees
      have na_at := T.na_Cursor_at
      have na_moves := T.na_Cursor_moves
      have na_branchings := T.na_Cursor_branchings

      have err : ∀ {e j : Nat} {d : Addr} {H2 : Hp}, rdE u.rc (k + 1) i = .error e → But u.c H H2 → H2 d = none → j = e → (∃ o, H2 u.c = some o) → E (.ref A.c_BadText) (some d) (upd H2 d (.xd [("at", .int (j : Nat))])) := fun {e j d H2} he hb hd hj hr => by
        subst hj
        refine q2 _ d _ he ?_ (hb.new hd) upd_same
        cases z : H d with
        | none => rfl
        | some o =>
          obtain ⟨o', hr⟩ := hr
          have := hb d o (fun y => by rw [y, hr] at hd; cases hd) z
          rw [hd] at this
          cases this
      have fresh : ∀ {d : Addr} {H2 : Hp}, But u.c H H2 → H2 d = none → (∃ o, H2 u.c = some o) → H d = none := fun {d H2} hb hd hr => by
        cases z : H d with
        | none => rfl
        | some o =>
          obtain ⟨o', hr⟩ := hr
          have := hb d o (fun y => by rw [y, hr] at hd; cases hd) z
          rw [hd] at this
          cases this
      refine ⟨_, (pss_cons (ps_set (i := 2) sc_read_expression.nd rfl (Or.inl rfl) (pe_prop (pv 0) T.cl_Cursor T.pr_Cursor_word (G_Cursor_word T) (hr.mono (by omega)) T.b_Cursor_word .nil pass0 rfl))
      (Evl.pss_cut (ps_if (PW.pt (pw_and (pt_cmpR op_in_seq (pv 2) (pe_glob (v := .ref A.k_SIGNS) rfl T.m_SIGNS rfl) (by rfl)) (pw_and1 (pt_cmpR op_gt (pv 1) pe_int (nomark _)))))
        (pss_cons (ps_fldaug (pv 0) pe_int in_add)
      (pss_cons (ps_set (i := 3) sc_read_expression.nd rfl (Or.inl rfl) (pe_callNSD IH (hr.mono (by omega)) rfl T.m_read_expression T.F_read_expression.kp T.kb_read_expression_room.choose_spec (fun σ => passAt (takes_of rfl rfl rfl rfl) σ) (pa_cons (pv 0) pa_nil) (pk_cons (pe_op op_sub (pv 1) pe_int) pk_nil)))
      (pss_cons (ps_set (i := 4) sc_read_expression.nd rfl (Or.inl rfl) (pe_callNSD IH (hr.mono (by omega)) rfl T.m_read_expression T.F_read_expression.kp T.kb_read_expression_room.choose_spec (fun σ => passAt (takes_of rfl rfl rfl rfl) σ) (pa_cons (pv 0) pa_nil) (pk_cons (pe_op op_sub (pv 1) pe_int) pk_nil)))
      (pss_one (ps_ret (pe_tup (pa_cons (pv 2) (pa_cons (pv 3) (pa_cons (pv 4) pa_nil)))))))))
        pss_nil)
      (Evl.pss_cut (ps_if (PW.pt (pw_and (pt_cmpR op_eq (pv 2) pe_str (nomark _)) (pw_and (p_truthK (K := K) rfl (pe_fld (pv 0) rfl) (by intro _; rfl)) (pw_and1 (pt_cmpR op_gt (pv 1) pe_int (nomark _))))))
        (pss_cons (ps_fldaug (pv 0) pe_int in_add)
      (pss_cons (ps_set (i := 5) sc_read_expression.nd rfl (Or.inl rfl) (pe_methSD (pv 0) T.cl_Cursor T.me_Cursor_take_name (G_Cursor_take_name T) (hr.mono (by omega)) T.b_Cursor_take_name .nil (fun σ => passAt (takes_of rfl rfl rfl rfl) σ) (pa_cons (pe_fld (pv 0) rfl) pa_nil)))
      (pss_cons (ps_set (i := 3) sc_read_expression.nd rfl (Or.inl rfl) (pe_callNSD IH (hr.mono (by omega)) rfl T.m_read_expression T.F_read_expression.kp T.kb_read_expression_room.choose_spec (fun σ => passAt (takes_of rfl rfl rfl rfl) σ) (pa_cons (pv 0) pa_nil) (pk_cons (pe_op op_sub (pv 1) pe_int) pk_nil)))
      (pss_cons (ps_set (i := 4) sc_read_expression.nd rfl (Or.inl rfl) (pe_callNSD IH (hr.mono (by omega)) rfl T.m_read_expression T.F_read_expression.kp T.kb_read_expression_room.choose_spec (fun σ => passAt (takes_of rfl rfl rfl rfl) σ) (pa_cons (pv 0) pa_nil) (pk_cons (pe_op op_sub (pv 1) pe_int) pk_nil)))
      (pss_one (ps_ret (pe_tup (pa_cons pe_str (pa_cons (pv 5) (pa_cons (pv 3) (pa_cons (pv 4) pa_nil)))))))))))
        pss_nil)
      (Evl.pss_cut (ps_if (PW.pt (pw_and (pt_cmpR op_eq (pv 2) pe_str (nomark _)) (pw_and (pt_val (pe_fld (pv 0) rfl)) (pw_and1 (pt_cmpR op_gt (pv 1) pe_int (nomark _))))))
        (pss_cons (ps_fldaug (pv 0) pe_int in_add)
      (pss_one (ps_ret (pe_tup (pa_cons pe_str (pa_cons (pe_callNSD IH (hr.mono (by omega)) rfl T.m_read_expression T.F_read_expression.kp T.kb_read_expression_room.choose_spec (fun σ => passAt (takes_of rfl rfl rfl rfl) σ) (pa_cons (pv 0) pa_nil) (pk_cons (pe_op op_sub (pv 1) pe_int) pk_nil)) pa_nil))))))
        pss_nil)
      (Evl.pss_cut (ps_if (PW.pt (pw_and (pt_cmpR op_eq (pv 2) pe_str (nomark _)) (pw_and1 (pt_val (pe_fld (pv 0) rfl)))))
        (pss_cons (ps_fldaug (pv 0) pe_int in_add)
      (pss_one (ps_ret (pe_tup (pa_cons pe_str pa_nil)))))
        pss_nil)
      (pss_cons (ps_if (PW.pt (pw_and (pt_cmpR o_notN (pv 2) pe_non (nomark _)) (pw_and1 (pt_cmpR op_in_seq (pv 2) (pe_fld (pv 0) rfl) (by rfl)))))
        (pss_cons (ps_fldaug (pv 0) pe_int in_add)
      (pss_one (ps_ret (pe_tup (pa_cons pe_str (pa_cons (pv 2) pa_nil))))))
        pss_nil)
      (pss_one (ps_ret (pe_tup (pa_cons pe_str (pa_cons (pe_methSD (pv 0) T.cl_Cursor T.me_Cursor_take_number (G_Cursor_take_number T) (hr.mono (by omega)) T.b_Cursor_take_number .nil (fun σ => passAt (takes_of rfl rfl rfl rfl) σ) (pa_cons pe_int (pa_cons (pe_glob (v := (.int 65535)) rfl T.v_GREATEST.choose_spec ⟨_, rfl⟩) pa_nil))) pa_nil))))))))))), ?_⟩
      try dsimp only [cxOf, Cx.nox, Cx.wish]
      walk_at "go"
      refine ⟨_, _, _, rfl, ho, u, i, m, b, rfl, hu, hz, ?_⟩
      walk_at "go"
      cases e : u.ws[i]? with
      | none =>
        dsimp only [optS]
        refine go_cut (fun σ' H' => σ' = [some (.ref u.c), some (.int ((k + 1 : Nat) : Int)), some .non, none, none, none] ∧ H' = H) ?_ ?_
        · walk_at "go"
          refine go_inNon (ks := signsS) (.inr (T.kt_SIGNS _)) ?_
          walk_at "go"
          exact ⟨rfl, rfl⟩
        rintro σ' H' ⟨rfl, rfl⟩
        walk_at "go"
        refine go_cut (fun σ' H1 => σ' = [some (.ref u.c), some (.int ((k + 1 : Nat) : Int)), some .non, none, none, none] ∧ H1 = H') ?_ ?_
        · walk_at "go"
          exact ⟨rfl, rfl⟩
        rintro σ' H ⟨rfl, rfl⟩
        walk_at "go"
        refine go_cut (fun σ' H1 => σ' = [some (.ref u.c), some (.int ((k + 1 : Nat) : Int)), some .non, none, none, none] ∧ H1 = H) ?_ ?_
        · walk_at "go"
          exact ⟨rfl, rfl⟩
        rintro σ' H' ⟨rfl, rfl⟩
        walk_at "go"
        refine go_cut (fun σ' H1 => σ' = [some (.ref u.c), some (.int ((k + 1 : Nat) : Int)), some .non, none, none, none] ∧ H1 = H') ?_ ?_
        · walk_at "go"
          exact ⟨rfl, rfl⟩
        rintro σ' H ⟨rfl, rfl⟩
        walk_at "go"
        refine ⟨_, _, _, rfl, ho, F_Cursor_no_take_number, ?_⟩
        walk_at "go"
        refine ⟨u, i, m, b, 0, 65535, rfl, hu, hz, hx, (fun r H' hr _ _ => by rw [e] at hr; cases hr), fun _ d hd => err (rdE_end e) (But.refl _ _) hd rfl ⟨_, ho⟩⟩
      | some w =>
      dsimp only [optS]
      have ew : u.rc.ws[i]? = some w := e
      refine go_cut (fun σ' H' => σ' = [some (.ref u.c), some (.int ((k + 1 : Nat) : Int)), some (.str w), none, none, none] ∧ H' = H ∧ ¬ (w ∈ signsS ∧ 0 < k)) ?_ ?_
      · walk_at "go"
        refine go_inStrs (ks := signsS) (.inr (T.kt_SIGNS _)) ?_
        walk_at "go"
        walk_at "br"
        · intro hs
          have hs := any_in (ts := signsS) hs
          walk_at "go"
          walk_at "br"
          · intro hk
            have hk : 0 < k := by omega
            have ee := rdE_sign ew hs hk
            walk_at "go"
            refine go_faI ho cl na_at F_Cursor_at (by show 7 < 1000; decide) ?_
            obtain ⟨hu1, b1⟩ := hu.bump ho
            generalize upd H u.c (.ins A.c_Cursor dx (putF "at" (.int ((i : Int) + 1)) (F_Cursor (.ref u.l) (.ref u.o) (.ref u.v) (.bl u.sees) (.int i) (.int m) (.int b)))) = H1 at *
            obtain ⟨dx1, ho1⟩ := hu1.ob
            walk_at "go"
            refine ⟨rfl, rfl, u, i + 1, m, b, _, k, rfl, by omega, hk, by omega, hu1, hz, hx, fun e1 j1 v1 H2 r1 b2 hu2 d1 => ?_, fun e1 d H2 r1 hd b2 hxd => ?_⟩
            rotate_left
            · exact q2 _ d _ (ee.trans (two_e1 r1)) (fresh b1 hd ⟨_, ho1⟩) (b1.trans b2) hxd
            obtain ⟨dx2, ho2⟩ := hu2.ob
            walk_at "go"
            refine ⟨rfl, rfl, u, j1, m, b, _, k, rfl, by omega, hk, by omega, hu2, hz, hx, fun e2 j2 v2 H3 r2 b3 hu3 d2 => ?_, fun e2 d H3 r2 hd b3 hxd => ?_⟩
            rotate_left
            · exact q2 _ d _ (ee.trans (two_e2 r1 r2)) (fresh (b1.trans b2) hd ⟨_, ho2⟩) ((b1.trans b2).trans b3) hxd
            walk_at "go"
            refine ⟨by show 3 ≤ sizeLine; decide, fun t nt => ?_⟩
            have st := same_new (o := HO.tup [.str w, v1, v2]) nt
            refine q1 _ _ _ _ (ee.trans (two_ok r1 r2)) (((b1.trans b2).trans b3).new nt) (hu3.same st) (.tup (.inl (.inl upd_same)) (.cons (by rw [(signs_at hs).2]; exact .str _) (.cons (dp_same st _ _ (dp_butI ho2 b3 _ _ d1)) (.cons (dp_same st _ _ d2) .nil))))
          · intro hk
            walk_at "go"
            exact ⟨rfl, rfl, fun z => hk (by omega)⟩
        · intro hs
          have hs := any_no (ts := signsS) hs
          walk_at "go"
          exact ⟨rfl, rfl, fun z => hs z.1⟩
      rintro σ' H' ⟨rfl, rfl, h1⟩
      walk_at "go"
      refine go_cut (fun σ' H1 => σ' = [some (.ref u.c), some (.int ((k + 1 : Nat) : Int)), some (.str w), none, none, none] ∧ H1 = H' ∧ ¬ (w = "pick" ∧ u.os ≠ [] ∧ 0 < k)) ?_ ?_
      · walk_at "go"
        walk_at "br"
        · intro hw2
          walk_at "go"
          refine go_truL (.of hol) ?_
          walk_at "br"
          · intro ho5
            have hon : u.os ≠ [] := fun z => by rw [z] at ho5; cases ho5
            walk_at "go"
            walk_at "br"
            · intro hk
              have hk : 0 < k := by omega
              have ee := rdE_pick ew h1 hw2 hon hk
              walk_at "go"
              refine go_faI ho cl na_at F_Cursor_at (by show 7 < 1000; decide) ?_
              obtain ⟨hu1, b1⟩ := hu.bump ho
              generalize upd H' u.c (.ins A.c_Cursor dx (putF "at" (.int ((i : Int) + 1)) (F_Cursor (.ref u.l) (.ref u.o) (.ref u.v) (.bl u.sees) (.int i) (.int m) (.int b)))) = H1 at *
              obtain ⟨dx1, ho1⟩ := hu1.ob
              walk_at "go"
              refine ⟨_, _, _, rfl, ho1, F_Cursor_no_take_name, ?_⟩
              walk_at "go"
              refine ⟨u, i + 1, m, b, u.o, u.os, rfl, hu1, hz, hx, hu1.ol, fun x H2 hxn b2 hu2 => ?_, fun hn d hd => ?_⟩
              rotate_left
              · refine err (ee.trans ?_) b1 hd rfl ⟨_, ho1⟩
                cases e9 : u.rc.ws[i + 1]? with
                | none => rfl
                | some y =>
                  have e9' : u.ws[i + 1]? = some y := e9
                  rw [e9'] at hn
                  refine if_neg fun z => ?_
                  have hn : (if y ∈ u.os then some (V.str y) else none) = none := hn
                  rw [if_pos (show y ∈ u.os from z)] at hn
                  cases hn
              obtain ⟨y, e9, hy, rfl⟩ : ∃ y, u.ws[i + 1]? = some y ∧ y ∈ u.os ∧ x = .str y := by
                cases e9 : u.ws[i + 1]? with
                | none => rw [e9] at hxn; cases hxn
                | some y =>
                  rw [e9] at hxn
                  have hxn : (if y ∈ u.os then some (V.str y) else none) = some x := hxn
                  split at hxn
                  · rename_i z
                    cases hxn
                    exact ⟨y, rfl, z, rfl⟩
                  · cases hxn
              have e9' : u.rc.ws[i + 1]? = some y := e9
              rw [e9'] at ee
              have ee : rdE u.rc (k + 1) i = two (rdE u.rc k) (.pick y) (i + 1 + 1) := ee.trans (if_pos hy)
              have hu2 : Cur A.c_Cursor H2 u ((i + 1 + 1 : Nat) : Int) m b := hu2
              obtain ⟨dx2, ho2⟩ := hu2.ob
              walk_at "go"
              refine ⟨rfl, rfl, u, i + 1 + 1, m, b, _, k, rfl, by omega, hk, by omega, hu2, hz, hx, fun e1 j1 v1 H3 r1 b3 hu3 d1 => ?_, fun e1 d H3 r1 hd b3 hxd => ?_⟩
              rotate_left
              · exact q2 _ d _ (ee.trans (two_e1 r1)) (fresh (b1.trans b2) hd ⟨_, ho2⟩) ((b1.trans b2).trans b3) hxd
              obtain ⟨dx3, ho3⟩ := hu3.ob
              walk_at "go"
              refine ⟨rfl, rfl, u, j1, m, b, _, k, rfl, by omega, hk, by omega, hu3, hz, hx, fun e2 j2 v2 H4 r2 b4 hu4 d2 => ?_, fun e2 d H4 r2 hd b4 hxd => ?_⟩
              rotate_left
              · exact q2 _ d _ (ee.trans (two_e2 r1 r2)) (fresh ((b1.trans b2).trans b3) hd ⟨_, ho3⟩) (((b1.trans b2).trans b3).trans b4) hxd
              walk_at "go"
              refine ⟨by show 4 ≤ sizeLine; decide, fun t nt => ?_⟩
              have st := same_new (o := HO.tup [.str "pick", .str y, v1, v2]) nt
              refine q1 _ _ _ _ (ee.trans (two_ok r1 r2)) ((((b1.trans b2).trans b3).trans b4).new nt) (hu4.same st) (.tup (.inl (.inl upd_same)) (.cons (.str _) (.cons (.str _) (.cons (dp_same st _ _ (dp_butI ho3 b4 _ _ d1)) (.cons (dp_same st _ _ d2) .nil)))))
            · intro hk
              walk_at "go"
              exact ⟨rfl, rfl, fun z => hk (by omega)⟩
          · intro ho5
            have hon : u.os = [] := by
              cases ez : u.os with
              | nil => rfl
              | cons a l => rw [ez] at ho5; cases ho5
            walk_at "go"
            exact ⟨rfl, rfl, fun z => z.2.1 hon⟩
        · intro hw2
          walk_at "go"
          exact ⟨rfl, rfl, fun z => hw2 z.1⟩
      rintro σ' H ⟨rfl, rfl, h2⟩
      walk_at "go"
      refine go_cut (fun σ' H1 => σ' = [some (.ref u.c), some (.int ((k + 1 : Nat) : Int)), some (.str w), none, none, none] ∧ H1 = H ∧ ¬ (w = "view" ∧ u.sees = true ∧ 0 < k)) ?_ ?_
      · walk_at "go"
        walk_at "br"
        · intro hw2
          walk_at "go"
          walk_at "br"
          · intro hse
            walk_at "go"
            walk_at "br"
            · intro hk
              have hk : 0 < k := by omega
              have ee := rdE_view ew h1 h2 hw2 hse hk
              walk_at "go"
              refine go_faI ho cl na_at F_Cursor_at (by show 7 < 1000; decide) ?_
              obtain ⟨hu1, b1⟩ := hu.bump ho
              generalize upd H u.c (.ins A.c_Cursor dx (putF "at" (.int ((i : Int) + 1)) (F_Cursor (.ref u.l) (.ref u.o) (.ref u.v) (.bl u.sees) (.int i) (.int m) (.int b)))) = H1 at *
              obtain ⟨dx1, ho1⟩ := hu1.ob
              walk_at "go"
              refine ⟨rfl, rfl, u, i + 1, m, b, _, k, rfl, by omega, hk, by omega, hu1, hz, hx, fun e1 j1 v1 H2 r1 b2 hu2 d1 => ?_, fun e1 d H2 r1 hd b2 hxd => ?_⟩
              rotate_left
              · exact q2 _ d _ (ee.trans (one_e r1)) (fresh b1 hd ⟨_, ho1⟩) (b1.trans b2) hxd
              walk_at "go"
              refine ⟨by show 2 ≤ sizeLine; decide, fun t nt => ?_⟩
              have st := same_new (o := HO.tup [.str "view", v1]) nt
              exact q1 _ _ _ _ (ee.trans (one_ok r1)) ((b1.trans b2).new nt) (hu2.same st) (.tup (.inl (.inl upd_same)) (.cons (.str _) (.cons (dp_same st _ _ d1) .nil)))
            · intro hk
              walk_at "go"
              exact ⟨rfl, rfl, fun z => hk (by omega)⟩
          · intro hse
            walk_at "go"
            exact ⟨rfl, rfl, fun z => by rw [hse] at z; exact Bool.false_ne_true z.2.1⟩
        · intro hw2
          walk_at "go"
          exact ⟨rfl, rfl, fun z => hw2 z.1⟩
      rintro σ' H' ⟨rfl, rfl, h3⟩
      walk_at "go"
      refine go_cut (fun σ' H1 => σ' = [some (.ref u.c), some (.int ((k + 1 : Nat) : Int)), some (.str w), none, none, none] ∧ H1 = H' ∧ ¬ (w = "long" ∧ u.sees = true)) ?_ ?_
      · walk_at "go"
        walk_at "br"
        · intro hw2
          walk_at "go"
          walk_at "br"
          · intro hse
            have ee := rdE_long ew h1 h2 h3 hw2 hse
            walk_at "go"
            refine go_faI ho cl na_at F_Cursor_at (by show 7 < 1000; decide) ?_
            obtain ⟨hu1, b1⟩ := hu.bump ho
            generalize upd H' u.c (.ins A.c_Cursor dx (putF "at" (.int ((i : Int) + 1)) (F_Cursor (.ref u.l) (.ref u.o) (.ref u.v) (.bl u.sees) (.int i) (.int m) (.int b)))) = H1 at *
            walk_at "go"
            refine ⟨by show 1 ≤ sizeLine; decide, fun t nt => ?_⟩
            have st := same_new (o := HO.tup [.str "long"]) nt
            exact q1 _ _ _ _ ee (b1.new nt) (hu1.same st) (.tup (.inl (.inl upd_same)) (.cons (.str _) .nil))
          · intro hse
            walk_at "go"
            exact ⟨rfl, rfl, fun z => by rw [hse] at z; exact Bool.false_ne_true z.2⟩
        · intro hw2
          walk_at "go"
          exact ⟨rfl, rfl, fun z => hw2 z.1⟩
      rintro σ' H ⟨rfl, rfl, h4⟩
      walk_at "go"
      refine go_inStrs (.inl (.of hvl)) ?_
      walk_at "go"
      walk_at "br"
      · intro hv
        have ee := rdE_var ew h1 h2 h3 h4 (any_in hv)
        walk_at "go"
        refine go_faI ho cl na_at F_Cursor_at (by show 7 < 1000; decide) ?_
        obtain ⟨hu1, b1⟩ := hu.bump ho
        generalize upd H u.c (.ins A.c_Cursor dx (putF "at" (.int ((i : Int) + 1)) (F_Cursor (.ref u.l) (.ref u.o) (.ref u.v) (.bl u.sees) (.int i) (.int m) (.int b)))) = H1 at *
        walk_at "go"
        refine ⟨by show 2 ≤ sizeLine; decide, fun t nt => ?_⟩
        have st := same_new (o := HO.tup [.str "variable", .str w]) nt
        exact q1 _ _ _ _ ee (b1.new nt) (hu1.same st) (.tup (.inl (.inl upd_same)) (.cons (.str _) (.cons (.str _) .nil)))
      · intro hv
        have ee := rdE_num ew h1 h2 h3 h4 (any_no hv)
        walk_at "go"
        refine ⟨_, _, _, rfl, ho, F_Cursor_no_take_number, ?_⟩
        walk_at "go"
        refine ⟨u, i, m, b, 0, 65535, rfl, hu, hz, hx, fun v H1 hn b1 hu1 => ?_, fun hn d hd => ?_⟩
        · rw [e] at hn
          cases en : numOf w with
          | none => rw [numR_no en] at hn; cases hn
          | some n =>
            rw [numR_yes en (by omega) (by have := numOf_le en; omega)] at hn
            cases hn
            rw [en] at ee
            walk_at "go"
            refine ⟨by show 2 ≤ sizeLine; decide, fun t nt => ?_⟩
            have st := same_new (o := HO.tup [.str "number", .int (n : Nat)]) nt
            exact q1 _ _ _ _ ee (b1.new nt) (hu1.same st) (.tup (.inl (.inl upd_same)) (.cons (.str _) (.cons (.int _) .nil)))
        · rw [e] at hn
          cases en : numOf w with
          | none =>
            rw [en] at ee
            exact err ee (But.refl _ _) hd rfl ⟨_, ho⟩
          | some n =>
            rw [numR_yes en (by omega) (by have := numOf_le en; omega)] at hn
            cases hn
end
end K13

namespace K13
open PySem PySem.Spec PyProof.Rows L2 Gx
section
variable {P : Program} {w : World} {K : PySem.W.Frag} {mg : Str → Option Value} {base : Heap} {A : Ad}
def sp__law_read (K : PySem.W.Frag) (C B : Addr) : Sp := fun vs H Q _ => ∃ (u : Cu) (i : Nat) (m b : Int) (r : Nat), vs = [.ref u.c, .int (r : Nat)] ∧ 1 ≤ r ∧ r ≤ 13 ∧ Cur C H u i m b ∧ u.ws.length ≤ 100000 ∧ (∀ x ∈ u.ws, x.length ≤ 1000) ∧ (∀ e j v H', rdE u.rc r i = .ok (e, j) → But u.c H H' → Cur C H' u j m b → Dp K H' v (.tuple [.str "read", exD e]) → Q v H') ∧ (∀ e v H', rdE u.rc r i = .error e → But u.c H H' → Dp K H' v (.tuple [.str "refused", .int (e : Nat), .bool true]) → Q v H')
theorem G__law_read (T : Txt P K mg A) : FnOk P w K mg base CX0 19 A.f__law_read A.d__law_read ["_law_cursor", "_law_bound"] (sp__law_read K A.c_Cursor A.c_BadText) := by
  refine (T.F__law_read.ok (k := 18) sc__law_read (fun vs H Q E h => ?_) (fun cdv Ar outer s H vs Q E hr h => ?_))
  · obtain ⟨u, i, m, b, r, rfl, _⟩ := h
    rfl
  · obtain ⟨u, i, m, b, r, rfl, hr1, hr13, hu, hz, hx, q1, q2⟩ := h
    refine ⟨_, (pss_one (ps_try_as (i := 2) rfl rfl sc__law_read.nd rfl rfl ⟨rfl, by decide, Or.inl T.m_BadText⟩ takes0
        (fun W pn xe tk ps => by exact (pss_one (ps_ret (pe_tup (pa_cons pe_str (pa_cons (pe_callNSD (R_read_expression T 13) (hr.mono (by decide)) rfl T.m_read_expression T.F_read_expression.kp T.kb_read_expression_room.choose_spec (fun σ => passAt tk σ) (pa_cons (pv 0) pa_nil) (pk_cons (pv 1) pk_nil)) pa_nil))))))
        (fun a oe cls d pn hz hf => by exact (pss_one (ps_ret (pe_tup (pa_cons pe_str (pa_cons (pe_xf T.xf_BadText T.er_BadText.noN hz hf (pv 2)) (pa_cons (pe_callB (call_isX hz hf) (by rfl) T.n_isinstance (by decide +kernel) (pa_cons (pv 2) (pa_cons (pe_glob (v := .ref A.c_GameError) rfl T.m_GameError rfl) pa_nil))) pa_nil))))))))), ?_⟩
    try dsimp only [cxOf, Cx.nox, Cx.wish]
    walk_at "go"
    refine ⟨rfl, rfl, u, i, m, b, _, r, rfl, rfl, hr1, hr13, hu, hz, hx, fun e j v H1 hr b1 hu1 dv => ?_, fun e d H1 hr hd b1 hxd => ?_⟩
    · walk_at "go"
      refine ⟨by show 2 ≤ sizeLine; decide, fun t nt => ?_⟩
      have s := same_new (o := HO.tup [.str "read", v]) nt
      exact q1 e j _ _ hr (b1.new nt) (hu1.same s) (.tup (.inl (.inl upd_same)) (.cons (.str _) (.cons (dp_same s _ _ dv) .nil)))
    · refine we_as T.te_BadText fun y hy => ?_
      walk_at "go"
      refine ⟨rfl, rfl, _, _, _, rfl, hxd, rfl, ?_⟩
      walk_at "go"
      refine go_isX hxd T.xd_BadText (.cls T.ki_ge) ?_
      walk_at "go"
      refine ⟨by show 3 ≤ sizeLine; decide, fun t nt => ?_⟩
      exact q2 e _ _ hr (b1.new nt) (.tup (.inl (.inl upd_same)) (.cons (.str _) (.cons (.int _) (.cons (.bl _) .nil))))
end
end K13

namespace K13
open PySem PySem.Spec PyProof.Rows L2 Gx
section
variable {P : Program} {w : World} {K : PySem.W.Frag} {mg : Str → Option Value} {base : Heap} {A : Ad}
def sp_law (K : PySem.W.Frag) : Sp := fun vs H Q _ => ∃ (a : Addr) (ns : List Int), vs = [.ref a] ∧ SqL K H a (ns.map V.int) ∧ ns.length ≤ 63 ∧ ∀ H', Q (.bl true) H'
theorem G_law (T : Txt P K mg A) : FnOk P w K mg base CX0 20 A.f_law A.d_law ["_law_script"] (sp_law K) := by
  refine (T.F_law.ok (k := 19) sc_law (fun vs H Q E h => ?_) (fun cdv Ar outer s H vs Q E hr h => ?_))
  · obtain ⟨a, ns, rfl, _⟩ := h
    rfl
  · obtain ⟨a, ns, rfl, hs, hl, q⟩ := h
    have cl := T.cl_Cursor
    have na_at := T.na_Cursor_at
    refine ⟨_, (pss_cons (ps_set (i := 1) sc_law.nd rfl (Or.inl rfl) (pe_call (G__law_pool T) (hr.mono (by decide)) rfl T.m__law_pool T.F__law_pool.kp T.b__law_pool .nil pass0 (pa_cons (pv 0) (pa_cons pe_int pa_nil))))
      (pss_cons (ps_set (i := 2) sc_law.nd rfl (Or.inl rfl) (pe_cmpR op_eq (pe_call (G__law_draw T) (hr.mono (by decide)) rfl T.m__law_draw T.F__law_draw.kp T.b__law_draw .nil pass0 (pa_cons (pv 1) (pa_cons pe_int pa_nil))) pe_int (nomark _)))
      (pss_cons (ps_set (i := 3) sc_law.nd rfl (Or.inl rfl) (pe_call (G__law_names T) (hr.mono (by decide)) rfl T.m__law_names T.F__law_names.kp T.b__law_names .nil pass0 (pa_cons (pv 1) (pa_cons pe_int pa_nil))))
      (pss_cons (ps_set (i := 4) sc_law.nd rfl (Or.inl rfl) (pe_lst pa_nil))
      (Evl.pss_cut (ps_if (pt_not (pt_val (pv 2)))
        (pss_one (ps_set (i := 4) sc_law.nd rfl (Or.inl rfl) (pe_call (G__law_names T) (hr.mono (by decide)) rfl T.m__law_names T.F__law_names.kp T.b__law_names .nil pass0 (pa_cons (pv 1) (pa_cons pe_int pa_nil)))))
        pss_nil)
      (pss_cons (ps_set (i := 5) sc_law.nd rfl (Or.inl rfl) (pe_call (R__law_expression T 12) (hr.mono (by decide)) rfl T.m__law_expression T.F__law_expression.kp T.b__law_expression .nil pass0 (pa_cons (pv 1) (pa_cons (pv 3) (pa_cons (pv 4) (pa_cons (pv 2) (pa_cons (pe_op op_add pe_int (pe_call (G__law_draw T) (hr.mono (by decide)) rfl T.m__law_draw T.F__law_draw.kp T.b__law_draw .nil pass0 (pa_cons (pv 1) (pa_cons pe_int pa_nil)))) pa_nil)))))))
      (pss_cons (ps_set (i := 6) sc_law.nd rfl (Or.inl rfl) (pe_call (R__law_rows T 13) (hr.mono (by decide)) rfl T.m__law_rows T.F__law_rows.kp T.b__law_rows .nil pass0 (pa_cons (pv 5) (pa_cons pe_int pa_nil))))
      (pss_cons (ps_setLc (i := 7) (own := [("_law_row", 15)]) (g := gName 15) (tt := tYes) rfl sc_law.nd rfl rfl (sw_true rfl rfl rfl (by decide +kernel)) (pi_list (pv 6)) (blkOk_by (N := ["_law_script", "_law_pool_here", "_law_brain", "_law_names_here", "_law_picks", "_law_due", "_law_rows_here", "_law_words", "_law_before", "_law_behind", "_law_bound", "_law_cursor", "_law_word", "_law_actual", "_law_k", "_law_row"]) (sc := defScope s_law) (by decide +kernel)) (fun _ _ _ _ _ => (pg_name (i := 15) sc_law.nd rfl (Or.inl rfl))) (fun _ _ _ _ _ => by exact pts_nil) (fun _ _ _ _ _ => by exact (pe_ix (ix_tupK (K := K) rfl) (pv 15) pe_int (fun _ _ => rfl))))
      (pss_cons (ps_if (pt_not (pt_val (pe_call (R__law_same T 14) (hr.mono (by decide)) rfl T.m__law_same T.F__law_same.kp T.b__law_same .nil pass0 (pa_cons (pe_call (R_expression_words T 13) (hr.mono (by decide)) rfl T.m_expression_words T.F_expression_words.kp T.b_expression_words .nil pass0 (pa_cons (pv 5) pa_nil)) (pa_cons (pv 7) pa_nil)))))
        (pss_one (ps_ret pe_bl))
        pss_nil)
      (pss_cons (ps_set (i := 8) sc_law.nd rfl (Or.inl rfl) (pe_slice sl_list (pe_lst (pa_cons pe_str (pa_cons pe_str pa_nil))) po_none (po_some (pe_call (G__law_draw T) (hr.mono (by decide)) rfl T.m__law_draw T.F__law_draw.kp T.b__law_draw .nil pass0 (pa_cons (pv 1) (pa_cons pe_int pa_nil))))))
      (pss_cons (ps_set (i := 9) sc_law.nd rfl (Or.inl rfl) (pe_slice sl_list (pe_lst (pa_cons pe_str (pa_cons pe_str (pa_cons pe_str (pa_cons pe_str pa_nil))))) po_none (po_some (pe_call (G__law_draw T) (hr.mono (by decide)) rfl T.m__law_draw T.F__law_draw.kp T.b__law_draw .nil pass0 (pa_cons (pv 1) (pa_cons pe_int pa_nil))))))
      (pss_cons (ps_set (i := 10) sc_law.nd rfl (Or.inl rfl) (pe_op op_add pe_int (pe_call (G__law_draw T) (hr.mono (by decide)) rfl T.m__law_draw T.F__law_draw.kp T.b__law_draw .nil pass0 (pa_cons (pv 1) (pa_cons pe_int pa_nil)))))
      (pss_cons (ps_set (i := 11) sc_law.nd rfl (Or.inl rfl) (pe_makeK T.mk_Cursor (G_Cursor___init__ T) (hr.mono (by decide)) rfl T.m_Cursor T.kb_Cursor___init___options_variables_sees.choose_spec pass0 (pa_cons (pe_op op_cat (pe_op op_cat (pv 8) (pv 7)) (pv 9)) pa_nil) (pk_cons (pe_callTy k_list_of (by rfl) T.n_list (by decide +kernel) (pa_cons (pv 4) pa_nil)) (pk_cons (pe_callTy k_list_of (by rfl) T.n_list (by decide +kernel) (pa_cons (pv 3) pa_nil)) (pk_cons (pv 2) pk_nil)))))
      (pss_cons (ps_for PassesOwn.never rfl (pi_list (pv 8)) (pg_name (i := 12) sc_law.nd rfl (Or.inl rfl))
        (pss_one (ps_expr (pe_meth (pv 11) T.cl_Cursor T.me_Cursor_take_word (G_Cursor_take_word T) (hr.mono (by decide)) T.b_Cursor_take_word .nil passL (pa_cons (pv 12) pa_nil)))))
      (pss_cons (ps_set (i := 13) sc_law.nd rfl (Or.inl rfl) (pe_call (G__law_read T) (hr.mono (by decide)) rfl T.m__law_read T.F__law_read.kp T.b__law_read .nil pass0 (pa_cons (pv 11) (pa_cons (pv 10) pa_nil))))
      (pss_cons (ps_for PassesOwn.never rfl (pi_range1 rfl T.n_range (pa_cons (pe_callB k_len (by rfl) T.n_len (by decide +kernel) (pa_cons (pv 6) pa_nil)) pa_nil)) (pg_name (i := 14) sc_law.nd rfl (Or.inl rfl))
        (pss_one (ps_if (pt_cmpR op_gt (pe_ix ix_tup (pe_ix ix_list (pv 6) (pv 14) (fun _ _ => rfl)) pe_int (fun _ _ => rfl)) (pv 10) (nomark _))
        (pss_one (ps_ret (pe_call (R__law_same T 14) (hr.mono (by decide)) rfl T.m__law_same T.F__law_same.kp T.b__law_same .nil pass0 (pa_cons (pv 13) (pa_cons (pe_tup (pa_cons pe_str (pa_cons (pe_op op_add (pe_callB k_len (by rfl) T.n_len (by decide +kernel) (pa_cons (pv 8) pa_nil)) (pv 14)) (pa_cons pe_bl pa_nil)))) pa_nil)))))
        pss_nil)))
      (pss_one (ps_ret (pe_and (pe_call (R__law_same T 14) (hr.mono (by decide)) rfl T.m__law_same T.F__law_same.kp T.b__law_same .nil pass0 (pa_cons (pv 13) (pa_cons (pe_tup (pa_cons pe_str (pa_cons (pv 5) pa_nil))) pa_nil))) (pe_one (pe_call (R__law_same T 14) (hr.mono (by decide)) rfl T.m__law_same T.F__law_same.kp T.b__law_same .nil pass0 (pa_cons (pe_fld (pv 11) rfl) (pa_cons (pe_op op_add (pe_callB k_len (by rfl) T.n_len (by decide +kernel) (pa_cons (pv 8) pa_nil)) (pe_callB k_len (by rfl) T.n_len (by decide +kernel) (pa_cons (pv 7) pa_nil))) pa_nil))))))))))))))))))))))), ?_⟩
    try dsimp only [cxOf, Cx.nox, Cx.wish]
    walk_at "go"
    refine ⟨a, ns, 40, rfl, hs, by omega, fun p H1 _ _ _ s1 hp => ?_⟩
    walk_at "go"
    refine ⟨p, _, 3, rfl, hp, by decide, by decide, fun z H2 z0 z1 t2 => ?_⟩
    walk_at "go"
    generalize decide (z = 1) = br
    refine ⟨p, _, 3, rfl, t2.pool, by decide, by decide, fun nl xs H3 nnl enl hxl _ hxn t3 => ?_⟩
    have npl := t2.pool.nea nnl
    have t23 := t2.trans t3
    walk_at "go"
    refine ⟨by show 0 ≤ sizeLine; decide, fun l nl2 => ?_⟩
    walk_at "go"
    have e2 := same_new (o := HO.lst []) nl2 _ _ enl
    have nlp := t23.pool.nea nl2
    refine go_cut (fun σ' H' => ∃ (pl : Addr) (ps : List Str), σ' = [some (.ref a), some (.ref p.a), some (.bl br), some (.ref nl), some (.ref pl), none, none, none, none, none, none, none, none, none, none, none] ∧ H' nl = some (.lst (xs.map V.str)) ∧ H' pl = some (.lst (ps.map V.str)) ∧ pl ≠ p.a ∧ ps.length < 100 ∧ (∀ x ∈ ps, isName x = true) ∧ Turn p 40 H1 H') ?_ ?_
    · walk_at "go"
      walk_at "br"
      · intro hb
        walk_at "go"
        refine ⟨p, _, 3, rfl, t23.pool.new nl2, by decide, by decide, fun pl ys H4 npl2 epl hyl _ hyn t4 => ?_⟩
        walk_at "go"
        exact ⟨pl, ys, rfl, t4.but _ _ npl e2, epl, (t23.pool.new nl2).nea npl2, by omega, hyn, (t23.new nl2).trans t4⟩
      · intro hb
        walk_at "go"
        exact ⟨l, [], rfl, e2, upd_same, nlp, by decide, (fun x h => nomatch h), t23.new nl2⟩
    rintro σ' H4 ⟨pl, ps, rfl, enl4, epl4, nppl, hpsl, hpn, t4⟩
    walk_at "go"
    refine ⟨p, _, 12, rfl, t4.pool, by decide, by decide, fun d H5 d0 d1 t5 => ?_⟩
    walk_at "go"
    have enl5 := t5.but _ _ npl enl4
    have epl5 := t5.but _ _ nppl epl4
    refine ⟨p, _, nl, pl, xs, ps, br, 1 + d, rfl, t5.pool, enl5, epl5, npl, nppl, by omega, hpsl, by omega, by omega, by decide, fun v e b6 H6 hin dv t6 => ?_⟩
    have enl6 := t6.but _ _ npl enl5
    have epl6 := t6.but _ _ nppl epl5
    have hin13 := hin.le (show 12 ≤ 13 by decide)
    have hlen := hin.len
    walk_at "go"
    refine ⟨v, 1, e, ps, xs, br, rfl, dv, hin13, by decide, fun R ys H7 nR s7 eR dR => ?_⟩
    walk_at "go"
    have ly : ys.length = (rowsE e 1).length := by rw [dpAll_len dR, List.length_map]
    have lw := rowsE_len e 1
    refine lcLW ys (.of eR) fun W nW => ?_
    refine ⟨fun i H' => H' W = some (.lst (((wordsE e).take i).map V.str)) ∧ Same H7 H', ⟨upd_same, same_new nW⟩, fun i H' h => .of (h.2 _ _ eR), ?_, ?_⟩
    · rintro i x H' hx ⟨eW, s⟩
      have hi : i < (rowsE e 1).length := by
        have := (List.getElem?_eq_some_iff.mp hx).1
        omega
      have er := List.getElem?_eq_getElem hi
      generalize (rowsE e 1)[i] = z at er
      obtain ⟨w, ew, dw⟩ := dpAll_get (dpAll_same s _ _ dR) (i := i) (d := rwE z) (by rw [List.getElem?_map, er]; rfl)
      rw [hx] at ew
      cases ew
      obtain ⟨pa, px, rfl, ep, dp⟩ := dp_tup dw
      obtain ⟨z1, z2, rfl, dz1, dz2⟩ := dp2 dp
      cases dpS dz1
      refine go_name ⟨rfl, ?_⟩
      refine go_yes ?_
      refine iteT ?_
      walk_at "go"
      refine ⟨_, eW, szlt (by rw [List.length_map]; have := List.length_take_le' i (wordsE e); omega), ?_, same_mut s nW⟩
      have en : (wordsE e)[i]? = some z.1 := by rw [← rowsE_fst e 1, List.getElem?_map, er]; rfl
      rw [upd_same, take_snoc en, List.map_append]
      rfl
    rintro H8 ⟨eW, s8⟩
    rw [ly, lw, List.take_length] at eW
    have s68 := s7.trans s8
    walk_at "go"
    refine ⟨v, e, ps, xs, br, rfl, dp_same s68 _ _ dv, hin13, by decide, fun D H9 hD s9 eD => ?_⟩
    walk_at "go"
    refine ⟨_, _, rfl, eqd_of 13 (.list ((wordsE e).map .str)) _ _ ?_ ?_ (.lst (.of eD) (dp_strs _)) (.lst (.of (s9 _ _ eW)) (dp_strs _)), ?_⟩
    · show dDeepAll _ + 1 ≤ 13
      have : dDeepAll ((wordsE e).map PyData.str) ≤ 0 := dDeep_strs _
      omega
    · show (decide (((wordsE e).map PyData.str).length ≤ 100000) && smallAll _) = true
      rw [List.length_map, decide_eq_true (by omega), small_strs]
      rfl
    walk_at "go"
    have s69 := s68.trans s9
    have t9 := t6.same s69
    have eR9 := (s8.trans s9) _ _ eR
    have dR9 := dpAll_same (s8.trans s9) _ _ dR
    have eW9 := s9 _ _ eW
    have dv9 := dp_same s69 _ _ dv
    have enl9 := s69 _ _ enl6
    have epl9 := s69 _ _ epl6
    have nRp := t6.pool.nea nR
    have nWp := (t6.pool.same s7).nea nW
    refine ⟨by show 2 ≤ sizeLine; decide, fun l1 n1 => ?_⟩
    walk_at "go"
    have u1 := same_new (o := HO.lst [.str "pay", .str "7"]) n1
    refine ⟨p, _, 3, rfl, t9.pool.new n1, by decide, by decide, fun ka H10 ka0 ka1 t10 => ?_⟩
    obtain ⟨ka, rfl⟩ : ∃ k : Nat, ka = (k : Int) := ⟨ka.toNat, by omega⟩
    have nl1p := t9.pool.nea n1
    have e1 := t10.but _ _ nl1p upd_same
    walk_at "go"
    refine go_slL (.of e1) fun B nB => ?_
    have u2 := same_new (o := HO.lst (cutV [.str "pay", .str "7"] none (some (ka : Int)))) nB
    obtain ⟨bs, hbs, hbl⟩ : ∃ bs : List Str, cutV [V.str "pay", .str "7"] none (some (ka : Int)) = bs.map V.str ∧ bs.length ≤ 2 ∧ ∀ x ∈ bs, x.length ≤ 1000 := by
      refine ⟨(["pay", "7"] : List Str).take ka, by rw [cut_to, List.map_take]; rfl, by rw [List.length_take]; exact Nat.min_le_right _ _, fun x hx => ?_⟩
      have := List.mem_of_mem_take hx
      have hall : (["pay", "7"] : List Str).all (fun x => decide (x.length ≤ 1000)) = true := by decide +kernel
      simpa using List.all_eq_true.mp hall x this
    rw [hbs]
    rw [hbs] at u2
    have t11 := (((t9.new n1).trans t10).same u2)
    have keep : ∀ {x : Addr} {o : HO}, x ≠ p.a → H9 x = some o → upd H10 B (.lst (bs.map V.str)) x = some o := fun n h => u2 _ _ (t10.but _ _ n (u1 _ _ h))
    have eB : upd H10 B (.lst (bs.map V.str)) B = some (.lst (bs.map V.str)) := upd_same
    have eR11 := keep nRp eR9
    have eW11 := keep nWp eW9
    have enl11 := keep npl enl9
    have epl11 := keep nppl epl9
    have dv11 := dp_same u2 _ _ (t10.dp (t9.pool.new n1) (exD_noL e) (dp_same u1 _ _ dv9))
    have dR11 := dpAll_same u2 _ _ (dpAll_but (l := p.a) (t9.pool.new n1).there.choose_spec t10.but _ _ (noL_rows e 1) (dpAll_same u1 _ _ dR9))
    have nBp := t10.pool.nea nB
    generalize upd H10 B (.lst (bs.map V.str)) = H11 at *
    walk_at "go"
    refine ⟨by show 4 ≤ sizeLine; decide, fun l2 n2 => ?_⟩
    walk_at "go"
    have u3 := same_new (o := HO.lst [.str "5", .str "end", .str "+", .str "?"]) n2
    refine ⟨p, _, 5, rfl, t11.pool.new n2, by decide, by decide, fun kb H12 kb0 kb1 t12 => ?_⟩
    obtain ⟨kb, rfl⟩ : ∃ k : Nat, kb = (k : Int) := ⟨kb.toNat, by omega⟩
    have nl2p := t11.pool.nea n2
    have e12 := t12.but _ _ nl2p upd_same
    walk_at "go"
    refine go_slL (.of e12) fun C nC => ?_
    have u4 := same_new (o := HO.lst (cutV [.str "5", .str "end", .str "+", .str "?"] none (some (kb : Int)))) nC
    obtain ⟨cs, hcs, hcl⟩ : ∃ cs : List Str, cutV [V.str "5", .str "end", .str "+", .str "?"] none (some (kb : Int)) = cs.map V.str ∧ cs.length ≤ 4 ∧ ∀ x ∈ cs, x.length ≤ 1000 := by
      refine ⟨(["5", "end", "+", "?"] : List Str).take kb, by rw [cut_to, List.map_take]; rfl, by rw [List.length_take]; exact Nat.min_le_right _ _, fun x hx => ?_⟩
      have := List.mem_of_mem_take hx
      have hall : (["5", "end", "+", "?"] : List Str).all (fun x => decide (x.length ≤ 1000)) = true := by decide +kernel
      simpa using List.all_eq_true.mp hall x this
    rw [hcs]
    rw [hcs] at u4
    have t13 := (((t11.new n2).trans t12).same u4)
    have keep2 : ∀ {x : Addr} {o : HO}, x ≠ p.a → H11 x = some o → upd H12 C (.lst (cs.map V.str)) x = some o := fun n h => u4 _ _ (t12.but _ _ n (u3 _ _ h))
    have eC : upd H12 C (.lst (cs.map V.str)) C = some (.lst (cs.map V.str)) := upd_same
    have eB13 := keep2 nBp eB
    have eR13 := keep2 nRp eR11
    have eW13 := keep2 nWp eW11
    have enl13 := keep2 npl enl11
    have epl13 := keep2 nppl epl11
    have dv13 := dp_same u4 _ _ (t12.dp (t11.pool.new n2) (exD_noL e) (dp_same u3 _ _ dv11))
    have dR13 := dpAll_same u4 _ _ (dpAll_but (l := p.a) (t11.pool.new n2).there.choose_spec t12.but _ _ (noL_rows e 1) (dpAll_same u3 _ _ dR11))
    have nCp := t12.pool.nea nC
    generalize upd H12 C (.lst (cs.map V.str)) = H13 at *
    walk_at "go"
    refine ⟨p, _, 12, rfl, t13.pool, by decide, by decide, fun kr H14 kr0 kr1 t14 => ?_⟩
    obtain ⟨r, hr⟩ : ∃ r : Nat, 1 + kr = (r : Int) := ⟨(1 + kr).toNat, by omega⟩
    have eB14 := t14.but _ _ nBp eB13
    have eC14 := t14.but _ _ nCp eC
    have eR14 := t14.but _ _ nRp eR13
    have eW14 := t14.but _ _ nWp eW13
    have enl14 := t14.but _ _ npl enl13
    have epl14 := t14.but _ _ nppl epl13
    have dv14 := t14.dp t13.pool (exD_noL e) dv13
    have dR14 := dpAll_but (l := p.a) t13.pool.there.choose_spec t14.but _ _ (noL_rows e 1) dR13
    refine go_rI0 ?_
    rw [hr]
    walk_at "go"
    refine go_cat eB14 eW14 (sz (by rw [List.length_map, List.length_map]; omega)) fun X1 nX1 => ?_
    rw [← List.map_append]
    walk_at "go"
    have w1 := same_new (o := HO.lst ((bs ++ wordsE e).map V.str)) nX1
    refine go_cat upd_same (w1 _ _ eC14) (sz (by rw [List.length_map, List.length_map, List.length_append]; omega)) fun X2 nX2 => ?_
    rw [← List.map_append]
    walk_at "go"
    have w2 := same_new (o := HO.lst ((bs ++ wordsE e ++ cs).map V.str)) nX2
    refine go_listOfL (.of ((w1.trans w2) _ _ epl14)) fun X3 nX3 => ?_
    walk_at "go"
    have w3 := same_new (o := HO.lst (ps.map V.str)) nX3
    refine go_listOfL (.of (((w1.trans w2).trans w3) _ _ enl14)) fun X4 nX4 => ?_
    walk_at "go"
    have w4 := same_new (o := HO.lst (xs.map V.str)) nX4
    refine ⟨rfl, rfl, fun x dx hx hdx hne => ?_⟩
    have w5 := (same_new (o := HO.own x) hdx).trans (same_new (o := HO.ins A.c_Cursor dx []) (by rw [upd_ne hne.symm]; exact hx))
    have x2 := ((w3.trans w4).trans w5) _ _ (upd_same (a := X2) (o := HO.lst ((bs ++ wordsE e ++ cs).map V.str)))
    have x3 := (w4.trans w5) _ _ (upd_same (a := X3) (o := HO.lst (ps.map V.str)))
    have x4 := w5 _ _ (upd_same (a := X4) (o := HO.lst (xs.map V.str)))
    have w15 := (((w1.trans w2).trans w3).trans w4).trans w5
    refine ⟨x, dx, X2, X3, X4, bs ++ wordsE e ++ cs, ps, xs, br, rfl, upd_same, x2, .inr x3, .inr x4, fun H15 u hc hws hos hvs hse n1' n2' n3' hb hu => ⟨rfl, ?_⟩⟩
    have hx0 : H14 x = none := by
      cases z : H14 x with
      | none => rfl
      | some o => rw [(((w1.trans w2).trans w3).trans w4) _ _ z] at hx; cases hx
    have s15 := same_butF w15 hx0 hb
    subst hc
    subst hos
    subst hvs
    subst hse
    have eB15 := s15 _ _ eB14
    have eR15 := s15 _ _ eR14
    have eW15 := s15 _ _ eW14
    have dR15 := dpAll_same s15 _ _ dR14
    have dv15 := dp_same s15 _ _ dv14
    have hz : u.ws.length ≤ 100000 := by rw [hws, List.length_append, List.length_append]; omega
    have hx1 : ∀ x ∈ u.ws, x.length ≤ 1000 := fun x hx => by
      rw [hws, List.mem_append, List.mem_append] at hx
      rcases hx with (hx | hx) | hx
      · exact hbl.2 x hx
      · exact words_len hxn hpn 12 e hin x hx
      · exact hcl.2 x hx
    walk_at "go"
    refine foL (bs.map V.str) (fun i σ' H' => ∃ (r1 r2 r3 r4 : Option V), σ' = [some (.ref a), some (.ref p.a), some (.bl u.sees), some (.ref nl), some (.ref pl), some v, some (.ref R), some (.ref W), some (.ref B), some (.ref C), some (.int (r : Nat)), some (.ref u.c), r1, r2, r3, r4] ∧ Cur A.c_Cursor H' u i 0 0 ∧ H' B = some (.lst (bs.map V.str)) ∧ H' R = some (.lst ys) ∧ H' W = some (.lst ((wordsE e).map V.str)) ∧ DpAll K H' ys ((rowsE e 1).map rwE) ∧ Dp K H' v (exD e)) ⟨_, _, _, _, rfl, hu, eB15, eR15, eW15, dR15, dv15⟩ (fun i σ' H' _ h => by obtain ⟨_, _, _, _, _, _, z, _⟩ := h; exact .of z) ?_ ?_
    · rintro i v1 σ' H16 hv1 ⟨r1, r2, r3, r4, rfl, hu16, eB16, eR16, eW16, dR16, dv16⟩
      obtain ⟨wd, rfl, hwd⟩ := strs_at hv1
      obtain ⟨d16, ho16⟩ := hu16.ob
      walk_at "go"
      refine ⟨_, _, _, rfl, ho16, F_Cursor_no_take_word, ?_⟩
      walk_at "go"
      have eu : u.ws[i]? = some wd := by rw [hws, List.append_assoc, List.getElem?_append_left (List.getElem?_eq_some_iff.mp hwd).1]; exact hwd
      refine ⟨u, i, _, _, wd, rfl, hu16, hz, hx1, fun r' H17 hr' b17 hu17 => ?_, fun hn => ?_⟩
      · walk_at "go"
        have ne : ∀ {x : Addr} {ys : List V}, H16 x = some (.lst ys) → x ≠ u.c := fun h z => by rw [z, ho16] at h; cases h
        exact ⟨_, _, _, _, rfl, hu17, b17 _ _ (ne eB16) eB16, b17 _ _ (ne eR16) eR16, b17 _ _ (ne eW16) eW16, dpAll_butI ho16 b17 _ _ dR16, dp_butI ho16 b17 _ _ dv16⟩
      · rw [eu] at hn
        have hn : (if wd = wd then some V.non else none) = none := hn
        rw [if_pos rfl] at hn
        cases hn
    rintro σ' H16 ⟨r1, r2, r3, r4, rfl, hu16, eB16, eR16, eW16, dR16, dv16⟩
    rw [List.length_map] at hu16
    walk_at "go"
    have hrd := rd_words (c := u.rc) hxn hpn 12 e r bs.length 1 hin (by omega) fun k w hk => by
      show u.ws[bs.length + k]? = some w
      rw [hws, List.append_assoc, List.getElem?_append_right (by omega), Nat.add_sub_cancel_left, List.getElem?_append_left (List.getElem?_eq_some_iff.mp hk).1]
      exact hk
    obtain ⟨d16, ho16⟩ := hu16.ob
    have ne16 : ∀ {x : Addr} {ys : List V}, H16 x = some (.lst ys) → x ≠ u.c := fun h z => by rw [z, ho16] at h; cases h
    cases ho : (rowsE e 1).findIdx? (fun q => decide (1 + r ≤ q.2)) with
    | none =>
      rw [ho] at hrd
      have hrd : rdE u.rc r bs.length = .ok (e, bs.length + (wordsE e).length) := hrd
      have hno := List.findIdx?_eq_none_iff.mp ho
      refine ⟨u, bs.length, _, _, r, rfl, by omega, by omega, hu16, hz, hx1, fun e' j v' H17 hr' b17 hu17 dv' => ?_, fun e' v' H17 hr' => by rw [hrd] at hr'; cases hr'⟩
      rw [hrd] at hr'
      cases hr'
      obtain ⟨d17, ho17⟩ := hu17.ob
      have eB17 := b17 _ _ (ne16 eB16) eB16
      have eR17 := b17 _ _ (ne16 eR16) eR16
      have eW17 := b17 _ _ (ne16 eW16) eW16
      have dR17 := dpAll_butI ho16 b17 _ _ dR16
      have dv17 := dp_butI ho16 b17 _ _ dv16
      walk_at "go"
      refine go_lenL (.of eR17) ?_
      rw [ly]
      walk_at "go"
      refine foR1 (fun k σ' H' => ∃ (r4' : Option V), σ' = [some (.ref a), some (.ref p.a), some (.bl u.sees), some (.ref nl), some (.ref pl), some v, some (.ref R), some (.ref W), some (.ref B), some (.ref C), some (.int (r : Nat)), some (.ref u.c), r1, some v', r4', r4] ∧ H' = H17) (by omega) ⟨_, rfl, rfl⟩ ?_ ?_
      · rintro k σ' H' hk ⟨r4, rfl, rfl⟩
        have hk2 : k < (rowsE e 1).length := by omega
        have er := List.getElem?_eq_getElem hk2
        have hm := hno _ (List.getElem_mem hk2)
        generalize (rowsE e 1)[k] = z at er hm
        obtain ⟨w, ew, dw⟩ := dpAll_get dR17 (i := k) (d := rwE z) (by rw [List.getElem?_map, er]; rfl)
        obtain ⟨pa, px, rfl, ep, dp⟩ := dp_tup dw
        obtain ⟨z1, z2, rfl, dz1, dz2⟩ := dp2 dp
        cases dpI dz2
        have hm : ¬ (1 + r ≤ z.2) := by simpa using hm
        walk_at "go"
        refine go_ixL (.of eR17) (at_nat ew) ?_
        walk_at "go"
        walk_at "br"
        · intro h
          exact absurd h (by omega)
        · intro h
          walk_at "go"
          exact ⟨_, rfl, rfl⟩
      · rintro σ' H' ⟨r4, rfl, rfl⟩
        walk_at "go"
        refine ⟨by show 2 ≤ sizeLine; decide, fun t nt => ?_⟩
        walk_at "go"
        have st := same_new (o := HO.tup [.str "read", v]) nt
        refine ⟨_, _, rfl, eqd_of 13 (.tuple [.str "read", exD e]) _ _ ?_ ?_ (dp_same st _ _ dv') (.tup (.inl (.inl upd_same)) (.cons (.str _) (.cons (dp_same st _ _ dv17) .nil))), ?_⟩
        · have := hin.deep
          show max 0 (max (dDeep (exD e)) 0) + 1 ≤ 13
          omega
        · show (true && (true && (small (exD e) && true))) = true
          rw [exD_sm e]
          rfl
        walk_at "go"
        have ho18 := st _ _ ho17
        walk_at "go"
        refine go_lenL (.of (st _ _ eB17)) ?_
        walk_at "go"
        refine go_lenL (.of (st _ _ eW17)) ?_
        walk_at "go"
        refine ⟨_, _, rfl, ?_, ?_⟩
        · rw [List.length_map, List.length_map, Int.natCast_add]
          exact .int _
        walk_at "go"
        exact q _
    | some k0 =>
      rw [ho] at hrd
      have hrd : rdE u.rc r bs.length = .error (bs.length + k0) := hrd
      obtain ⟨hk0, hyes, hno⟩ := List.findIdx?_eq_some_iff_getElem.mp ho
      refine ⟨u, bs.length, _, _, r, rfl, by omega, by omega, hu16, hz, hx1, (fun e' j v' H17 hr' => by rw [hrd] at hr'; cases hr'), fun e' v' H17 hr' b17 dv' => ?_⟩
      rw [hrd] at hr'
      cases hr'
      have eB17 := b17 _ _ (ne16 eB16) eB16
      have eR17 := b17 _ _ (ne16 eR16) eR16
      have dR17 := dpAll_butI ho16 b17 _ _ dR16
      walk_at "go"
      refine go_lenL (.of eR17) ?_
      rw [ly]
      walk_at "go"
      refine foR1 (fun k σ' H' => ∃ (r4' : Option V), σ' = [some (.ref a), some (.ref p.a), some (.bl u.sees), some (.ref nl), some (.ref pl), some v, some (.ref R), some (.ref W), some (.ref B), some (.ref C), some (.int (r : Nat)), some (.ref u.c), r1, some v', r4', r4] ∧ H' = H17 ∧ k ≤ k0) (by omega) ⟨_, rfl, rfl, Nat.zero_le _⟩ ?_ ?_
      · rintro k σ' H' hk ⟨r4, rfl, rfl, hkk⟩
        have hk2 : k < (rowsE e 1).length := by omega
        have er := List.getElem?_eq_getElem hk2
        have hm : (1 + r ≤ ((rowsE e 1)[k]).2) ↔ k = k0 := by
          constructor
          · intro z
            rcases Nat.lt_or_ge k k0 with y | y
            · have := hno k y
              simp at this
              omega
            · omega
          · intro z
            subst z
            simpa using hyes
        generalize (rowsE e 1)[k] = z at er hm
        obtain ⟨w, ew, dw⟩ := dpAll_get dR17 (i := k) (d := rwE z) (by rw [List.getElem?_map, er]; rfl)
        obtain ⟨pa, px, rfl, ep, dp⟩ := dp_tup dw
        obtain ⟨z1, z2, rfl, dz1, dz2⟩ := dp2 dp
        cases dpI dz2
        walk_at "go"
        refine go_ixL (.of eR17) (at_nat ew) ?_
        walk_at "go"
        walk_at "br"
        · intro h
          obtain rfl := hm.mp (by omega)
          walk_at "go"
          refine go_lenL (.of eB17) ?_
          walk_at "go"
          refine ⟨by show 3 ≤ sizeLine; decide, fun t nt => ?_⟩
          walk_at "go"
          refine ⟨_, _, rfl, eqd_of 13 (.tuple [.str "refused", .int ((bs.length + k : Nat) : Int), .bool true]) _ _ (by show 0 + 1 ≤ 13; decide) rfl (dp_same (same_new nt) _ _ dv') (.tup (.inl (.inl upd_same)) (.cons (.str _) (.cons ?_ (.cons (.bl _) .nil)))), ?_⟩
          · rw [List.length_map, Int.natCast_add]
            exact .int _
          exact q _
        · intro h
          walk_at "go"
          refine ⟨_, rfl, rfl, ?_⟩
          have : k ≠ k0 := fun z => h (by have := hm.mpr z; omega)
          omega
      · rintro σ' H' ⟨r4, rfl, rfl, hkk⟩
        exact absurd hkk (by omega)
end
end K13

set_option pp.maxSteps 60
namespace K13
open PySem L2 Gx
theorem all_mk {P : Program} {w : World} {K : PySem.W.Frag} {h : Heap} {mg : Str → Option Value} {f_number_of f_Cursor___init__ f_Cursor_word p_Cursor_word f_Cursor_take_word f_Cursor_take_number f_Cursor_take_name f_read_expression f_expression_words f__law_pool f__law_draw f__law_spend f__law_few f__law_number f__law_same f__law_keys f__law_name f__law_names f__law_expression f__law_rows f__law_read f_law c_Cursor c_BadText i_BadText c_GameError : Addr} (X : K.In h) (G : h.Ns mainGlobals mg) {fa : Addr} (hfa : mg "law" = some (.ref fa))
    {oc_number_of kV_number_of dc_number_of pm_number_of cd_number_of ct_number_of : Value} {od_number_of an_number_of : Option Addr} {sl_number_of : Array (Option Value)}
    {oc_Cursor___init__ dc_Cursor___init__ pm_Cursor___init__ cd_Cursor___init__ ct_Cursor___init__ : Value} {od_Cursor___init__ an_Cursor___init__ : Option Addr} {sl_Cursor___init__ : Array (Option Value)} {kD_Cursor___init__ : Addr} 
    {oc_Cursor_word kV_Cursor_word dc_Cursor_word pm_Cursor_word cd_Cursor_word ct_Cursor_word : Value} {od_Cursor_word an_Cursor_word : Option Addr} {sl_Cursor_word : Array (Option Value)} {pv_Cursor_word : List Value}
    {oc_Cursor_take_word kV_Cursor_take_word dc_Cursor_take_word pm_Cursor_take_word cd_Cursor_take_word ct_Cursor_take_word : Value} {od_Cursor_take_word an_Cursor_take_word : Option Addr} {sl_Cursor_take_word : Array (Option Value)}
    {oc_Cursor_take_number kV_Cursor_take_number dc_Cursor_take_number pm_Cursor_take_number cd_Cursor_take_number ct_Cursor_take_number : Value} {od_Cursor_take_number an_Cursor_take_number : Option Addr} {sl_Cursor_take_number : Array (Option Value)}
    {oc_Cursor_take_name kV_Cursor_take_name dc_Cursor_take_name pm_Cursor_take_name cd_Cursor_take_name ct_Cursor_take_name : Value} {od_Cursor_take_name an_Cursor_take_name : Option Addr} {sl_Cursor_take_name : Array (Option Value)}
    {oc_read_expression dc_read_expression pm_read_expression cd_read_expression ct_read_expression : Value} {od_read_expression an_read_expression : Option Addr} {sl_read_expression : Array (Option Value)} {kD_read_expression : Addr} {kt_room : Tok}
    {oc_expression_words kV_expression_words dc_expression_words pm_expression_words cd_expression_words ct_expression_words : Value} {od_expression_words an_expression_words : Option Addr} {sl_expression_words : Array (Option Value)}
    {oc__law_pool kV__law_pool dc__law_pool pm__law_pool cd__law_pool ct__law_pool : Value} {od__law_pool an__law_pool : Option Addr} {sl__law_pool : Array (Option Value)}
    {oc__law_draw kV__law_draw dc__law_draw pm__law_draw cd__law_draw ct__law_draw : Value} {od__law_draw an__law_draw : Option Addr} {sl__law_draw : Array (Option Value)}
    {oc__law_spend kV__law_spend dc__law_spend pm__law_spend cd__law_spend ct__law_spend : Value} {od__law_spend an__law_spend : Option Addr} {sl__law_spend : Array (Option Value)}
    {oc__law_few kV__law_few dc__law_few pm__law_few cd__law_few ct__law_few : Value} {od__law_few an__law_few : Option Addr} {sl__law_few : Array (Option Value)}
    {oc__law_number kV__law_number dc__law_number pm__law_number cd__law_number ct__law_number : Value} {od__law_number an__law_number : Option Addr} {sl__law_number : Array (Option Value)}
    {oc__law_same kV__law_same dc__law_same pm__law_same cd__law_same ct__law_same : Value} {od__law_same an__law_same : Option Addr} {sl__law_same : Array (Option Value)}
    {oc__law_keys kV__law_keys dc__law_keys pm__law_keys cd__law_keys ct__law_keys : Value} {od__law_keys an__law_keys : Option Addr} {sl__law_keys : Array (Option Value)}
    {oc__law_name kV__law_name dc__law_name pm__law_name cd__law_name ct__law_name : Value} {od__law_name an__law_name : Option Addr} {sl__law_name : Array (Option Value)}
    {oc__law_names kV__law_names dc__law_names pm__law_names cd__law_names ct__law_names : Value} {od__law_names an__law_names : Option Addr} {sl__law_names : Array (Option Value)}
    {oc__law_expression kV__law_expression dc__law_expression pm__law_expression cd__law_expression ct__law_expression : Value} {od__law_expression an__law_expression : Option Addr} {sl__law_expression : Array (Option Value)}
    {oc__law_rows kV__law_rows dc__law_rows pm__law_rows cd__law_rows ct__law_rows : Value} {od__law_rows an__law_rows : Option Addr} {sl__law_rows : Array (Option Value)}
    {oc__law_read kV__law_read dc__law_read pm__law_read cd__law_read ct__law_read : Value} {od__law_read an__law_read : Option Addr} {sl__law_read : Array (Option Value)}
    {oc_law kV_law dc_law pm_law cd_law ct_law : Value} {od_law an_law : Option Addr} {sl_law : Array (Option Value)}
    {en_BadText eq_BadText : Str} {eN_BadText eG_BadText : Addr} {ebs_BadText : List Value} {esn_BadText : List Str} {esub_BadText : List Value} {eab_BadText : Bool} {ecol_BadText : Option Bool} {edd_BadText : Option Addr} {e0_BadText e1_BadText e2_BadText e3_BadText e5_BadText : Option Value}
    {xoc_BadText xdc_BadText xpm_BadText xct_BadText xcl_BadText xccl_BadText : Value} {xod_BadText xan_BadText xcld_BadText xcdd_BadText : Option Addr} {xda_BadText xcc_BadText : Addr} {xos_BadText xcs_BadText xccs_BadText : Array (Option Value)} {xvs_BadText : Array Value} {xfi_BadText : Str} {xtf_BadText : Tok} {kk_DIGITS : Tok} {kk_GREATEST : Tok} {k_SIGNS : Addr} {kn_SIGNS : Nat} {ks_SIGNS : Array (Option Value)} {kk0_SIGNS kk1_SIGNS kk2_SIGNS kk3_SIGNS kk4_SIGNS kk5_SIGNS kk6_SIGNS : Tok} {kk_DEEPEST_EXPRESSION : Tok} {e_o : Addr} {ed_o : Option Addr} {en_o : Nat} {es_o : Array (Option Value)} {e_v : Addr} {ed_v : Option Addr} {en_v : Nat} {es_v : Array (Option Value)}
    (C_Cursor : PySem.W.nsIn K mainGlobals "Cursor" = some (some (.ref c_Cursor)))
    (g_number_of : PySem.W.nsIn K mainGlobals "number_of" = some (some (.ref f_number_of)))
    (i_number_of : PySem.W.isFn K (.ref f_number_of) = true)
    (l_number_of : K.lookup f_number_of = some ⟨oc_number_of, od_number_of, .func (PySem.W.fnOf "number_of" "number_of" (defArgs s_number_of) (defBody s_number_of) (defScope s_number_of) .none kV_number_of dc_number_of pm_number_of an_number_of cd_number_of ct_number_of), sl_number_of⟩)
    (c_number_of_ : PySem.W.codeIn K cd_number_of "number_of" = true)
    (k_number_of : PySem.W.keepIn K (.ref f_number_of) = true)
    (g_Cursor___init__ : PySem.W.findIn K (.ref c_Cursor) "__init__" = some (some (.ref f_Cursor___init__)))
    (i_Cursor___init__ : PySem.W.isFn K (.ref f_Cursor___init__) = true)
    (l_Cursor___init__ : K.lookup f_Cursor___init__ = some ⟨oc_Cursor___init__, od_Cursor___init__, .func (PySem.W.fnOf "__init__" "Cursor.__init__" (defArgs s_Cursor___init__) (defBody s_Cursor___init__) (defScope s_Cursor___init__) .none (.ref kD_Cursor___init__) dc_Cursor___init__ pm_Cursor___init__ an_Cursor___init__ cd_Cursor___init__ ct_Cursor___init__), sl_Cursor___init__⟩)
    (kw_Cursor___init___options : PySem.W.nsIn K kD_Cursor___init__ "options" = some (some (.ref e_o)))
    (kw_Cursor___init___variables : PySem.W.nsIn K kD_Cursor___init__ "variables" = some (some (.ref e_v)))
    (kw_Cursor___init___sees : PySem.W.nsIn K kD_Cursor___init__ "sees" = some (some (.bool false)))
    (c_Cursor___init___ : PySem.W.codeIn K cd_Cursor___init__ "Cursor.__init__" = true)
    (k_Cursor___init__ : PySem.W.keepIn K (.ref f_Cursor___init__) = true)
    (g_Cursor_word : PySem.W.findIn K (.ref c_Cursor) "word" = some (some (.ref p_Cursor_word)))
    (pg_Cursor_word : PySem.W.specialIn K (.ref p_Cursor_word) "__get__" = some (some (.builtin "property.__get__")))
    (pt_Cursor_word : PySem.W.takesIn K (.ref p_Cursor_word) = some true)
    (pp_Cursor_word : PySem.W.recIn K p_Cursor_word "property" = some (.ref f_Cursor_word :: pv_Cursor_word))
    (i_Cursor_word : PySem.W.isFn K (.ref f_Cursor_word) = true)
    (l_Cursor_word : K.lookup f_Cursor_word = some ⟨oc_Cursor_word, od_Cursor_word, .func (PySem.W.fnOf "word" "Cursor.word" (defArgs s_Cursor_word) (defBody s_Cursor_word) (defScope s_Cursor_word) .none kV_Cursor_word dc_Cursor_word pm_Cursor_word an_Cursor_word cd_Cursor_word ct_Cursor_word), sl_Cursor_word⟩)
    (c_Cursor_word_ : PySem.W.codeIn K cd_Cursor_word "Cursor.word" = true)
    (k_Cursor_word : PySem.W.keepIn K (.ref f_Cursor_word) = true)
    (g_Cursor_take_word : PySem.W.findIn K (.ref c_Cursor) "take_word" = some (some (.ref f_Cursor_take_word)))
    (i_Cursor_take_word : PySem.W.isFn K (.ref f_Cursor_take_word) = true)
    (l_Cursor_take_word : K.lookup f_Cursor_take_word = some ⟨oc_Cursor_take_word, od_Cursor_take_word, .func (PySem.W.fnOf "take_word" "Cursor.take_word" (defArgs s_Cursor_take_word) (defBody s_Cursor_take_word) (defScope s_Cursor_take_word) .none kV_Cursor_take_word dc_Cursor_take_word pm_Cursor_take_word an_Cursor_take_word cd_Cursor_take_word ct_Cursor_take_word), sl_Cursor_take_word⟩)
    (c_Cursor_take_word_ : PySem.W.codeIn K cd_Cursor_take_word "Cursor.take_word" = true)
    (k_Cursor_take_word : PySem.W.keepIn K (.ref f_Cursor_take_word) = true)
    (g_Cursor_take_number : PySem.W.findIn K (.ref c_Cursor) "take_number" = some (some (.ref f_Cursor_take_number)))
    (i_Cursor_take_number : PySem.W.isFn K (.ref f_Cursor_take_number) = true)
    (l_Cursor_take_number : K.lookup f_Cursor_take_number = some ⟨oc_Cursor_take_number, od_Cursor_take_number, .func (PySem.W.fnOf "take_number" "Cursor.take_number" (defArgs s_Cursor_take_number) (defBody s_Cursor_take_number) (defScope s_Cursor_take_number) .none kV_Cursor_take_number dc_Cursor_take_number pm_Cursor_take_number an_Cursor_take_number cd_Cursor_take_number ct_Cursor_take_number), sl_Cursor_take_number⟩)
    (c_Cursor_take_number_ : PySem.W.codeIn K cd_Cursor_take_number "Cursor.take_number" = true)
    (k_Cursor_take_number : PySem.W.keepIn K (.ref f_Cursor_take_number) = true)
    (g_Cursor_take_name : PySem.W.findIn K (.ref c_Cursor) "take_name" = some (some (.ref f_Cursor_take_name)))
    (i_Cursor_take_name : PySem.W.isFn K (.ref f_Cursor_take_name) = true)
    (l_Cursor_take_name : K.lookup f_Cursor_take_name = some ⟨oc_Cursor_take_name, od_Cursor_take_name, .func (PySem.W.fnOf "take_name" "Cursor.take_name" (defArgs s_Cursor_take_name) (defBody s_Cursor_take_name) (defScope s_Cursor_take_name) .none kV_Cursor_take_name dc_Cursor_take_name pm_Cursor_take_name an_Cursor_take_name cd_Cursor_take_name ct_Cursor_take_name), sl_Cursor_take_name⟩)
    (c_Cursor_take_name_ : PySem.W.codeIn K cd_Cursor_take_name "Cursor.take_name" = true)
    (k_Cursor_take_name : PySem.W.keepIn K (.ref f_Cursor_take_name) = true)
    (g_read_expression : PySem.W.nsIn K mainGlobals "read_expression" = some (some (.ref f_read_expression)))
    (i_read_expression : PySem.W.isFn K (.ref f_read_expression) = true)
    (l_read_expression : K.lookup f_read_expression = some ⟨oc_read_expression, od_read_expression, .func (PySem.W.fnOf "read_expression" "read_expression" (defArgs s_read_expression) (defBody s_read_expression) (defScope s_read_expression) .none (.ref kD_read_expression) dc_read_expression pm_read_expression an_read_expression cd_read_expression ct_read_expression), sl_read_expression⟩)
    (kw_read_expression_room : PySem.W.nsIn K kD_read_expression "room" = some (some (.int 12 kt_room)))
    (c_read_expression_ : PySem.W.codeIn K cd_read_expression "read_expression" = true)
    (k_read_expression : PySem.W.keepIn K (.ref f_read_expression) = true)
    (g_expression_words : PySem.W.nsIn K mainGlobals "expression_words" = some (some (.ref f_expression_words)))
    (i_expression_words : PySem.W.isFn K (.ref f_expression_words) = true)
    (l_expression_words : K.lookup f_expression_words = some ⟨oc_expression_words, od_expression_words, .func (PySem.W.fnOf "expression_words" "expression_words" (defArgs s_expression_words) (defBody s_expression_words) (defScope s_expression_words) .none kV_expression_words dc_expression_words pm_expression_words an_expression_words cd_expression_words ct_expression_words), sl_expression_words⟩)
    (c_expression_words_ : PySem.W.codeIn K cd_expression_words "expression_words" = true)
    (k_expression_words : PySem.W.keepIn K (.ref f_expression_words) = true)
    (g__law_pool : PySem.W.nsIn K mainGlobals "_law_pool" = some (some (.ref f__law_pool)))
    (i__law_pool : PySem.W.isFn K (.ref f__law_pool) = true)
    (l__law_pool : K.lookup f__law_pool = some ⟨oc__law_pool, od__law_pool, .func (PySem.W.fnOf "_law_pool" "_law_pool" (defArgs s__law_pool) (defBody s__law_pool) (defScope s__law_pool) .none kV__law_pool dc__law_pool pm__law_pool an__law_pool cd__law_pool ct__law_pool), sl__law_pool⟩)
    (c__law_pool_ : PySem.W.codeIn K cd__law_pool "_law_pool" = true)
    (k__law_pool : PySem.W.keepIn K (.ref f__law_pool) = true)
    (g__law_draw : PySem.W.nsIn K mainGlobals "_law_draw" = some (some (.ref f__law_draw)))
    (i__law_draw : PySem.W.isFn K (.ref f__law_draw) = true)
    (l__law_draw : K.lookup f__law_draw = some ⟨oc__law_draw, od__law_draw, .func (PySem.W.fnOf "_law_draw" "_law_draw" (defArgs s__law_draw) (defBody s__law_draw) (defScope s__law_draw) .none kV__law_draw dc__law_draw pm__law_draw an__law_draw cd__law_draw ct__law_draw), sl__law_draw⟩)
    (c__law_draw_ : PySem.W.codeIn K cd__law_draw "_law_draw" = true)
    (k__law_draw : PySem.W.keepIn K (.ref f__law_draw) = true)
    (g__law_spend : PySem.W.nsIn K mainGlobals "_law_spend" = some (some (.ref f__law_spend)))
    (i__law_spend : PySem.W.isFn K (.ref f__law_spend) = true)
    (l__law_spend : K.lookup f__law_spend = some ⟨oc__law_spend, od__law_spend, .func (PySem.W.fnOf "_law_spend" "_law_spend" (defArgs s__law_spend) (defBody s__law_spend) (defScope s__law_spend) .none kV__law_spend dc__law_spend pm__law_spend an__law_spend cd__law_spend ct__law_spend), sl__law_spend⟩)
    (c__law_spend_ : PySem.W.codeIn K cd__law_spend "_law_spend" = true)
    (k__law_spend : PySem.W.keepIn K (.ref f__law_spend) = true)
    (g__law_few : PySem.W.nsIn K mainGlobals "_law_few" = some (some (.ref f__law_few)))
    (i__law_few : PySem.W.isFn K (.ref f__law_few) = true)
    (l__law_few : K.lookup f__law_few = some ⟨oc__law_few, od__law_few, .func (PySem.W.fnOf "_law_few" "_law_few" (defArgs s__law_few) (defBody s__law_few) (defScope s__law_few) .none kV__law_few dc__law_few pm__law_few an__law_few cd__law_few ct__law_few), sl__law_few⟩)
    (c__law_few_ : PySem.W.codeIn K cd__law_few "_law_few" = true)
    (k__law_few : PySem.W.keepIn K (.ref f__law_few) = true)
    (g__law_number : PySem.W.nsIn K mainGlobals "_law_number" = some (some (.ref f__law_number)))
    (i__law_number : PySem.W.isFn K (.ref f__law_number) = true)
    (l__law_number : K.lookup f__law_number = some ⟨oc__law_number, od__law_number, .func (PySem.W.fnOf "_law_number" "_law_number" (defArgs s__law_number) (defBody s__law_number) (defScope s__law_number) .none kV__law_number dc__law_number pm__law_number an__law_number cd__law_number ct__law_number), sl__law_number⟩)
    (c__law_number_ : PySem.W.codeIn K cd__law_number "_law_number" = true)
    (k__law_number : PySem.W.keepIn K (.ref f__law_number) = true)
    (g__law_same : PySem.W.nsIn K mainGlobals "_law_same" = some (some (.ref f__law_same)))
    (i__law_same : PySem.W.isFn K (.ref f__law_same) = true)
    (l__law_same : K.lookup f__law_same = some ⟨oc__law_same, od__law_same, .func (PySem.W.fnOf "_law_same" "_law_same" (defArgs s__law_same) (defBody s__law_same) (defScope s__law_same) .none kV__law_same dc__law_same pm__law_same an__law_same cd__law_same ct__law_same), sl__law_same⟩)
    (c__law_same_ : PySem.W.codeIn K cd__law_same "_law_same" = true)
    (k__law_same : PySem.W.keepIn K (.ref f__law_same) = true)
    (g__law_keys : PySem.W.nsIn K mainGlobals "_law_keys" = some (some (.ref f__law_keys)))
    (i__law_keys : PySem.W.isFn K (.ref f__law_keys) = true)
    (l__law_keys : K.lookup f__law_keys = some ⟨oc__law_keys, od__law_keys, .func (PySem.W.fnOf "_law_keys" "_law_keys" (defArgs s__law_keys) (defBody s__law_keys) (defScope s__law_keys) .none kV__law_keys dc__law_keys pm__law_keys an__law_keys cd__law_keys ct__law_keys), sl__law_keys⟩)
    (c__law_keys_ : PySem.W.codeIn K cd__law_keys "_law_keys" = true)
    (k__law_keys : PySem.W.keepIn K (.ref f__law_keys) = true)
    (g__law_name : PySem.W.nsIn K mainGlobals "_law_name" = some (some (.ref f__law_name)))
    (i__law_name : PySem.W.isFn K (.ref f__law_name) = true)
    (l__law_name : K.lookup f__law_name = some ⟨oc__law_name, od__law_name, .func (PySem.W.fnOf "_law_name" "_law_name" (defArgs s__law_name) (defBody s__law_name) (defScope s__law_name) .none kV__law_name dc__law_name pm__law_name an__law_name cd__law_name ct__law_name), sl__law_name⟩)
    (c__law_name_ : PySem.W.codeIn K cd__law_name "_law_name" = true)
    (k__law_name : PySem.W.keepIn K (.ref f__law_name) = true)
    (g__law_names : PySem.W.nsIn K mainGlobals "_law_names" = some (some (.ref f__law_names)))
    (i__law_names : PySem.W.isFn K (.ref f__law_names) = true)
    (l__law_names : K.lookup f__law_names = some ⟨oc__law_names, od__law_names, .func (PySem.W.fnOf "_law_names" "_law_names" (defArgs s__law_names) (defBody s__law_names) (defScope s__law_names) .none kV__law_names dc__law_names pm__law_names an__law_names cd__law_names ct__law_names), sl__law_names⟩)
    (c__law_names_ : PySem.W.codeIn K cd__law_names "_law_names" = true)
    (k__law_names : PySem.W.keepIn K (.ref f__law_names) = true)
    (g__law_expression : PySem.W.nsIn K mainGlobals "_law_expression" = some (some (.ref f__law_expression)))
    (i__law_expression : PySem.W.isFn K (.ref f__law_expression) = true)
    (l__law_expression : K.lookup f__law_expression = some ⟨oc__law_expression, od__law_expression, .func (PySem.W.fnOf "_law_expression" "_law_expression" (defArgs s__law_expression) (defBody s__law_expression) (defScope s__law_expression) .none kV__law_expression dc__law_expression pm__law_expression an__law_expression cd__law_expression ct__law_expression), sl__law_expression⟩)
    (c__law_expression_ : PySem.W.codeIn K cd__law_expression "_law_expression" = true)
    (k__law_expression : PySem.W.keepIn K (.ref f__law_expression) = true)
    (g__law_rows : PySem.W.nsIn K mainGlobals "_law_rows" = some (some (.ref f__law_rows)))
    (i__law_rows : PySem.W.isFn K (.ref f__law_rows) = true)
    (l__law_rows : K.lookup f__law_rows = some ⟨oc__law_rows, od__law_rows, .func (PySem.W.fnOf "_law_rows" "_law_rows" (defArgs s__law_rows) (defBody s__law_rows) (defScope s__law_rows) .none kV__law_rows dc__law_rows pm__law_rows an__law_rows cd__law_rows ct__law_rows), sl__law_rows⟩)
    (c__law_rows_ : PySem.W.codeIn K cd__law_rows "_law_rows" = true)
    (k__law_rows : PySem.W.keepIn K (.ref f__law_rows) = true)
    (g__law_read : PySem.W.nsIn K mainGlobals "_law_read" = some (some (.ref f__law_read)))
    (i__law_read : PySem.W.isFn K (.ref f__law_read) = true)
    (l__law_read : K.lookup f__law_read = some ⟨oc__law_read, od__law_read, .func (PySem.W.fnOf "_law_read" "_law_read" (defArgs s__law_read) (defBody s__law_read) (defScope s__law_read) .none kV__law_read dc__law_read pm__law_read an__law_read cd__law_read ct__law_read), sl__law_read⟩)
    (c__law_read_ : PySem.W.codeIn K cd__law_read "_law_read" = true)
    (k__law_read : PySem.W.keepIn K (.ref f__law_read) = true)
    (g_law : PySem.W.nsIn K mainGlobals "law" = some (some (.ref f_law)))
    (i_law : PySem.W.isFn K (.ref f_law) = true)
    (l_law : K.lookup f_law = some ⟨oc_law, od_law, .func (PySem.W.fnOf "law" "law" (defArgs s_law) (defBody s_law) (defScope s_law) .none kV_law dc_law pm_law an_law cd_law ct_law), sl_law⟩)
    (c_law_ : PySem.W.codeIn K cd_law "law" = true)
    (k_law : PySem.W.keepIn K (.ref f_law) = true)
    (pg_Cursor : PySem.W.plainGet K c_Cursor Str.empty = true)
    (hd_Cursor : PySem.W.hasDictIn K c_Cursor = true)
    (po_Cursor : PySem.W.plainOver K c_Cursor = true)
    (sa_Cursor : PySem.W.findIn K (.ref c_Cursor) "__setattr__" = some (some (.builtin "object.__setattr__")))
    (mk_Cursor : PySem.W.makesIn K c_Cursor = true)
    (kc_Cursor : PySem.W.keepIn K (.ref c_Cursor) = true)
    (na_Cursor_words : PySem.W.findIn K (.ref c_Cursor) "words" = some none)
    (na_Cursor_options : PySem.W.findIn K (.ref c_Cursor) "options" = some none)
    (na_Cursor_variables : PySem.W.findIn K (.ref c_Cursor) "variables" = some none)
    (na_Cursor_sees : PySem.W.findIn K (.ref c_Cursor) "sees" = some none)
    (na_Cursor_at : PySem.W.findIn K (.ref c_Cursor) "at" = some none)
    (na_Cursor_moves : PySem.W.findIn K (.ref c_Cursor) "moves" = some none)
    (na_Cursor_branchings : PySem.W.findIn K (.ref c_Cursor) "branchings" = some none)
    (Cx_BadText : PySem.W.nsIn K mainGlobals "BadText" = some (some (.ref c_BadText)))
    (xL_BadText : K.lookup c_BadText = some (excClassObj en_BadText eq_BadText c_BadText eN_BadText ebs_BadText [.ref eG_BadText, .type "ValueError", .type "Exception", .type "BaseException", .type "object"] true esn_BadText esub_BadText eab_BadText ecol_BadText edd_BadText e0_BadText e1_BadText e2_BadText e3_BadText e5_BadText "ValueError.__new__"))
    (xsa_BadText : PySem.W.findIn K (.ref c_BadText) "__setattr__" = some (some (.builtin "object.__setattr__")))
    (xga_BadText : PySem.W.findIn K (.ref c_BadText) "__getattribute__" = some (some (.builtin "BaseException.__getattribute__")))
    (xgg_BadText : PySem.W.findIn K (.ref c_BadText) "__getattr__" = some none)
    (xhd_BadText : PySem.W.hasDictIn K c_BadText = true)
    (xno_BadText : PySem.W.findIn K (.ref c_BadText) "at" = some none)
    (xiC_BadText : PySem.W.findIn K (.ref c_BadText) "__init__" = some (some (.ref i_BadText)))
    (xtC_BadText : PySem.W.typeIn K (.ref i_BadText) = some (.type "function"))
    (xkC_BadText : PySem.W.keepIn K (.ref c_BadText) = true)
    (xex_BadText : PySem.W.subIn K (.ref c_BadText) (.type "BaseException") = some true)
    (xty_BadText : PySem.W.typeIn K (.ref c_BadText) = some (.type "type"))
    (xop_BadText : PySem.W.nsIn K cStatics "thirdparty.any" = some none)
    (ksx_BadText : PySem.W.ks_superIn K c_BadText c_BadText "__init__" = some (some (.builtin "ValueError.__init__")))
    (xve_BadText : PySem.W.subIn K (.ref c_BadText) (.type "ValueError") = some true)
    (xmc_BadText : PySem.W.mroIn K c_BadText (.ref c_BadText) = some true)
    (xsub_BadText : PySem.W.subIn K (.ref c_BadText) (.ref c_BadText) = some true)
    (xsu_BadText : PySem.W.nsIn K mainGlobals "super" = some none)
    (rflt_BadText : (P.main.scope.names.lookup ("super" : Str)).isSome = false)
    (xl_BadText : K.lookup i_BadText = some ⟨xoc_BadText, xod_BadText, .func (PySem.W.ksFn "__init__" "BadText.__init__" (defArgs (inClass (top 3) 0)) (defBody (inClass (top 3) 0)) (defScope (inClass (top 3) 0)) .none .none xdc_BadText xpm_BadText xan_BadText (.ref xda_BadText) xct_BadText xcc_BadText), xos_BadText⟩)
    (xc_BadText : PySem.W.codeIn K (.ref xda_BadText) "BadText.__init__" = true)
    (xda__BadText : K.lookup xda_BadText = some ⟨xccl_BadText, xcdd_BadText, .fields xvs_BadText, xccs_BadText⟩)
    (rflv_BadText : xvs_BadText[2]? = some (.str xfi_BadText xtf_BadText))
    (rflf_BadText : ((P.main.file : Str) == xfi_BadText) = true)
    (xicl_BadText : PySem.W.isClsIn K c_BadText = true)
    (xha_BadText : PySem.W.findIn K (.ref c_BadText) "__class__" = some (some (.builtin "object.__class__")))
    (xhn_BadText : PySem.W.specialIn K (.builtin "object.__class__") "__get__" = some (some (.builtin "getset_descriptor.__get__")))
    (xht_BadText : PySem.W.takesIn K (.builtin "object.__class__") = some true)
    (xhm_BadText : PySem.W.mroIn K c_BadText (.type "object") = some true)
    (xcc__BadText : K.lookup xcc_BadText = some ⟨xcl_BadText, xcld_BadText, .cell (some (.ref c_BadText)), xcs_BadText⟩)
    (Cx_GameError : PySem.W.nsIn K mainGlobals "GameError" = some (some (.ref c_GameError)))
    (ki_ge : PySem.W.kitOne K (.ref c_BadText) (.ref c_GameError) = some true)
    (n_int : PySem.W.nsIn K mainGlobals "int" = some none)
    (n_len : PySem.W.nsIn K mainGlobals "len" = some none)
    (n_str : PySem.W.nsIn K mainGlobals "str" = some none)
    (n_list : PySem.W.nsIn K mainGlobals "list" = some none)
    (n_min : PySem.W.nsIn K mainGlobals "min" = some none)
    (n_isinstance : PySem.W.nsIn K mainGlobals "isinstance" = some none)
    (n_tuple : PySem.W.nsIn K mainGlobals "tuple" = some none)
    (n_range : PySem.W.nsIn K mainGlobals "range" = some none)
    (n_bool : PySem.W.nsIn K mainGlobals "bool" = some none)
    (cg_DIGITS : PySem.W.nsIn K mainGlobals "DIGITS" = some (some (.str "0123456789" kk_DIGITS)))
    (cg_GREATEST : PySem.W.nsIn K mainGlobals "GREATEST" = some (some (.int 65535 kk_GREATEST)))
    (cg_SIGNS : PySem.W.nsIn K mainGlobals "SIGNS" = some (some (.ref k_SIGNS)))
    (cl_k_SIGNS : K.lookup k_SIGNS = some ⟨.type "tuple", none, .seq #[.str "+" kk0_SIGNS, .str "-" kk1_SIGNS, .str "*" kk2_SIGNS, .str "/" kk3_SIGNS, .str "mod" kk4_SIGNS, .str "<" kk5_SIGNS, .str "=" kk6_SIGNS] kn_SIGNS, ks_SIGNS⟩)
    (cg_DEEPEST_EXPRESSION : PySem.W.nsIn K mainGlobals "DEEPEST_EXPRESSION" = some (some (.int 12 kk_DEEPEST_EXPRESSION)))
    (el_o : K.lookup e_o = some ⟨.type "tuple", ed_o, .seq #[] en_o, es_o⟩)
    (el_v : K.lookup e_v = some ⟨.type "tuple", ed_v, .seq #[] en_v, es_v⟩) :
    ∃ fd : FuncData, (∀ (s : Shared) (v : Value), BindsTo s fd ⟨[v], []⟩ [("_law_script", v)]) ∧ ∀ base : Heap, K.In base → base.Ns mainGlobals mg → FnOk P w K mg base CX0 20 fa fd ["_law_script"] (sp_law K) := by
  have e := hfa.symm.trans (PySem.W.mg_of X G g_law)
  cases e
  have F_number_of := fun_mk (st := s_number_of) l_number_of c_number_of_ k_number_of
  have F_Cursor___init__ : FunD K "__init__" "Cursor.__init__" (defArgs s_Cursor___init__) (defBody s_Cursor___init__) (defScope s_Cursor___init__) [] [("options", .ref e_o), ("variables", .ref e_v), ("sees", .bl false)] f_Cursor___init__ _ := ⟨⟨_, _, _, _, _, _, _, _, _, _, rfl, l_Cursor___init__, c_Cursor___init___, .inl ⟨rfl, rfl⟩, .inr ⟨_, rfl, fun q hq => by
    simp only [List.mem_cons, List.not_mem_nil, or_false] at hq
    rcases hq with rfl | rfl | rfl
    · exact ⟨_, kw_Cursor___init___options, rfl⟩
    · exact ⟨_, kw_Cursor___init___variables, rfl⟩
    · exact ⟨_, kw_Cursor___init___sees, rfl⟩
    ⟩⟩, k_Cursor___init__⟩
  have F_Cursor_word := fun_mk (st := s_Cursor_word) l_Cursor_word c_Cursor_word_ k_Cursor_word
  have F_Cursor_take_word := fun_mk (st := s_Cursor_take_word) l_Cursor_take_word c_Cursor_take_word_ k_Cursor_take_word
  have F_Cursor_take_number := fun_mk (st := s_Cursor_take_number) l_Cursor_take_number c_Cursor_take_number_ k_Cursor_take_number
  have F_Cursor_take_name := fun_mk (st := s_Cursor_take_name) l_Cursor_take_name c_Cursor_take_name_ k_Cursor_take_name
  have F_read_expression : FunD K "read_expression" "read_expression" (defArgs s_read_expression) (defBody s_read_expression) (defScope s_read_expression) [] [("room", .int 12)] f_read_expression _ := ⟨⟨_, _, _, _, _, _, _, _, _, _, rfl, l_read_expression, c_read_expression_, .inl ⟨rfl, rfl⟩, .inr ⟨_, rfl, fun q hq => by
    simp only [List.mem_cons, List.not_mem_nil, or_false] at hq
    rcases hq with rfl
    · exact ⟨_, kw_read_expression_room, ⟨_, rfl⟩⟩
    ⟩⟩, k_read_expression⟩
  have F_expression_words := fun_mk (st := s_expression_words) l_expression_words c_expression_words_ k_expression_words
  have F__law_pool := fun_mk (st := s__law_pool) l__law_pool c__law_pool_ k__law_pool
  have F__law_draw := fun_mk (st := s__law_draw) l__law_draw c__law_draw_ k__law_draw
  have F__law_spend := fun_mk (st := s__law_spend) l__law_spend c__law_spend_ k__law_spend
  have F__law_few := fun_mk (st := s__law_few) l__law_few c__law_few_ k__law_few
  have F__law_number := fun_mk (st := s__law_number) l__law_number c__law_number_ k__law_number
  have F__law_same := fun_mk (st := s__law_same) l__law_same c__law_same_ k__law_same
  have F__law_keys := fun_mk (st := s__law_keys) l__law_keys c__law_keys_ k__law_keys
  have F__law_name := fun_mk (st := s__law_name) l__law_name c__law_name_ k__law_name
  have F__law_names := fun_mk (st := s__law_names) l__law_names c__law_names_ k__law_names
  have F__law_expression := fun_mk (st := s__law_expression) l__law_expression c__law_expression_ k__law_expression
  have F__law_rows := fun_mk (st := s__law_rows) l__law_rows c__law_rows_ k__law_rows
  have F__law_read := fun_mk (st := s__law_read) l__law_read c__law_read_ k__law_read
  have F_law := fun_mk (st := s_law) l_law c_law_ k_law
  have T : Txt P K mg ⟨f_number_of, _, f_Cursor___init__, _, f_Cursor_word, _, p_Cursor_word, f_Cursor_take_word, _, f_Cursor_take_number, _, f_Cursor_take_name, _, f_read_expression, _, f_expression_words, _, f__law_pool, _, f__law_draw, _, f__law_spend, _, f__law_few, _, f__law_number, _, f__law_same, _, f__law_keys, _, f__law_name, _, f__law_names, _, f__law_expression, _, f__law_rows, _, f__law_read, _, f_law, _, c_Cursor, c_BadText, i_BadText, c_GameError, k_SIGNS, e_o, e_v⟩ := ⟨F_number_of,
    (F_number_of.binds (ps := ["word"]) fun _ _ _ _ _ _ us hl => match us, hl with | [_], _ => rfl),
    (PySem.W.mg_of X G g_number_of),
    F_Cursor___init__,
    (F_Cursor___init__.binds0 (ps := ["self", "words", "options", "variables", "sees"]) 2 (by simp) rfl fun _ _ _ _ _ _ us ks hu hk => match us, hu, ks, hk with | [_, _], _, [_, _, _], _ => ⟨_, _, _, _, _, _, rfl, rfl, ⟨_, _, _, _, _, _, rfl, rfl, ⟨_, _, _, _, _, _, rfl, rfl, rfl⟩⟩⟩),
    (let ⟨_, h⟩ := F_Cursor___init__.kbinds0 (ps := ["self", "words", "options", "variables", "sees"]) 2 ["options", "variables", "sees"] [] (fun vs mz zs => vs ++ (mz ++ zs)) (by simp) (by simp) (fun r1 r2 r3 => r1.append (r2.append r3)) (fun _ _ _ _ _ _ us mv ws hu hm hw => match us, hu, mv, hm, ws, hw with | [_, _], _, [], _, [_, _, _], _ => rfl); ⟨_, h⟩),
    ⟨mk_Cursor, g_Cursor___init__, i_Cursor___init__, kc_Cursor⟩,
    F_Cursor_word,
    (F_Cursor_word.binds (ps := ["self"]) fun _ _ _ _ _ _ us hl => match us, hl with | [_], _ => rfl),
    ⟨g_Cursor_word, pg_Cursor_word, pt_Cursor_word, ⟨_, pp_Cursor_word⟩⟩,
    F_Cursor_take_word,
    (F_Cursor_take_word.binds (ps := ["self", "word"]) fun _ _ _ _ _ _ us hl => match us, hl with | [_, _], _ => rfl),
    ⟨g_Cursor_take_word, i_Cursor_take_word, k_Cursor_take_word⟩,
    F_Cursor_take_number,
    (F_Cursor_take_number.binds (ps := ["self", "least", "most"]) fun _ _ _ _ _ _ us hl => match us, hl with | [_, _, _], _ => rfl),
    ⟨g_Cursor_take_number, i_Cursor_take_number, k_Cursor_take_number⟩,
    F_Cursor_take_name,
    (F_Cursor_take_name.binds (ps := ["self", "names"]) fun _ _ _ _ _ _ us hl => match us, hl with | [_, _], _ => rfl),
    ⟨g_Cursor_take_name, i_Cursor_take_name, k_Cursor_take_name⟩,
    F_read_expression,
    (F_read_expression.binds0 (ps := ["cursor", "room"]) 1 (by simp) rfl fun _ _ _ _ _ _ us ks hu hk => match us, hu, ks, hk with | [_], _, [_], _ => ⟨_, _, _, _, _, _, rfl, rfl, rfl⟩),
    (let ⟨_, h⟩ := F_read_expression.kbinds0 (ps := ["cursor", "room"]) 1 ["room"] [] (fun vs mz zs => vs ++ (mz ++ zs)) (by simp) (by simp) (fun r1 r2 r3 => r1.append (r2.append r3)) (fun _ _ _ _ _ _ us mv ws hu hm hw => match us, hu, mv, hm, ws, hw with | [_], _, [], _, [_], _ => rfl); ⟨_, h⟩),
    (PySem.W.mg_of X G g_read_expression),
    F_expression_words,
    (F_expression_words.binds (ps := ["expression"]) fun _ _ _ _ _ _ us hl => match us, hl with | [_], _ => rfl),
    (PySem.W.mg_of X G g_expression_words),
    F__law_pool,
    (F__law_pool.binds (ps := ["_law_script", "_law_budget"]) fun _ _ _ _ _ _ us hl => match us, hl with | [_, _], _ => rfl),
    (PySem.W.mg_of X G g__law_pool),
    F__law_draw,
    (F__law_draw.binds (ps := ["_law_pool_here", "_law_size"]) fun _ _ _ _ _ _ us hl => match us, hl with | [_, _], _ => rfl),
    (PySem.W.mg_of X G g__law_draw),
    F__law_spend,
    (F__law_spend.binds (ps := ["_law_pool_here"]) fun _ _ _ _ _ _ us hl => match us, hl with | [_], _ => rfl),
    (PySem.W.mg_of X G g__law_spend),
    F__law_few,
    (F__law_few.binds (ps := ["_law_pool_here", "_law_most"]) fun _ _ _ _ _ _ us hl => match us, hl with | [_, _], _ => rfl),
    (PySem.W.mg_of X G g__law_few),
    F__law_number,
    (F__law_number.binds (ps := ["_law_pool_here"]) fun _ _ _ _ _ _ us hl => match us, hl with | [_], _ => rfl),
    (PySem.W.mg_of X G g__law_number),
    F__law_same,
    (F__law_same.binds (ps := ["_law_actual", "_law_due"]) fun _ _ _ _ _ _ us hl => match us, hl with | [_, _], _ => rfl),
    (PySem.W.mg_of X G g__law_same),
    F__law_keys,
    (F__law_keys.binds (ps := []) fun _ _ _ _ _ _ us hl => match us, hl with | [], _ => rfl),
    (PySem.W.mg_of X G g__law_keys),
    F__law_name,
    (F__law_name.binds (ps := ["_law_pool_here", "_law_taken"]) fun _ _ _ _ _ _ us hl => match us, hl with | [_, _], _ => rfl),
    (PySem.W.mg_of X G g__law_name),
    F__law_names,
    (F__law_names.binds (ps := ["_law_pool_here", "_law_most"]) fun _ _ _ _ _ _ us hl => match us, hl with | [_, _], _ => rfl),
    (PySem.W.mg_of X G g__law_names),
    F__law_expression,
    (F__law_expression.binds (ps := ["_law_pool_here", "_law_names_here", "_law_picks", "_law_brain", "_law_deep"]) fun _ _ _ _ _ _ us hl => match us, hl with | [_, _, _, _, _], _ => rfl),
    (PySem.W.mg_of X G g__law_expression),
    F__law_rows,
    (F__law_rows.binds (ps := ["_law_due", "_law_level"]) fun _ _ _ _ _ _ us hl => match us, hl with | [_, _], _ => rfl),
    (PySem.W.mg_of X G g__law_rows),
    F__law_read,
    (F__law_read.binds (ps := ["_law_cursor", "_law_bound"]) fun _ _ _ _ _ _ us hl => match us, hl with | [_, _], _ => rfl),
    (PySem.W.mg_of X G g__law_read),
    F_law,
    (F_law.binds (ps := ["_law_script"]) fun _ _ _ _ _ _ us hl => match us, hl with | [_], _ => rfl),
    (PySem.W.mg_of X G g_law),
    (PySem.W.mg_of X G C_Cursor),
    ⟨pg_Cursor, hd_Cursor, po_Cursor, sa_Cursor⟩,
    na_Cursor_words,
    na_Cursor_options,
    na_Cursor_variables,
    na_Cursor_sees,
    na_Cursor_at,
    na_Cursor_moves,
    na_Cursor_branchings,
    (PySem.W.mg_of X G Cx_BadText),
    ⟨⟨_, _, _, _, _, _, _, _, _, _, _, _, _, _, _, xL_BadText, by rfl⟩, xsa_BadText, xno_BadText, xiC_BadText, xtC_BadText, xkC_BadText, xex_BadText, xty_BadText, xop_BadText, ksx_BadText, xve_BadText, xmc_BadText, (PySem.W.mg_none_of X G xsu_BadText), rflt_BadText, ⟨by decide, by decide, by decide, by decide, fun _ _ _ _ _ _ _ _ _ _ _ _ => rfl⟩, ⟨_, _, _, _, _, _, _, _, _, _, _, _, _, _, _, _, _, _, _, _, _, _, _, _, _, _, _, _, _, _, _, _, _, xl_BadText, xc_BadText, xda__BadText, rflv_BadText, rflf_BadText, xcc__BadText, _, fun _ => rfl⟩⟩,
    ⟨xga_BadText, xgg_BadText, xex_BadText, xhd_BadText⟩,
    (PySem.W.exm_ref xex_BadText xhd_BadText xty_BadText xsub_BadText),
    ⟨xicl_BadText, xga_BadText, xgg_BadText, xex_BadText, xha_BadText, xhn_BadText, xht_BadText, xhm_BadText⟩,
    (PySem.W.mg_of X G Cx_GameError),
    ki_ge,
    (PySem.W.mg_none_of X G n_int),
    (PySem.W.mg_none_of X G n_len),
    (PySem.W.mg_none_of X G n_str),
    (PySem.W.mg_none_of X G n_list),
    (PySem.W.mg_none_of X G n_min),
    (PySem.W.mg_none_of X G n_isinstance),
    (PySem.W.mg_none_of X G n_tuple),
    (PySem.W.mg_none_of X G n_range),
    (PySem.W.mg_none_of X G n_bool),
    ⟨_, PySem.W.mg_of X G cg_DIGITS⟩,
    ⟨_, PySem.W.mg_of X G cg_GREATEST⟩,
    (PySem.W.mg_of X G cg_SIGNS),
    ⟨_, cl_k_SIGNS, rfl, rfl⟩,
    (fun _ => .inr ⟨_, _, _, cl_k_SIGNS, rfl, rfl, by rw [sizeLine_eq]; show 7 ≤ _; decide, (.cons ⟨_, rfl⟩ (.cons ⟨_, rfl⟩ (.cons ⟨_, rfl⟩ (.cons ⟨_, rfl⟩ (.cons ⟨_, rfl⟩ (.cons ⟨_, rfl⟩ (.cons ⟨_, rfl⟩ .nil)))))))⟩),
    ⟨_, PySem.W.mg_of X G cg_DEEPEST_EXPRESSION⟩,
    (fun _ => .inr ⟨_, _, _, el_o, rfl, rfl, by rw [sizeLine_eq]; show 0 ≤ _; decide, .nil⟩),
    (fun _ => .inr ⟨_, _, _, el_v, rfl, rfl, by rw [sizeLine_eq]; show 0 ≤ _; decide, .nil⟩)⟩
  exact ⟨PySem.W.fnOf "law" "law" (defArgs s_law) (defBody s_law) (defScope s_law) .none kV_law dc_law pm_law an_law cd_law ct_law, fun s v => .of_eq rfl, fun base _ _ => G_law (P := P) (w := w) (base := base) T⟩
theorem walk {l : PySem.W.OpenLaw} {q : Program} {loose : List Str} {XP : (Str → Option Value) → Heap → Prop} {YP : World → Heap → Prop} {d : DefRec} {K : Params → PySem.W.Frag} (hn : l.most = some 63) (hdf : d.params.defaults = [])
    (hY : ∀ (w : World) (h : Heap), YP w h → (K w.params).In h)
    (F : ∀ (w : World) (mg : Str → Option Value) (fa : Addr) (h : Heap), (K w.params).In h → h.Ns mainGlobals mg → mg d.name = some (.ref fa) →
      ∃ fd : FuncData, (∀ (s : Shared) (u : Value), BindsTo s fd ⟨[u], []⟩ [("_law_script", u)]) ∧ ∀ base : Heap, (K w.params).In base → base.Ns mainGlobals mg → FnOk l.prog w (K w.params) mg base CX0 20 fa fd ["_law_script"] (sp_law (K w.params))) :
    PySem.W.WalkO q loose XP YP l.row.toRowW d [] (fun f vs => PySem.call f vs) :=
  L2.walk_of (n := 63) (k := 20) (x := "_law_script") (CX := fun _ => CX0) (sp := fun w => sp_law (K w.params)) hn (by decide) hdf ⟨rfl, by decide, by decide⟩ hY F (fun _ _ a ns hl _ hS => ⟨a, ns, rfl, hS, hl, fun _ => rfl⟩) fun _ _ _ _ _ z => z
end K13
open PySem PySem.W PyProof.Rows
set_option maxRecDepth 100000 in
set_option maxHeartbeats 0 in
theorem PySem.Challenge.cw_sureplay_k13_expressions_read_and_writte_holds : PySem.Challenge.rw_sureplay_k13_expressions_read_and_writte.Holds := by
  w_on; o_law; k_head; (case hw => w_witness2)
  k_fill
  refine K13.walk (l := PySem.Challenge.rw_sureplay_k13_expressions_read_and_writte) rfl rfl (fun w h Y => PySem.W.kIn_of Y) ?F
  case F =>
    intro w mg fa h KX G hmg
    refine' K13.all_mk KX G hmg ?C_Cursor ?g_number_of ?i_number_of ?l_number_of ?c_number_of_ ?k_number_of ?g_Cursor___init__ ?i_Cursor___init__ ?l_Cursor___init__ ?kw_Cursor___init___options ?kw_Cursor___init___variables ?kw_Cursor___init___sees ?c_Cursor___init___ ?k_Cursor___init__ ?g_Cursor_word ?pg_Cursor_word ?pt_Cursor_word ?pp_Cursor_word ?i_Cursor_word ?l_Cursor_word ?c_Cursor_word_ ?k_Cursor_word ?g_Cursor_take_word ?i_Cursor_take_word ?l_Cursor_take_word ?c_Cursor_take_word_ ?k_Cursor_take_word ?g_Cursor_take_number ?i_Cursor_take_number ?l_Cursor_take_number ?c_Cursor_take_number_ ?k_Cursor_take_number ?g_Cursor_take_name ?i_Cursor_take_name ?l_Cursor_take_name ?c_Cursor_take_name_ ?k_Cursor_take_name ?g_read_expression ?i_read_expression ?l_read_expression ?kw_read_expression_room ?c_read_expression_ ?k_read_expression ?g_expression_words ?i_expression_words ?l_expression_words ?c_expression_words_ ?k_expression_words ?g__law_pool ?i__law_pool ?l__law_pool ?c__law_pool_ ?k__law_pool ?g__law_draw ?i__law_draw ?l__law_draw ?c__law_draw_ ?k__law_draw ?g__law_spend ?i__law_spend ?l__law_spend ?c__law_spend_ ?k__law_spend ?g__law_few ?i__law_few ?l__law_few ?c__law_few_ ?k__law_few ?g__law_number ?i__law_number ?l__law_number ?c__law_number_ ?k__law_number ?g__law_same ?i__law_same ?l__law_same ?c__law_same_ ?k__law_same ?g__law_keys ?i__law_keys ?l__law_keys ?c__law_keys_ ?k__law_keys ?g__law_name ?i__law_name ?l__law_name ?c__law_name_ ?k__law_name ?g__law_names ?i__law_names ?l__law_names ?c__law_names_ ?k__law_names ?g__law_expression ?i__law_expression ?l__law_expression ?c__law_expression_ ?k__law_expression ?g__law_rows ?i__law_rows ?l__law_rows ?c__law_rows_ ?k__law_rows ?g__law_read ?i__law_read ?l__law_read ?c__law_read_ ?k__law_read ?g_law ?i_law ?l_law ?c_law_ ?k_law ?pg_Cursor ?hd_Cursor ?po_Cursor ?sa_Cursor ?mk_Cursor ?kc_Cursor ?na_Cursor_words ?na_Cursor_options ?na_Cursor_variables ?na_Cursor_sees ?na_Cursor_at ?na_Cursor_moves ?na_Cursor_branchings ?Cx_BadText ?xL_BadText ?xsa_BadText ?xga_BadText ?xgg_BadText ?xhd_BadText ?xno_BadText ?xiC_BadText ?xtC_BadText ?xkC_BadText ?xex_BadText ?xty_BadText ?xop_BadText ?ksx_BadText ?xve_BadText ?xmc_BadText ?xsub_BadText ?xsu_BadText ?rflt_BadText ?xl_BadText ?xc_BadText ?xda__BadText ?rflv_BadText ?rflf_BadText ?xicl_BadText ?xha_BadText ?xhn_BadText ?xht_BadText ?xhm_BadText ?xcc__BadText ?Cx_GameError ?ki_ge ?n_int ?n_len ?n_str ?n_list ?n_min ?n_isinstance ?n_tuple ?n_range ?n_bool ?cg_DIGITS ?cg_GREATEST ?cg_SIGNS ?cl_k_SIGNS ?cg_DEEPEST_EXPRESSION ?el_o ?el_v
    (case C_Cursor => k_is)
    (case g_number_of => k_is)
    (case i_number_of => k_is)
    (case l_number_of => k_is)
    (case c_number_of_ => k_is)
    (case k_number_of => k_is)
    (case g_Cursor___init__ => k_is)
    (case i_Cursor___init__ => k_is)
    (case l_Cursor___init__ => k_is)
    (case kw_Cursor___init___options => k_is)
    (case kw_Cursor___init___variables => k_is)
    (case kw_Cursor___init___sees => k_is)
    (case c_Cursor___init___ => k_is)
    (case k_Cursor___init__ => k_is)
    (case g_Cursor_word => k_is)
    (case pg_Cursor_word => k_is)
    (case pt_Cursor_word => k_is)
    (case pp_Cursor_word => k_is)
    (case i_Cursor_word => k_is)
    (case l_Cursor_word => k_is)
    (case c_Cursor_word_ => k_is)
    (case k_Cursor_word => k_is)
    (case g_Cursor_take_word => k_is)
    (case i_Cursor_take_word => k_is)
    (case l_Cursor_take_word => k_is)
    (case c_Cursor_take_word_ => k_is)
    (case k_Cursor_take_word => k_is)
    (case g_Cursor_take_number => k_is)
    (case i_Cursor_take_number => k_is)
    (case l_Cursor_take_number => k_is)
    (case c_Cursor_take_number_ => k_is)
    (case k_Cursor_take_number => k_is)
    (case g_Cursor_take_name => k_is)
    (case i_Cursor_take_name => k_is)
    (case l_Cursor_take_name => k_is)
    (case c_Cursor_take_name_ => k_is)
    (case k_Cursor_take_name => k_is)
    (case g_read_expression => k_is)
    (case i_read_expression => k_is)
    (case l_read_expression => k_is)
    (case kw_read_expression_room => k_is)
    (case c_read_expression_ => k_is)
    (case k_read_expression => k_is)
    (case g_expression_words => k_is)
    (case i_expression_words => k_is)
    (case l_expression_words => k_is)
    (case c_expression_words_ => k_is)
    (case k_expression_words => k_is)
    (case g__law_pool => k_is)
    (case i__law_pool => k_is)
    (case l__law_pool => k_is)
    (case c__law_pool_ => k_is)
    (case k__law_pool => k_is)
    (case g__law_draw => k_is)
    (case i__law_draw => k_is)
    (case l__law_draw => k_is)
    (case c__law_draw_ => k_is)
    (case k__law_draw => k_is)
    (case g__law_spend => k_is)
    (case i__law_spend => k_is)
    (case l__law_spend => k_is)
    (case c__law_spend_ => k_is)
    (case k__law_spend => k_is)
    (case g__law_few => k_is)
    (case i__law_few => k_is)
    (case l__law_few => k_is)
    (case c__law_few_ => k_is)
    (case k__law_few => k_is)
    (case g__law_number => k_is)
    (case i__law_number => k_is)
    (case l__law_number => k_is)
    (case c__law_number_ => k_is)
    (case k__law_number => k_is)
    (case g__law_same => k_is)
    (case i__law_same => k_is)
    (case l__law_same => k_is)
    (case c__law_same_ => k_is)
    (case k__law_same => k_is)
    (case g__law_keys => k_is)
    (case i__law_keys => k_is)
    (case l__law_keys => k_is)
    (case c__law_keys_ => k_is)
    (case k__law_keys => k_is)
    (case g__law_name => k_is)
    (case i__law_name => k_is)
    (case l__law_name => k_is)
    (case c__law_name_ => k_is)
    (case k__law_name => k_is)
    (case g__law_names => k_is)
    (case i__law_names => k_is)
    (case l__law_names => k_is)
    (case c__law_names_ => k_is)
    (case k__law_names => k_is)
    (case g__law_expression => k_is)
    (case i__law_expression => k_is)
    (case l__law_expression => k_is)
    (case c__law_expression_ => k_is)
    (case k__law_expression => k_is)
    (case g__law_rows => k_is)
    (case i__law_rows => k_is)
    (case l__law_rows => k_is)
    (case c__law_rows_ => k_is)
    (case k__law_rows => k_is)
    (case g__law_read => k_is)
    (case i__law_read => k_is)
    (case l__law_read => k_is)
    (case c__law_read_ => k_is)
    (case k__law_read => k_is)
    (case g_law => k_is)
    (case i_law => k_is)
    (case l_law => k_is)
    (case c_law_ => k_is)
    (case k_law => k_is)
    (case pg_Cursor => k_is)
    (case hd_Cursor => k_is)
    (case po_Cursor => k_is)
    (case sa_Cursor => k_is)
    (case mk_Cursor => k_is)
    (case kc_Cursor => k_is)
    (case na_Cursor_words => k_is)
    (case na_Cursor_options => k_is)
    (case na_Cursor_variables => k_is)
    (case na_Cursor_sees => k_is)
    (case na_Cursor_at => k_is)
    (case na_Cursor_moves => k_is)
    (case na_Cursor_branchings => k_is)
    (case Cx_BadText => k_is)
    (case xL_BadText => k_is)
    (case xsa_BadText => k_is)
    (case xga_BadText => k_is)
    (case xgg_BadText => k_is)
    (case xhd_BadText => k_is)
    (case xno_BadText => k_is)
    (case xiC_BadText => k_is)
    (case xtC_BadText => k_is)
    (case xkC_BadText => k_is)
    (case xex_BadText => k_is)
    (case xty_BadText => k_is)
    (case xop_BadText => k_is)
    (case ksx_BadText => ks_is)
    (case xve_BadText => k_is)
    (case xmc_BadText => k_is)
    (case xsub_BadText => k_is)
    (case xsu_BadText => k_is)
    (case rflt_BadText => first | rfl | decide +kernel | kernel_rfl)
    (case xl_BadText => k_is)
    (case xc_BadText => k_is)
    (case xda__BadText => k_is)
    (case rflv_BadText => first | rfl | decide +kernel | kernel_rfl)
    (case rflf_BadText => first | rfl | decide +kernel | kernel_rfl)
    (case xicl_BadText => k_is)
    (case xha_BadText => k_is)
    (case xhn_BadText => k_is)
    (case xht_BadText => k_is)
    (case xhm_BadText => k_is)
    (case xcc__BadText => k_is)
    (case Cx_GameError => k_is)
    (case ki_ge => kit_is)
    (case n_int => k_is)
    (case n_len => k_is)
    (case n_str => k_is)
    (case n_list => k_is)
    (case n_min => k_is)
    (case n_isinstance => k_is)
    (case n_tuple => k_is)
    (case n_range => k_is)
    (case n_bool => k_is)
    (case cg_DIGITS => k_is)
    (case cg_GREATEST => k_is)
    (case cg_SIGNS => k_is)
    (case cl_k_SIGNS => k_is)
    (case cg_DEEPEST_EXPRESSION => k_is)
    (case el_o => k_is)
    (case el_v => k_is)
#print axioms PySem.Challenge.cw_sureplay_k13_expressions_read_and_writte_holds
