import PyProof.Rows.All
import Wide.All
import OpenK.AllK
import Wide.FinOn
import HandS.Iter
import HandS.Style
import HandS.DeepEq
import HandS.TupMul
import HandS.Strs
import HandS.RaiseMore
import HandS.Star
import KE.KExcSuper
import KE.KSuper
import HandS.Exc
import HandS.ExcField
import HandS.ExcIs
import HandS.ExcInit
import HandS.ExcSuper
import HandS.TryMany
import HandS.CallSlots
import HandS.WordsExc
import KE.KExcIs
import HandS.ExcOwn
import KE.GoesComp
import HandS.Property
import HandS.ForMost
import HandS.Wide
import HandS.IsInst
import HandS.TupAny
import HandS.Evl
import HandS.Codes
import HandS.Gcd
import HandS.OwnEq
import HandS.Defaults
import PySem.Challenge.RW_sureplay_k79_programs_as_whole_numbers
set_option Elab.async false
set_option linter.all false
set_option maxRecDepth 100000
set_option maxHeartbeats 4000000
set_option Elab.async false
set_option linter.all false
set_option maxRecDepth 100000
/-! Own lemmas: stepping through readings (go_), tests, heaps. No program in sight. -/
namespace Gx
open PySem PySem.Spec PyProof.Rows L2

/-! ### statements -/
section
variable {D : Ends} {σ : L2.St} {H : Hp} {t u c : TS} {te ta tb tc tl th : TE} {i : Nat} {Q : VK} {QB : Bool → Hp → Prop}
theorem go_seq (h : t { D with nx := u D } σ H) : tSeq t u D σ H := h
theorem go_cut (M : L2.St → Hp → Prop) (h : t { D with nx := M } σ H) (k : ∀ σ' H', M σ' H' → u D σ' H') : Evl.tCut t u D σ H := ⟨M, h, k⟩
theorem go_asg {g : TG} (h : te σ H fun x H1 => g x σ H1 D.nx) : tAsg te g D σ H := h
theorem go_name {v : V} {R : L2.St → Hp → Prop} (h : R (σ.set i (some v)) H) : gName i v σ H R := h
theorem go_drop (h : te σ H fun _ H1 => D.nx σ H1) : tDrop te D σ H := h
theorem go_ret (h : te σ H D.rt) : tRet te D σ H := h
theorem go_retN (h : D.rt .non H) : tRetN D σ H := h
theorem go_next (h : D.nx σ H) : tNext D σ H := h
theorem go_brk (h : D.bk σ H) : tBreak D σ H := h
theorem go_cont (h : D.ct σ H) : tCont D σ H := h
theorem go_if {tt : TT} (h : tt σ H fun b H1 => if b = true then t D σ H1 else u D σ H1) : tIfS tt t u D σ H := h
/-! ### expressions -/
theorem go_var {v : V} (e : σ[i]? = some (some v)) (h : Q v H) : tVar i σ H Q := ⟨v, e, h⟩
theorem go_c {v : V} (h : Q v H) : tC v σ H Q := h
theorem go_op {r : R2} (h : ta σ H fun x H1 => tb σ H1 fun y H2 => r x y H2 Q) : tOp r ta tb σ H Q := h
theorem go_un {r : V → Hp → VK → Prop} (h : ta σ H fun x H1 => r x H1 Q) : tUn r ta σ H Q := h
theorem go_rI0 {g : Int → Int → V} {a b : Int} (h : Q (g a b) H) : rI0 g (.int a) (.int b) H Q := ⟨a, b, rfl, rfl, h⟩
theorem go_rI {C : Int → Int → Prop} {g : Int → Int → V} {a b : Int} (hc : C a b) (h : Q (g a b) H) : rI C g (.int a) (.int b) H Q := ⟨a, b, rfl, rfl, hc, h⟩
theorem go_rU {g : Int → V} {a : Int} (h : Q (g a) H) : rU g (.int a) H Q := ⟨a, rfl, h⟩
theorem go_eqI {a b : Int} (h : Q (.bl (decide (a = b))) H) : rEq (.int a) (.int b) H Q := ⟨rfl, by simpa using h⟩
theorem go_neI {a b : Int} (h : Q (.bl (!decide (a = b))) H) : rNe (.int a) (.int b) H Q := ⟨rfl, by simpa using h⟩
theorem go_eqS {a b : Str} (h : Q (.bl (decide (a = b))) H) : rEq (.str a) (.str b) H Q := ⟨rfl, by simpa using h⟩
theorem go_neS {a b : Str} (h : Q (.bl (!decide (a = b))) H) : rNe (.str a) (.str b) H Q := ⟨rfl, by simpa using h⟩
theorem go_eqB {a b : Bool} (h : Q (.bl (decide (a = b))) H) : rEq (.bl a) (.bl b) H Q := ⟨rfl, by simpa using h⟩
theorem go_neB {a b : Bool} (h : Q (.bl (!decide (a = b))) H) : rNe (.bl a) (.bl b) H Q := ⟨rfl, by simpa using h⟩
theorem go_eqN (h : Q (.bl true) H) : rEq .non .non H Q := ⟨rfl, by simpa using h⟩
theorem ite_dt {α : Type} [DecidableEq α] {a : α} {A B : Prop} (h : A) : if decide (a = a) = true then A else B := by rw [decide_eq_true rfl]; exact h
theorem go_test (h : te σ H fun x H1 => ∃ k, x = .bl k ∧ QB k H1) : tTest te σ H QB := h
theorem go_B (h : te σ H fun x H1 => ∃ k, x = .bl k ∧ QB k H1) : tB te σ H QB := h
theorem go_bl {b : Bool} (h : QB b H) : ∃ k, V.bl b = .bl k ∧ QB k H := ⟨b, rfl, h⟩
theorem go_and {t u : TT} (h : t σ H fun b H1 => if b = true then u σ H1 QB else QB false H1) : tAnd t u σ H QB := h
theorem go_or {t u : TT} (h : t σ H fun b H1 => if b = true then QB true H1 else u σ H1 QB) : tOr t u σ H QB := h
theorem go_not {t : TT} (h : t σ H fun b H1 => QB (!b) H1) : tNot t σ H QB := h
theorem go_andV (h : ta σ H fun x H1 => ∃ c, x = .bl c ∧ if c = true then tb σ H1 Q else Q (.bl false) H1) : tAndV ta tb σ H Q := h
theorem go_orV (h : ta σ H fun x H1 => ∃ c, x = .bl c ∧ if c = true then Q (.bl true) H1 else tb σ H1 Q) : tOrV ta tb σ H Q := h
theorem go_notV (h : ta σ H fun x H1 => ∃ c, x = .bl c ∧ Q (.bl (!c)) H1) : tNotV ta σ H Q := h
theorem go_ifE {t : TT} (h : t σ H fun c H1 => if c = true then ta σ H1 Q else tb σ H1 Q) : tIf t ta tb σ H Q := h
theorem go_blA {b : Bool} {R : Bool → Prop} (h : R b) : ∃ k, V.bl b = .bl k ∧ R k := ⟨b, rfl, h⟩
theorem go_not_t {QB : Bool → Hp → Prop} (h : QB false H) : QB (!true) H := h
theorem go_not_f {QB : Bool → Hp → Prop} (h : QB true H) : QB (!false) H := h
theorem go_chain {r r' : R2} (h : ta σ H fun x H1 => tb σ H1 fun y H2 => r x y H2 fun z H3 => ∃ k, z = .bl k ∧ (if k = true then tc σ H3 fun w' H4 => r' y w' H4 Q else Q (.bl false) H3)) : tChain r r' ta tb tc σ H Q := h
/-! ### calls -/
theorem go_CB {r : List V → Hp → VK → Prop} {t : TA} (h : t σ H fun vs H1 => r vs H1 Q) : tCB r t σ H Q := h
theorem go_cons {t : TA} {R : List V → Hp → Prop} (h : ta σ H fun x H1 => t σ H1 fun xs H2 => R (x :: xs) H2) : tCons ta t σ H R := h
theorem go_nil {R : List V → Hp → Prop} (h : R [] H) : tNil σ H R := h
theorem go_call {sp : Sp} {dvs : List V} {E : XK} {t : TA} (h : t σ H fun vs H1 => sp (vs ++ dvs) H1 Q E) : tCall sp dvs E t σ H Q := h
theorem go_isi {K : PySem.W.Frag} {x c : V} {t u : Value} {b : Bool} (k : ClsV c u) (ty : TyX K H x t) (e : PySem.W.kitOne K t u = some b) (h : Q (.bl b) H) : rIsi K [x, c] H Q := ⟨x, c, t, u, b, rfl, k, ty, e, h⟩
theorem go_isiB {K : PySem.W.Frag} {x : V} {a c : String} {b : Bool} (ty : TyX K H x (.type a)) (e : kitB a c = some b) (h : Q (.bl b) H) : rIsi K [x, .ty c] H Q := ⟨x, .ty c, .type a, .type c, b, rfl, .ty c, ty, kit_ty e, h⟩
theorem go_lst {t : TA} (h : t σ H fun vs H1 => vs.length ≤ sizeLine ∧ ∀ l, H1 l = none → Q (.ref l) (upd H1 l (.lst vs))) : tLst t σ H Q := h
theorem go_tup {t : TA} (h : t σ H fun vs H1 => vs.length ≤ sizeLine ∧ ∀ l, H1 l = none → Q (.ref l) (upd H1 l (.tup vs))) : tTup t σ H Q := h
theorem go_sl {r : V → Option Int → Option Int → Hp → VK → Prop} {tlo tho : TO} (h : te σ H fun x H1 => tlo σ H1 fun lo H2 => tho σ H2 fun hi H3 => r x lo hi H3 Q) : tSl r te tlo tho σ H Q := h
theorem go_noPart {R : Option Int → Hp → Prop} (h : R none H) : tNoPart σ H R := h
theorem go_part {R : Option Int → Hp → Prop} (h : te σ H fun x H1 => ∃ i, x = .int i ∧ R (some i) H1) : tPart te σ H R := h
theorem go_partI {a : Int} {R : Int → Prop} (h : R a) : ∃ i, V.int a = .int i ∧ R i := ⟨a, rfl, h⟩
theorem go_slL {K : PySem.W.Frag} {a : Addr} {xs : List V} {lo hi : Option Int} (hs : SqL K H a xs) (h : ∀ p, H p = none → Q (.ref p) (upd H p (.lst (cutV xs lo hi)))) : rSlL K (.ref a) lo hi H Q := ⟨a, xs, rfl, hs, h⟩
theorem go_ixL {K : PySem.W.Frag} {a : Addr} {xs : List V} {k : Int} {v : V} (hs : SqL K H a xs) (e : atI xs k = some v) (h : Q v H) : rIxL K (.ref a) (.int k) H Q := ⟨a, xs, k, v, rfl, rfl, hs, e, h⟩
theorem go_ixT {K : PySem.W.Frag} {a : Addr} {xs : List V} {k : Int} {v : V} (hs : SqT K H a xs) (e : atI xs k = some v) (h : Q v H) : rIxT K (.ref a) (.int k) H Q := ⟨a, xs, k, v, rfl, rfl, hs, e, h⟩
end
/-! ### isinstance of scalars -/
theorem isi_int_int {K : PySem.W.Frag} {H : Hp} {Q : VK} {k : Int} (h : Q (.bl true) H) : rIsi K [(V.int k), .ty "int"] H Q := go_isiB (.base (.int _)) (by decide +kernel) h
theorem isi_int_bool {K : PySem.W.Frag} {H : Hp} {Q : VK} {k : Int} (h : Q (.bl false) H) : rIsi K [(V.int k), .ty "bool"] H Q := go_isiB (.base (.int _)) (by decide +kernel) h
theorem isi_int_str {K : PySem.W.Frag} {H : Hp} {Q : VK} {k : Int} (h : Q (.bl false) H) : rIsi K [(V.int k), .ty "str"] H Q := go_isiB (.base (.int _)) (by decide +kernel) h
theorem isi_int_list {K : PySem.W.Frag} {H : Hp} {Q : VK} {k : Int} (h : Q (.bl false) H) : rIsi K [(V.int k), .ty "list"] H Q := go_isiB (.base (.int _)) (by decide +kernel) h
theorem isi_int_tuple {K : PySem.W.Frag} {H : Hp} {Q : VK} {k : Int} (h : Q (.bl false) H) : rIsi K [(V.int k), .ty "tuple"] H Q := go_isiB (.base (.int _)) (by decide +kernel) h
theorem isi_bool_int {K : PySem.W.Frag} {H : Hp} {Q : VK} {k : Bool} (h : Q (.bl true) H) : rIsi K [(V.bl k), .ty "int"] H Q := go_isiB (.base (.bl _)) (by decide +kernel) h
theorem isi_bool_bool {K : PySem.W.Frag} {H : Hp} {Q : VK} {k : Bool} (h : Q (.bl true) H) : rIsi K [(V.bl k), .ty "bool"] H Q := go_isiB (.base (.bl _)) (by decide +kernel) h
theorem isi_bool_str {K : PySem.W.Frag} {H : Hp} {Q : VK} {k : Bool} (h : Q (.bl false) H) : rIsi K [(V.bl k), .ty "str"] H Q := go_isiB (.base (.bl _)) (by decide +kernel) h
theorem isi_bool_list {K : PySem.W.Frag} {H : Hp} {Q : VK} {k : Bool} (h : Q (.bl false) H) : rIsi K [(V.bl k), .ty "list"] H Q := go_isiB (.base (.bl _)) (by decide +kernel) h
theorem isi_bool_tuple {K : PySem.W.Frag} {H : Hp} {Q : VK} {k : Bool} (h : Q (.bl false) H) : rIsi K [(V.bl k), .ty "tuple"] H Q := go_isiB (.base (.bl _)) (by decide +kernel) h
theorem isi_str_int {K : PySem.W.Frag} {H : Hp} {Q : VK} {k : Str} (h : Q (.bl false) H) : rIsi K [(V.str k), .ty "int"] H Q := go_isiB (.base (.str _)) (by decide +kernel) h
theorem isi_str_bool {K : PySem.W.Frag} {H : Hp} {Q : VK} {k : Str} (h : Q (.bl false) H) : rIsi K [(V.str k), .ty "bool"] H Q := go_isiB (.base (.str _)) (by decide +kernel) h
theorem isi_str_str {K : PySem.W.Frag} {H : Hp} {Q : VK} {k : Str} (h : Q (.bl true) H) : rIsi K [(V.str k), .ty "str"] H Q := go_isiB (.base (.str _)) (by decide +kernel) h
theorem isi_str_list {K : PySem.W.Frag} {H : Hp} {Q : VK} {k : Str} (h : Q (.bl false) H) : rIsi K [(V.str k), .ty "list"] H Q := go_isiB (.base (.str _)) (by decide +kernel) h
theorem isi_str_tuple {K : PySem.W.Frag} {H : Hp} {Q : VK} {k : Str} (h : Q (.bl false) H) : rIsi K [(V.str k), .ty "tuple"] H Q := go_isiB (.base (.str _)) (by decide +kernel) h
theorem isi_NoneType_int {K : PySem.W.Frag} {H : Hp} {Q : VK} (h : Q (.bl false) H) : rIsi K [V.non, .ty "int"] H Q := go_isiB (.base .non) (by decide +kernel) h
theorem isi_NoneType_bool {K : PySem.W.Frag} {H : Hp} {Q : VK} (h : Q (.bl false) H) : rIsi K [V.non, .ty "bool"] H Q := go_isiB (.base .non) (by decide +kernel) h
theorem isi_NoneType_str {K : PySem.W.Frag} {H : Hp} {Q : VK} (h : Q (.bl false) H) : rIsi K [V.non, .ty "str"] H Q := go_isiB (.base .non) (by decide +kernel) h
theorem isi_NoneType_list {K : PySem.W.Frag} {H : Hp} {Q : VK} (h : Q (.bl false) H) : rIsi K [V.non, .ty "list"] H Q := go_isiB (.base .non) (by decide +kernel) h
theorem isi_NoneType_tuple {K : PySem.W.Frag} {H : Hp} {Q : VK} (h : Q (.bl false) H) : rIsi K [V.non, .ty "tuple"] H Q := go_isiB (.base .non) (by decide +kernel) h
theorem isi_list_int {K : PySem.W.Frag} {H : Hp} {Q : VK} {p : Addr} {xs : List V} (e : H p = some (.lst xs)) (h : Q (.bl false) H) : rIsi K [.ref p, .ty "int"] H Q := go_isiB (.base (.lst e)) (by decide +kernel) h
theorem isi_list_bool {K : PySem.W.Frag} {H : Hp} {Q : VK} {p : Addr} {xs : List V} (e : H p = some (.lst xs)) (h : Q (.bl false) H) : rIsi K [.ref p, .ty "bool"] H Q := go_isiB (.base (.lst e)) (by decide +kernel) h
theorem isi_list_str {K : PySem.W.Frag} {H : Hp} {Q : VK} {p : Addr} {xs : List V} (e : H p = some (.lst xs)) (h : Q (.bl false) H) : rIsi K [.ref p, .ty "str"] H Q := go_isiB (.base (.lst e)) (by decide +kernel) h
theorem isi_list_list {K : PySem.W.Frag} {H : Hp} {Q : VK} {p : Addr} {xs : List V} (e : H p = some (.lst xs)) (h : Q (.bl true) H) : rIsi K [.ref p, .ty "list"] H Q := go_isiB (.base (.lst e)) (by decide +kernel) h
theorem isi_list_tuple {K : PySem.W.Frag} {H : Hp} {Q : VK} {p : Addr} {xs : List V} (e : H p = some (.lst xs)) (h : Q (.bl false) H) : rIsi K [.ref p, .ty "tuple"] H Q := go_isiB (.base (.lst e)) (by decide +kernel) h
theorem isi_tuple_int {K : PySem.W.Frag} {H : Hp} {Q : VK} {p : Addr} {xs : List V} (e : H p = some (.tup xs)) (h : Q (.bl false) H) : rIsi K [.ref p, .ty "int"] H Q := go_isiB (.base (.tup e)) (by decide +kernel) h
theorem isi_tuple_bool {K : PySem.W.Frag} {H : Hp} {Q : VK} {p : Addr} {xs : List V} (e : H p = some (.tup xs)) (h : Q (.bl false) H) : rIsi K [.ref p, .ty "bool"] H Q := go_isiB (.base (.tup e)) (by decide +kernel) h
theorem isi_tuple_str {K : PySem.W.Frag} {H : Hp} {Q : VK} {p : Addr} {xs : List V} (e : H p = some (.tup xs)) (h : Q (.bl false) H) : rIsi K [.ref p, .ty "str"] H Q := go_isiB (.base (.tup e)) (by decide +kernel) h
theorem isi_tuple_list {K : PySem.W.Frag} {H : Hp} {Q : VK} {p : Addr} {xs : List V} (e : H p = some (.tup xs)) (h : Q (.bl false) H) : rIsi K [.ref p, .ty "list"] H Q := go_isiB (.base (.tup e)) (by decide +kernel) h
theorem isi_tuple_tuple {K : PySem.W.Frag} {H : Hp} {Q : VK} {p : Addr} {xs : List V} (e : H p = some (.tup xs)) (h : Q (.bl true) H) : rIsi K [.ref p, .ty "tuple"] H Q := go_isiB (.base (.tup e)) (by decide +kernel) h
section
variable {D : Ends} {σ : L2.St} {H : Hp} {t u c : TS} {te ta tb tc tl th : TE} {i : Nat} {Q : VK} {QB : Bool → Hp → Prop}
/-! ### what a test comes to -/
theorem ite_d {p : Prop} [Decidable p] {A B : Prop} (h1 : p → A) (h2 : ¬ p → B) : if decide p = true then A else B := by
  by_cases h : p
  · rw [decide_eq_true h]; exact h1 h
  · rw [decide_eq_false h]; exact h2 h
theorem ite_nd {p : Prop} [Decidable p] {A B : Prop} (h1 : ¬ p → A) (h2 : p → B) : if (!decide p) = true then A else B := by
  by_cases h : p
  · rw [decide_eq_true h]; exact h2 h
  · rw [decide_eq_false h]; exact h1 h
theorem ite_nt {A B : Prop} (h : B) : if (!true) = true then A else B := h
theorem ite_nf {A B : Prop} (h : A) : if (!false) = true then A else B := h
theorem ite_b {b : Bool} {A B : Prop} (h1 : b = true → A) (h2 : b = false → B) : if b = true then A else B := by
  cases b with
  | true => exact h1 rfl
  | false => exact h2 rfl
end
/-! ### readings by name -/
section
variable {X : Cx} {H : Hp} {Q : VK} {K : PySem.W.Frag}
def qInt1 : List V → Hp → VK → Prop := fun xs H Q => (∃ i, xs = [.int i] ∧ Q (.int i) H) ∨ ∃ k, xs = [.bl k] ∧ Q (.int (if k then 1 else 0)) H
theorem k_int1 : CallR X (.type "int") qInt1 := call_int1
theorem go_int1 {a : Int} (h : Q (.int a) H) : qInt1 [.int a] H Q := .inl ⟨a, rfl, h⟩
theorem go_intB {b : Bool} (h : Q (.int (if b then 1 else 0)) H) : qInt1 [.bl b] H Q := .inr ⟨b, rfl, h⟩
def qBool1 : List V → Hp → VK → Prop := fun xs H Q => (∃ i, xs = [.int i] ∧ Q (.bl (i != 0)) H) ∨ ∃ k, xs = [.bl k] ∧ Q (.bl k) H
theorem k_bool1 : CallR X (.type "bool") qBool1 := call_bool1
theorem go_bool1 {a : Int} (h : Q (.bl (a != 0)) H) : qBool1 [.int a] H Q := .inl ⟨a, rfl, h⟩
theorem go_boolB {b : Bool} (h : Q (.bl b) H) : qBool1 [.bl b] H Q := .inr ⟨b, rfl, h⟩
def qStrInt : List V → Hp → VK → Prop := fun xs H Q => ∃ i, xs = [.int i] ∧ i.natAbs.log2 < 1920 ∧ Q (.str (toString i)) H
theorem k_str_int : CallR X (.type "str") qStrInt := call_str_int
theorem go_str_int {a : Int} (ha : a.natAbs.log2 < 1920) (h : Q (.str (toString a)) H) : qStrInt [.int a] H Q := ⟨a, rfl, ha, h⟩
def qAbs : List V → Hp → VK → Prop := fun xs H Q => ∃ i, xs = [.int i] ∧ Q (.int (if i < 0 then -i else i)) H
theorem k_abs : CallR X (.builtin "abs") qAbs := call_abs
theorem go_abs {a : Int} (h : Q (.int (if a < 0 then -a else a)) H) : qAbs [.int a] H Q := ⟨a, rfl, h⟩
def qMax2 : List V → Hp → VK → Prop := fun xs H Q => ∃ i j, xs = [.int i, .int j] ∧ Q (.int (if j > i then j else i)) H
theorem k_max2 (hc : X.calm = true) : CallR X (.builtin "max") qMax2 := call_max2 hc
theorem go_max2 {a b : Int} (h : Q (.int (if b > a then b else a)) H) : qMax2 [.int a, .int b] H Q := ⟨a, b, rfl, h⟩
def qMin2 : List V → Hp → VK → Prop := fun xs H Q => ∃ i j, xs = [.int i, .int j] ∧ Q (.int (if j < i then j else i)) H
theorem k_min2 (hc : X.calm = true) : CallR X (.builtin "min") qMin2 := call_min2 hc
theorem go_min2 {a b : Int} (h : Q (.int (if b < a then b else a)) H) : qMin2 [.int a, .int b] H Q := ⟨a, b, rfl, h⟩
def qOrd : List V → Hp → VK → Prop := fun xs H Q => ∃ x, xs = [.str x] ∧ x.length = 1 ∧ Q (.int (x.cps.getD 0 0 : Nat)) H
theorem k_ord : CallR X (.builtin "ord") qOrd := call_ord
theorem go_ord {c : Nat} (h : Q (.int (c : Nat)) H) : qOrd [.str ⟨#[c]⟩] H Q := ⟨⟨#[c]⟩, rfl, rfl, h⟩
def qLen (K : PySem.W.Frag) : List V → Hp → VK → Prop := fun xs H Q => ∃ x n, xs = [x] ∧ LenV K x H n ∧ Q (.int n) H
theorem k_len : CallR X (.builtin "len") (qLen X.K) := call_len
theorem go_lenL {a : Addr} {xs : List V} (hs : SqL K H a xs) (h : Q (.int (xs.length : Nat)) H) : qLen K [.ref a] H Q := ⟨.ref a, xs.length, rfl, .inl ⟨xs, hs, rfl⟩, h⟩
theorem go_lenT {a : Addr} {xs : List V} (hs : SqT K H a xs) (h : Q (.int (xs.length : Nat)) H) : qLen K [.ref a] H Q := ⟨.ref a, xs.length, rfl, .inr ⟨xs, hs, rfl⟩, h⟩
theorem go_lenS {y : Str} (hz : y.length ≤ sizeLine) (h : Q (.int (y.length : Nat)) H) : qLen K [.str y] H Q := ⟨.str y, y.length, rfl, ⟨hz, rfl⟩, h⟩
def qListOf (K : PySem.W.Frag) : List V → Hp → VK → Prop := fun xs H Q => ∃ p ys, xs = [.ref p] ∧ (SqL K H p ys ∨ SqT K H p ys) ∧ ∀ l, H l = none → Q (.ref l) (upd H l (.lst ys))
theorem k_list_of : CallR X (.type "list") (qListOf X.K) := call_list_of
theorem go_listOfL {a : Addr} {xs : List V} (hs : SqL K H a xs) (h : ∀ l, H l = none → Q (.ref l) (upd H l (.lst xs))) : qListOf K [.ref a] H Q := ⟨a, xs, rfl, .inl hs, h⟩
theorem go_listOfT {a : Addr} {xs : List V} (hs : SqT K H a xs) (h : ∀ l, H l = none → Q (.ref l) (upd H l (.lst xs))) : qListOf K [.ref a] H Q := ⟨a, xs, rfl, .inr hs, h⟩
def qTupOf (K : PySem.W.Frag) : List V → Hp → VK → Prop := fun xs H Q => ∃ p ys, xs = [.ref p] ∧ ((SqL K H p ys ∧ ∀ l, H l = none → Q (.ref l) (upd H l (.tup ys))) ∨ (SqT K H p ys ∧ Q (.ref p) H))
theorem k_tuple_of : CallR X (.type "tuple") (qTupOf X.K) := call_tuple_of
theorem go_tupOfL {a : Addr} {xs : List V} (hs : SqL K H a xs) (h : ∀ l, H l = none → Q (.ref l) (upd H l (.tup xs))) : qTupOf K [.ref a] H Q := ⟨a, xs, rfl, .inl ⟨hs, h⟩⟩
theorem go_tupOfT {a : Addr} {xs : List V} (hs : SqT K H a xs) (h : Q (.ref a) H) : qTupOf K [.ref a] H Q := ⟨a, xs, rfl, .inr ⟨hs, h⟩⟩
theorem go_sum {a : Addr} {ns : List Int} (hs : SqL K H a (ns.map V.int)) (h : Q (.int ns.sum) H) : rSum K [.ref a] H Q := ⟨a, ns, rfl, hs, h⟩
theorem go_all {a : Addr} {bs : List Bool} (hs : SqL K H a (bs.map V.bl)) (h : Q (.bl (bs.all id)) H) : rAll K [.ref a] H Q := ⟨a, bs, rfl, hs, h⟩
theorem go_any {a : Addr} {bs : List Bool} (hs : SqL K H a (bs.map V.bl)) (h : Q (.bl (bs.any id)) H) : rAny K [.ref a] H Q := ⟨a, bs, rfl, hs, h⟩
def qIsN : R2 := fun x y H Q => y = .non ∧ Q (.bl (decide (x = .non))) H
theorem o_isN : OpR X (compareOp .Is) qIsN := op_isN
def qNotN : R2 := fun x y H Q => y = .non ∧ Q (.bl (!decide (x = .non))) H
theorem o_notN : OpR X (compareOp .IsNot) qNotN := op_notN
theorem go_isN0 (h : Q (.bl true) H) : qIsN .non .non H Q := ⟨rfl, by simpa using h⟩
theorem go_isNI {i : Int} (h : Q (.bl false) H) : qIsN (.int i) .non H Q := ⟨rfl, by simpa using h⟩
theorem go_isNS {i : Str} (h : Q (.bl false) H) : qIsN (.str i) .non H Q := ⟨rfl, by simpa using h⟩
theorem go_isNB {i : Bool} (h : Q (.bl false) H) : qIsN (.bl i) .non H Q := ⟨rfl, by simpa using h⟩
theorem go_isNR {i : Addr} (h : Q (.bl false) H) : qIsN (.ref i) .non H Q := ⟨rfl, by simpa using h⟩
theorem go_notN0 (h : Q (.bl false) H) : qNotN .non .non H Q := ⟨rfl, by simpa using h⟩
theorem go_notNI {i : Int} (h : Q (.bl true) H) : qNotN (.int i) .non H Q := ⟨rfl, by simpa using h⟩
theorem go_notNS {i : Str} (h : Q (.bl true) H) : qNotN (.str i) .non H Q := ⟨rfl, by simpa using h⟩
theorem go_notNB {i : Bool} (h : Q (.bl true) H) : qNotN (.bl i) .non H Q := ⟨rfl, by simpa using h⟩
theorem go_notNR {i : Addr} (h : Q (.bl true) H) : qNotN (.ref i) .non H Q := ⟨rfl, by simpa using h⟩
def qLtS : R2 := fun x y H Q => ∃ i j, x = .str i ∧ y = .str j ∧ Q (.bl (decide (i.cps.toList < j.cps.toList))) H
theorem o_lt_str : OpR X (compareOp .Lt) qLtS := op_lt_str
theorem go_ltS {a b : Str} (h : Q (.bl (decide (a.cps.toList < b.cps.toList))) H) : qLtS (.str a) (.str b) H Q := ⟨a, b, rfl, rfl, h⟩
def qLeS : R2 := fun x y H Q => ∃ i j, x = .str i ∧ y = .str j ∧ Q (.bl (!decide (j.cps.toList < i.cps.toList))) H
theorem o_le_str : OpR X (compareOp .LtE) qLeS := op_le_str
theorem go_leS {a b : Str} (h : Q (.bl (!decide (b.cps.toList < a.cps.toList))) H) : qLeS (.str a) (.str b) H Q := ⟨a, b, rfl, rfl, h⟩
def qAddS : R2 := fun x y H Q => ∃ i j, x = .str i ∧ y = .str j ∧ i.length + j.length ≤ sizeLine ∧ Q (.str (i ++ j)) H
theorem o_add_str : OpR X (binaryOp .Add) qAddS := op_add_str
theorem go_addS {a b : Str} (hz : a.length + b.length ≤ sizeLine) (h : Q (.str (a ++ b)) H) : qAddS (.str a) (.str b) H Q := ⟨a, b, rfl, rfl, hz, h⟩
theorem go_cat {l b : Addr} {xs zs : List V} (h1 : H l = some (.lst xs)) (h2 : H b = some (.lst zs)) (hz : xs.length + zs.length ≤ sizeLine) (h : ∀ p, H p = none → Q (.ref p) (upd H p (.lst (xs ++ zs)))) : rCat (.ref l) (.ref b) H Q := ⟨l, b, xs, zs, rfl, rfl, h1, h2, hz, h⟩
theorem go_slS {z : Str} {lo hi : Option Int} (hz : z.length ≤ sizeLine) (h : Q (.str (cutS z lo hi)) H) : rSlS (.str z) lo hi H Q := ⟨z, rfl, hz, h⟩
theorem go_ixS {z : Str} {i : Int} {c : Nat} (hz : z.length ≤ sizeLine) (e : atI z.cps.toList i = some c) (h : Q (.str ⟨#[c]⟩) H) : rIxS (.str z) (.int i) H Q := ⟨z, i, c, rfl, rfl, hz, e, h⟩
theorem go_append {l : Addr} {xs : List V} {y : V} (e : H l = some (.lst xs)) (hz : xs.length < sizeLine) (h : Q .non (upd H l (.lst (xs ++ [y])))) : rAppend (.ref l) [y] H Q := ⟨l, xs, y, rfl, rfl, e, hz, h⟩
theorem go_BM {T : String} {r : V → List V → Hp → VK → Prop} {to : TE} {t : TA} {σ : L2.St} (h : to σ H fun x H1 => tyV K T x H1 ∧ t σ H1 fun xs H2 => r x xs H2 Q) : tBM K T r to t σ H Q := h
theorem go_BM0 {T : String} {r : V → List V → Hp → VK → Prop} {to : TE} {σ : L2.St} (h : to σ H fun x H1 => tyV K T x H1 ∧ r x [] H1 Q) : tBM0 K T r to σ H Q := h
end
/-! ### rules within a comprehension: the written part told apart -/
section
variable {X : Cx} {K : PySem.W.Frag} {e : Expr} {ta : TE} {f : Str} {pos : Pos}
theorem pe_fldK (hK : X.K = K) (he : PE X e ta) (hb : attributeBase e f X.env (eval e X.env) = eval e X.env) : PE X (.Attribute e f pos) (tFld K ta f) := by subst hK; exact pe_fld he hb
theorem ix_listK (hK : X.K = K) : IxR X (rIxL K) := by subst hK; exact ix_list
theorem ix_tupK (hK : X.K = K) : IxR X (rIxT K) := by subst hK; exact ix_tup
theorem ix_seqK (hK : X.K = K) : IxR X (rIx K) := by subst hK; exact ix_seq
theorem sl_listK (hK : X.K = K) : SlR X (rSlL K) := by subst hK; exact sl_list
theorem k_lenK (hK : X.K = K) : CallR X (.builtin "len") (qLen K) := by subst hK; exact k_len
theorem call_isiK (hK : X.K = K) : CallR X (.builtin "isinstance") (rIsi K) := by subst hK; exact call_isi
theorem k_list_ofK (hK : X.K = K) : CallR X (.type "list") (qListOf K) := by subst hK; exact k_list_of
theorem k_tuple_ofK (hK : X.K = K) : CallR X (.type "tuple") (qTupOf K) := by subst hK; exact k_tuple_of
theorem cr_sumK (hK : X.K = K) (hc : X.calm = true) : CallR X (.builtin "sum") (rSum K) := by subst hK; exact cr_sum hc
theorem cr_allK (hK : X.K = K) (hc : X.calm = true) : CallR X (.builtin "all") (rAll K) := by subst hK; exact cr_all hc
theorem cr_anyK (hK : X.K = K) (hc : X.calm = true) : CallR X (.builtin "any") (rAny K) := by subst hK; exact cr_any hc
theorem op_in_seqK (hK : X.K = K) : OpR X (compareOp .In) (rIn K false) := by subst hK; exact op_in_seq
theorem op_notIn_seqK (hK : X.K = K) : OpR X (compareOp .NotIn) (rIn K true) := by subst hK; exact op_notIn_seq
theorem op_eqDK (hK : X.K = K) (hu : X.A.units + 64 < cLine) : OpR X (compareOp .Eq) (rEqD K) := by subst hK; exact op_eqD hu
theorem op_neDK (hK : X.K = K) (hu : X.A.units + 64 < cLine) : OpR X (compareOp .NotEq) (rNeD K) := by subst hK; exact op_neD hu
end
/-! ### heaps -/
theorem same_new {H : Hp} {p : Addr} {o : HO} (h : H p = none) : Same H (upd H p o) := fun b x e => by
  rw [upd_ne (ne_of_none e h)]
  exact e
/-- an object that H does not know may change -/
theorem same_mut {H H' : Hp} {p : Addr} {o : HO} (e : Same H H') (h : H p = none) : Same H (upd H' p o) := fun a u ha => by
  rw [upd_ne (ne_of_none ha h)]
  exact e a u ha
theorem same_sqL {K : PySem.W.Frag} {H H' : Hp} {a : Addr} {xs : List V} (e : Same H H') (h : SqL K H a xs) : SqL K H' a xs := e.seq h
theorem same_rd {H H' : Hp} {a : Addr} {u : HO} (e : Same H H') (h : Rd H a u) : Rd H' a u := by
  rcases h with h | ⟨o, h⟩
  · exact Or.inl (e a _ h)
  · exact Or.inr ⟨o, e a _ h⟩
theorem same_sqT {K : PySem.W.Frag} {H H' : Hp} {a : Addr} {xs : List V} (e : Same H H') (h : SqT K H a xs) : SqT K H' a xs := by
  rcases h with h | h
  · exact Or.inl (same_rd e h)
  · exact Or.inr h
theorem sz {n : Nat} (h : n ≤ 100000) : n ≤ sizeLine := Nat.le_trans h (by decide)
theorem szlt {n : Nat} (h : n ≤ 100000) : n < sizeLine := Nat.lt_of_le_of_lt h (by decide)
/-- the list of ints at a place in bounds -/
theorem at_nat {xs : List V} {i : Nat} {v : V} (h : xs[i]? = some v) : atI xs (i : Int) = some v := atI_nat h
theorem at_int {ns : List Int} {k : Int} (h0 : 0 ≤ k) (h : k < ns.length) : atI (ns.map V.int) k = some (.int (ns.getD k.toNat 0)) := by
  have e : k = (k.toNat : Int) := by omega
  have h2 : k.toNat < ns.length := by omega
  rw [e]
  refine at_nat ?_
  rw [List.getElem?_map, Int.toNat_natCast, List.getElem?_eq_getElem h2, List.getD_eq_getElem?_getD, List.getElem?_eq_getElem h2]
  rfl
/-! ### lists of ints: ==, slices, sums -/
theorem dp_ints {K : PySem.W.Frag} {H : Hp} : ∀ ns : List Int, DpAll K H (ns.map V.int) (ns.map PyData.int)
  | [] => .nil
  | n :: r => .cons (.int n) (dp_ints r)
theorem eqv_int (a b : Int) : PyData.eqv (.int a) (.int b) = decide (a = b) := by
  simp only [PyData.eqv]
  by_cases h : a = b
  · simp [h]
  · simp [h]
theorem eqvAll_ints : ∀ xs ys : List Int, PyData.eqvAll (xs.map PyData.int) (ys.map PyData.int) = decide (xs = ys)
  | [], [] => by simp [PyData.eqvAll]
  | [], _ :: _ => by simp [PyData.eqvAll]
  | _ :: _, [] => by simp [PyData.eqvAll]
  | x :: xs, y :: ys => by
    simp only [List.map_cons, PyData.eqvAll, eqv_int, eqvAll_ints xs ys]
    by_cases h : x = y <;> by_cases h2 : xs = ys <;> simp [h, h2]
theorem eqv_ints (xs ys : List Int) : PyData.eqv (.list (xs.map PyData.int)) (.list (ys.map PyData.int)) = decide (xs = ys) := by
  rw [PyData.eqv]
  exact eqvAll_ints xs ys
theorem depth_ints : ∀ xs : List Int, PyData.depthAll (xs.map PyData.int) = 0
  | [] => rfl
  | x :: xs => by
    rw [List.map_cons]
    unfold PyData.depthAll
    rw [depth_ints xs]
    rfl
theorem canLay_ints : ∀ xs : List Int, PyData.canLayAll0 (xs.map PyData.int) = true
  | [] => rfl
  | x :: xs => by
    rw [List.map_cons]
    simp only [PyData.canLayAll0, PyData.canLay0, canLay_ints xs, Bool.and_self]
theorem shaped_ints (xs : List Int) : SeqAt.shaped (.list (xs.map PyData.int)) = true := by
  unfold SeqAt.shaped
  have h1 : PyData.canLay0 (.list (xs.map PyData.int)) = true := by
    simp only [PyData.canLay0]
    exact canLay_ints xs
  have h2 : PyData.depth (.list (xs.map PyData.int)) ≤ 64 := by
    unfold PyData.depth
    rw [depth_ints xs]
    decide
  rw [h1, decide_eq_true h2]
  rfl
theorem go_eqInts {K : PySem.W.Frag} {H : Hp} {Q : VK} {a b : Addr} {xs ys : List Int} (h1 : SqL K H a (xs.map V.int)) (h2 : SqL K H b (ys.map V.int)) (h : Q (.bl (decide (xs = ys))) H) : rEqD K (.ref a) (.ref b) H Q :=
  ⟨_, _, .lst h1 (dp_ints xs), .lst h2 (dp_ints ys), shaped_ints xs, shaped_ints ys, by rw [eqv_ints]; exact h⟩
theorem go_neInts {K : PySem.W.Frag} {H : Hp} {Q : VK} {a b : Addr} {xs ys : List Int} (h1 : SqL K H a (xs.map V.int)) (h2 : SqL K H b (ys.map V.int)) (h : Q (.bl (!decide (xs = ys))) H) : rNeD K (.ref a) (.ref b) H Q :=
  ⟨_, _, .lst h1 (dp_ints xs), .lst h2 (dp_ints ys), shaped_ints xs, shaped_ints ys, by rw [eqv_ints]; exact h⟩
theorem cut_to (xs : List V) (k : Nat) : cutV xs none (some (k : Int)) = xs.take k := by
  unfold cutV
  rw [HT.sIx_none, HT.sIx_nat, List.drop_zero, Nat.sub_zero]
  rcases Nat.le_total k xs.length with h | h
  · rw [Nat.min_eq_left h]
  · rw [Nat.min_eq_right h, List.take_of_length_le (Nat.le_refl _), List.take_of_length_le h]
theorem cut_from (xs : List V) (k : Nat) : cutV xs (some (k : Int)) none = xs.drop k := by
  unfold cutV
  rw [HT.sIx_none, HT.sIx_nat]
  rcases Nat.le_total k xs.length with h | h
  · rw [Nat.min_eq_left h, List.take_of_length_le]
    rw [List.length_drop]
    exact Nat.le_refl _
  · rw [Nat.min_eq_right h, List.drop_of_length_le (Nat.le_refl _), List.drop_of_length_le h, List.take_nil]
theorem sum_take_succ (ws : List Int) (i : Nat) (h : i < ws.length) : (ws.take (i + 1)).sum = (ws.take i).sum + ws.getD i 0 := by
  rw [List.take_add_one, List.getElem?_eq_getElem h, List.sum_append, List.getD_eq_getElem?_getD, List.getElem?_eq_getElem h]
  simp
theorem sum_nonneg : ∀ {ws : List Int}, (∀ w ∈ ws, 0 ≤ w) → 0 ≤ ws.sum
  | [], _ => by simp
  | w :: r, h => by
    have h1 := h w (by simp)
    have h2 := sum_nonneg (ws := r) fun z hz => h z (by simp [hz])
    rw [List.sum_cons]
    omega
theorem sum_take_le {ws : List Int} (h : ∀ w ∈ ws, 0 ≤ w) (i : Nat) : (ws.take i).sum ≤ ws.sum := by
  have e := congrArg List.sum (List.take_append_drop i ws)
  rw [List.sum_append] at e
  have h2 := sum_nonneg (ws := ws.drop i) fun z hz => h z (List.mem_of_mem_drop hz)
  omega
/-- min, max as they are told -/
theorem lt_of_len {a b : Nat} (h : a < b) : (a : Int) < (b : Int) := by omega
/-! ### list comprehensions whose element changes nothing that stood -/
section
variable {K : PySem.W.Frag} {σ : L2.St} {H H1 : Hp} {Q : VK} {tl te : TE} {g : TG} {tt : TT} {vs : List Nat} {j : Nat} {wi : TI}
theorem go_iList {R : It → Hp → Prop} (h : tl σ H fun x H1 => ∃ a, x = .ref a ∧ (∃ xs, SqL K H1 a xs) ∧ R (Itl K a) H1) : iList K tl σ H R := h
theorem go_iListR {a : Addr} {xs : List V} {R : Addr → Prop} (hs : SqL K H a xs) (h : R a) : ∃ b, V.ref a = .ref b ∧ (∃ xs, SqL K H b xs) ∧ R b := ⟨a, rfl, ⟨xs, hs⟩, h⟩
theorem go_iRng1 {ta : TA} {R : It → Hp → Prop} (h : ta σ H fun vs H1 => ∃ j : Int, vs = [.int j] ∧ -(2 ^ 62) ≤ j ∧ j < 2 ^ 62 ∧ R (Itr 0 j.toNat) H1) : iRng1 ta σ H R := h
theorem go_iRng2 {ta : TA} {R : It → Hp → Prop} (h : ta σ H fun vs H1 => ∃ i j : Int, vs = [.int i, .int j] ∧ (-(2 ^ 62) ≤ i ∧ i < 2 ^ 62 ∧ -(2 ^ 62) ≤ j ∧ j < 2 ^ 62) ∧ R (Itr i (j - i).toNat) H1) : iRng2 ta σ H R := h
theorem go_rng1 {n : Int} {R : It → Hp → Prop} (hn : -(2 ^ 62) ≤ n ∧ n < 2 ^ 62) (h : R (Itr 0 n.toNat) H) : ∃ j : Int, [V.int n] = [.int j] ∧ -(2 ^ 62) ≤ j ∧ j < 2 ^ 62 ∧ R (Itr 0 j.toNat) H := ⟨n, rfl, hn.1, hn.2, h⟩
theorem go_rng2 {m n : Int} {R : It → Hp → Prop} (hm : -(2 ^ 62) ≤ m ∧ m < 2 ^ 62 ∧ -(2 ^ 62) ≤ n ∧ n < 2 ^ 62) (h : R (Itr m (n - m).toNat) H) :
    ∃ i j : Int, [V.int m, V.int n] = [.int i, .int j] ∧ (-(2 ^ 62) ≤ i ∧ i < 2 ^ 62 ∧ -(2 ^ 62) ≤ j ∧ j < 2 ^ 62) ∧ R (Itr i (j - i).toNat) H := ⟨m, n, rfl, hm, h⟩
theorem go_yes {QB : Bool → Hp → Prop} (h : QB true H) : tYes σ H QB := h
theorem go_lc (h : wi σ H fun J H1 => ∀ D, H1 D = none → ∃ W : Nat → Nat → Hp → Prop, (∃ m, W 0 m (upd H1 D (.lst []))) ∧ ∀ i m H, W i m H →
  (J.stop i H ∧ Q (.ref D) H) ∨ (J.go i H ∧ ∃ Nx : Hp → Prop, (∀ H', Nx H' → ∃ m', m' < m ∧ W (i + 1) m' H') ∧ ∀ x H', J.yld i H x H' → g x (wipe σ vs) H' fun σ2 H2 => wipe σ2 vs = wipe σ vs ∧ tt σ2 H2 fun b H3 =>
    if b = true then te σ2 H3 fun y H4 => ∃ acc, H4 D = some (.lst acc) ∧ acc.length < sizeLine ∧ Nx (upd H4 D (.lst (acc ++ [y]))) else Nx H3)) : tLc wi g tt te vs σ H Q := h
theorem go_for {D : Ends} {tb : TS} (h : wi σ H fun J H1 => ∃ W : Nat → Nat → L2.St → Hp → Prop, (∃ m, W 0 m σ H1) ∧ ∀ i m σ H, W i m σ H →
  (J.stop i H ∧ D.nx σ H) ∨ (J.go i H ∧ ∃ N : L2.St → Hp → Prop, (∀ σ' H', N σ' H' → ∃ m', m' < m ∧ W (i + 1) m' σ' H') ∧ ∀ x H', J.yld i H x H' → g x σ H' fun σ2 H2 => tb { D with nx := N, ct := N, bk := D.nx } σ2 H2)) : tFor wi g tb D σ H := h
/-- what is in the list being made: all of them so, and all else as it was -/
structure Acc (P : Nat → V → Prop) (H : Hp) (D : Addr) (i : Nat) (H' : Hp) : Prop where
  made : ∃ ys : List V, H' D = some (.lst ys) ∧ ys.length = i ∧ ∀ k y, ys[k]? = some y → P k y
  same : Same H H'
theorem acc_step {P : Nat → V → Prop} {H H' : Hp} {D : Addr} {i : Nat} {y : V} (hD : H D = none) (a : Acc P H D i H') (hy : P i y) (hi : i < 100000) : ∃ acc, H' D = some (.lst acc) ∧ acc.length < sizeLine ∧ Acc P H D (i + 1) (upd H' D (.lst (acc ++ [y]))) := by
  obtain ⟨⟨ys, e, hl, hp⟩, hs⟩ := a
  refine ⟨ys, e, szlt (by omega), ⟨ys ++ [y], upd_same, by simp [hl], fun k z hz => ?_⟩, same_mut hs hD⟩
  rcases Nat.lt_or_ge k ys.length with h | h
  · rw [List.getElem?_append_left h] at hz
    exact hp k z hz
  · rw [List.getElem?_append_right h] at hz
    rcases Nat.eq_or_lt_of_le h with e2 | e2
    · rw [← e2, Nat.sub_self] at hz
      cases hz
      rw [← e2, hl]
      exact hy
    · rw [List.getElem?_eq_none (by simp; omega)] at hz
      cases hz
theorem Acc.keep {P : Nat → V → Prop} {H H' H2 : Hp} {D : Addr} {i : Nat} (a : Acc P H D i H') (s : Same H' H2) : Acc P H D i H2 := by
  obtain ⟨⟨ys, e, hl, hp⟩, hs⟩ := a
  exact ⟨⟨ys, s _ _ e, hl, hp⟩, hs.trans s⟩
/-- [e for x in a list], behind the list's reading -/
theorem lcL {R : Addr → Hp → Prop} {a : Addr} (xs : List V) (P : Nat → V → Prop) (hs : SqL K H1 a xs) (hz : xs.length ≤ 100000) (hw : ∀ x, wipe ((wipe σ vs).set j x) vs = wipe σ vs)
    (he : ∀ (i : Nat) x H', xs[i]? = some x → Same H1 H' → ∀ R : VK, (∀ y H'', Same H' H'' → P i y → R y H'') → te ((wipe σ vs).set j (some x)) H' R)
    (q : ∀ D (ys : List V) H2, H1 D = none → Same H1 H2 → H2 D = some (.lst ys) → ys.length = xs.length → (∀ k y, ys[k]? = some y → P k y) → R D H2) :
    ∃ b, V.ref a = .ref b ∧ (∃ xs, SqL K H1 b xs) ∧ ∀ D, H1 D = none → ∃ W : Nat → Nat → Hp → Prop, (∃ m, W 0 m (upd H1 D (.lst []))) ∧ ∀ i m H, W i m H →
      ((Itl K b).stop i H ∧ R D H) ∨ ((Itl K b).go i H ∧ ∃ Nx : Hp → Prop, (∀ H', Nx H' → ∃ m', m' < m ∧ W (i + 1) m' H') ∧ ∀ x H', (Itl K b).yld i H x H' → gName j x (wipe σ vs) H' fun σ2 H2 => wipe σ2 vs = wipe σ vs ∧ tYes σ2 H2 fun b H3 =>
        if b = true then te σ2 H3 fun y H4 => ∃ acc, H4 D = some (.lst acc) ∧ acc.length < sizeLine ∧ Nx (upd H4 D (.lst (acc ++ [y]))) else Nx H3) := by
  refine ⟨a, rfl, ⟨xs, hs⟩, fun D hD => ?_⟩
  refine lc_list (xs := xs) (Acc P H1 D) ⟨⟨[], upd_same, rfl, fun k y h => by simp at h⟩, same_new hD⟩ (fun i H _ p => same_sqL p.same hs) (fun i x H hx p => ?_) fun H p => ?_
  · refine ⟨hw _, ?_⟩
    refine go_yes ?_
    refine iteT ?_
    refine he i x H hx p.same _ fun y H4 s4 hy => ?_
    have hi := (List.getElem?_eq_some_iff.mp hx).1
    exact acc_step hD (p.keep s4) hy (by omega)
  · obtain ⟨⟨ys, e, hl, hp⟩, s⟩ := p
    exact q D ys H hD s e hl hp
/-- [e for x in range(n)], behind the reading of n -/
theorem lcR1 {R : Addr → Hp → Prop} {n : Int} (P : Nat → V → Prop) (hz : n ≤ 100000) (hn : -(2 ^ 62) ≤ n) (hw : ∀ x, wipe ((wipe σ vs).set j x) vs = wipe σ vs)
    (he : ∀ (i : Nat) H', i < n.toNat → Same H1 H' → ∀ R : VK, (∀ y H'', Same H' H'' → P i y → R y H'') → te ((wipe σ vs).set j (some (.int i))) H' R)
    (q : ∀ D (ys : List V) H2, H1 D = none → Same H1 H2 → H2 D = some (.lst ys) → ys.length = n.toNat → (∀ k y, ys[k]? = some y → P k y) → R D H2) :
    ∃ k : Int, [V.int n] = [.int k] ∧ -(2 ^ 62) ≤ k ∧ k < 2 ^ 62 ∧ ∀ D, H1 D = none → ∃ W : Nat → Nat → Hp → Prop, (∃ m, W 0 m (upd H1 D (.lst []))) ∧ ∀ i m H, W i m H →
      ((Itr 0 k.toNat).stop i H ∧ R D H) ∨ ((Itr 0 k.toNat).go i H ∧ ∃ Nx : Hp → Prop, (∀ H', Nx H' → ∃ m', m' < m ∧ W (i + 1) m' H') ∧ ∀ x H', (Itr 0 k.toNat).yld i H x H' → gName j x (wipe σ vs) H' fun σ2 H2 => wipe σ2 vs = wipe σ vs ∧ tYes σ2 H2 fun b H3 =>
        if b = true then te σ2 H3 fun y H4 => ∃ acc, H4 D = some (.lst acc) ∧ acc.length < sizeLine ∧ Nx (upd H4 D (.lst (acc ++ [y]))) else Nx H3) := by
  refine ⟨n, rfl, hn, by omega, fun D hD => ?_⟩
  refine lc_range (lo := 0) (n := n.toNat) (Acc P H1 D) ⟨⟨[], upd_same, rfl, fun k y h => by simp at h⟩, same_new hD⟩ (fun i H hi p => ?_) fun H p => ?_
  · refine ⟨hw _, ?_⟩
    refine go_yes ?_
    refine iteT ?_
    rw [Int.zero_add]
    refine he i H hi p.same _ fun y H4 s4 hy => ?_
    exact acc_step hD (p.keep s4) hy (by omega)
  · obtain ⟨⟨ys, e, hl, hp⟩, s⟩ := p
    exact q D ys H hD s e hl hp
/-- for x in a list, behind the list's reading -/
theorem foL {D : Ends} {tb : TS} {a : Addr} (xs : List V) (Pv : Nat → L2.St → Hp → Prop) (h0 : Pv 0 σ H1) (hl : ∀ i σ H, i ≤ xs.length → Pv i σ H → SqL K H a xs)
    (hs : ∀ i x σ H, xs[i]? = some x → Pv i σ H → g x σ H fun σ2 H2 => tb { D with nx := Pv (i + 1), ct := Pv (i + 1), bk := D.nx } σ2 H2) (hd : ∀ σ H, Pv xs.length σ H → D.nx σ H) :
    ∃ b, V.ref a = .ref b ∧ (∃ xs, SqL K H1 b xs) ∧ ∃ W : Nat → Nat → L2.St → Hp → Prop, (∃ m, W 0 m σ H1) ∧ ∀ i m σ H, W i m σ H →
      ((Itl K b).stop i H ∧ D.nx σ H) ∨ ((Itl K b).go i H ∧ ∃ N : L2.St → Hp → Prop, (∀ σ' H', N σ' H' → ∃ m', m' < m ∧ W (i + 1) m' σ' H') ∧ ∀ x H', (Itl K b).yld i H x H' → g x σ H' fun σ2 H2 => tb { D with nx := N, ct := N, bk := D.nx } σ2 H2) :=
  ⟨a, rfl, ⟨xs, hl 0 σ H1 (Nat.zero_le _) h0⟩, for_list Pv h0 hl hs hd⟩
/-- for x in range(n), behind the reading of n -/
theorem foR1 {D : Ends} {tb : TS} {n : Int} (Pv : Nat → L2.St → Hp → Prop) (hn : -(2 ^ 62) ≤ n ∧ n < 2 ^ 62) (h0 : Pv 0 σ H1)
    (hs : ∀ (i : Nat) σ H, (i : Int) < n → Pv i σ H → g (.int i) σ H fun σ2 H2 => tb { D with nx := Pv (i + 1), ct := Pv (i + 1), bk := D.nx } σ2 H2) (hd : ∀ σ H, Pv n.toNat σ H → D.nx σ H) :
    ∃ k : Int, [V.int n] = [.int k] ∧ -(2 ^ 62) ≤ k ∧ k < 2 ^ 62 ∧ ∃ W : Nat → Nat → L2.St → Hp → Prop, (∃ m, W 0 m σ H1) ∧ ∀ i m σ H, W i m σ H →
      ((Itr 0 k.toNat).stop i H ∧ D.nx σ H) ∨ ((Itr 0 k.toNat).go i H ∧ ∃ N : L2.St → Hp → Prop, (∀ σ' H', N σ' H' → ∃ m', m' < m ∧ W (i + 1) m' σ' H') ∧ ∀ x H', (Itr 0 k.toNat).yld i H x H' → g x σ H' fun σ2 H2 => tb { D with nx := N, ct := N, bk := D.nx } σ2 H2) :=
  ⟨n, rfl, hn.1, hn.2, for_range Pv h0 (fun i σ H hi p => by rw [Int.zero_add]; exact hs i σ H (by omega) p) hd⟩
/-- while, by a measure that the invariant bears -/
theorem go_while {D : Ends} {c : TT} {tb : TS} (W : Nat → L2.St → Hp → Prop) (m : Nat) (h0 : W m σ H) (hs : ∀ m σ H, W m σ H → c σ H fun b H1 => if b = true then ∃ N : L2.St → Hp → Prop, (∀ σ' H', N σ' H' → ∃ m', m' < m ∧ W m' σ' H') ∧ tb { D with nx := N, ct := N, bk := D.nx } σ H1 else D.nx σ H1) :
    tWhile c tb D σ H := ⟨W, ⟨m, h0⟩, hs⟩
theorem go_loop {D : Ends} {tb : TS} {W : Nat → L2.St → Hp → Prop} {m : Nat} (h : tb { D with nx := fun σ' H' => ∃ m', m' < m ∧ W m' σ' H', ct := fun σ' H' => ∃ m', m' < m ∧ W m' σ' H', bk := D.nx } σ H) :
    ∃ N : L2.St → Hp → Prop, (∀ σ' H', N σ' H' → ∃ m', m' < m ∧ W m' σ' H') ∧ tb { D with nx := N, ct := N, bk := D.nx } σ H := ⟨_, fun _ _ h => h, h⟩
end
/-- all ints, each so -/
theorem ints_of {P : Int → Prop} : ∀ {ys : List V}, (∀ (k : Nat) y, ys[k]? = some y → ∃ w, y = V.int w ∧ P w) → ∃ ws : List Int, ys = ws.map V.int ∧ ∀ w ∈ ws, P w
  | [], _ => ⟨[], rfl, fun _ h => nomatch h⟩
  | y :: r, h => by
    obtain ⟨w, e, p⟩ := h 0 y rfl
    obtain ⟨ws, e2, p2⟩ := ints_of (ys := r) fun k z hz => h (k + 1) z hz
    refine ⟨w :: ws, by rw [e, e2, List.map_cons], fun z hz => ?_⟩
    rcases List.mem_cons.mp hz with rfl | hz
    · exact p
    · exact p2 z hz
end Gx

set_option Elab.async false
set_option linter.all false
set_option maxRecDepth 100000
set_option maxHeartbeats 4000000
/-! Own lemmas: a pool of numbers (a list that is changed by place), data, comprehensions that change it. -/
namespace Gx
open PySem PySem.Spec PyProof.Rows L2
section
variable {K : PySem.W.Frag} {σ : L2.St} {H H1 : Hp} {Q : VK} {tl te to ti : TE} {g : TG} {tt : TT} {vs : List Nat} {j : Nat} {wi : TI}
theorem go_sub {t : TSet} {v : V} {R : L2.St → Hp → Prop} (h : to σ H fun o H1 => ti σ H1 fun i H2 => t o i v H2 fun H3 => R σ H3) : gSub to ti t v σ H R := h
theorem go_setL {p : Addr} {xs : List V} {k : Int} {i : Nat} {v : V} {R : Hp → Prop} (e : H p = some (.lst xs)) (hi : ixN xs.length k = some i) (h : R (upd H p (.lst (xs.set i v)))) : rSetL (.ref p) (.int k) v H R :=
  ⟨p, xs, k, i, rfl, rfl, e, hi, h⟩
theorem go_setL2 {p : Addr} {xs : List V} {k : Int} {i : Nat} {v : V} {R : Hp → Prop} (hi : ixN xs.length k = some i) (h : R (upd H p (.lst (xs.set i v)))) : rSetL (.ref p) (.int k) v (upd H p (.lst xs)) R :=
  ⟨p, xs, k, i, rfl, rfl, upd_same, hi, by rw [upd_upd]; exact h⟩
theorem go_ixL2 {p : Addr} {xs : List V} {k : Int} {v : V} (e : atI xs k = some v) (h : Q v (upd H p (.lst xs))) : rIxL K (.ref p) (.int k) (upd H p (.lst xs)) Q := ⟨p, xs, k, v, rfl, rfl, .of upd_same, e, h⟩
theorem go_ixL1 {p : Addr} {xs : List V} {k : Int} {v : V} (h : H p = some (.lst xs)) (e : atI xs k = some v) (q : Q v H) : rIxL K (.ref p) (.int k) H Q := ⟨p, xs, k, v, rfl, rfl, .of h, e, q⟩
theorem go_ixT1 {p : Addr} {xs : List V} {k : Int} {v : V} (h : H p = some (.tup xs)) (e : atI xs k = some v) (q : Q v H) : rIxT K (.ref p) (.int k) H Q := ⟨p, xs, k, v, rfl, rfl, .of h, e, q⟩
end
/-- all else as it was -/
def But (a : Addr) (H H' : Hp) : Prop := ∀ b o, b ≠ a → H b = some o → H' b = some o
theorem But.refl (a : Addr) (H : Hp) : But a H H := fun _ _ _ h => h
theorem But.trans {a : Addr} {H H1 H2 : Hp} (h : But a H H1) (k : But a H1 H2) : But a H H2 := fun b o n e => k b o n (h b o n e)
theorem But.upd {a : Addr} {H H' : Hp} {o : HO} (h : But a H H') : But a H (upd H' a o) := fun b u n e => by rw [upd_ne n]; exact h b u n e
theorem But.new {a p : Addr} {H H' : Hp} {o : HO} (h : But a H H') (n : H' p = none) : But a H (L2.upd H' p o) := fun b u z e => by
  have q := h b u z e
  rw [upd_ne (ne_of_none q n)]
  exact q
theorem Same.but {a : Addr} {H H' : Hp} (s : Same H H') : But a H H' := fun b o _ e => s b o e
/-- a pool: where it stands, where its list of the script's numbers stands, these -/
structure Pl where
  a : Addr
  l : Addr
  ns : List Int
/-- the pool p stands in H; b: its budget -/
structure Pool (H : Hp) (p : Pl) (b : Int) : Prop where
  ex : ∃ (p1 p2 p3 p4 : Int), H p.a = some (.lst [.ref p.l, .int p1, .int p2, .int p3, .int p4, .int b]) ∧ 0 ≤ p1 ∧ 0 ≤ p3 ∧ p3 < 2147483647
  li : H p.l = some (.lst (p.ns.map V.int))
  ne : p.l ≠ p.a
theorem Pool.there {H : Hp} {p : Pl} {b : Int} (h : Pool H p b) : ∃ xs, H p.a = some (.lst xs) := let ⟨_, _, _, _, e, _⟩ := h.ex; ⟨_, e⟩
theorem Pool.same {H H' : Hp} {p : Pl} {b : Int} (h : Pool H p b) (s : Same H H') : Pool H' p b := by
  obtain ⟨p1, p2, p3, p4, e, k⟩ := h.ex
  exact ⟨⟨p1, p2, p3, p4, s _ _ e, k⟩, s _ _ h.li, h.ne⟩
theorem Pool.new {H : Hp} {p : Pl} {q : Addr} {b : Int} {o : HO} (h : Pool H p b) (n : H q = none) : Pool (upd H q o) p b := h.same (same_new n)
/-- another object is written -/
theorem Pool.upd {H : Hp} {p : Pl} {q : Addr} {b : Int} {o : HO} (h : Pool H p b) (n : q ≠ p.a) (n2 : q ≠ p.l) : Pool (upd H q o) p b := by
  obtain ⟨p1, p2, p3, p4, e, k⟩ := h.ex
  exact ⟨⟨p1, p2, p3, p4, by rw [upd_ne n.symm]; exact e, k⟩, by rw [upd_ne n2.symm]; exact h.li, h.ne⟩
/-- what is free behind was free before -/
theorem But.free {a p : Addr} {H H' : Hp} {o : HO} (h : But a H H') (e : H' a = some o) (n : H' p = none) : H p = none := by
  cases q : H p with
  | none => rfl
  | some u =>
    have ne : p ≠ a := fun z => by rw [z, e] at n; cases n
    rw [h p u ne q] at n
    cases n
/-- one pool's turn: the pool stands, all else is as it was -/
structure Turn (p : Pl) (b : Int) (H H' : Hp) : Prop where
  pool : Pool H' p b
  but : But p.a H H'
theorem Turn.refl {p : Pl} {b : Int} {H : Hp} (h : Pool H p b) : Turn p b H H := ⟨h, .refl p.a H⟩
theorem Turn.trans {p : Pl} {b b' : Int} {H H1 H2 : Hp} (h : Turn p b H H1) (k : Turn p b' H1 H2) : Turn p b' H H2 := ⟨k.pool, h.but.trans k.but⟩
theorem Turn.new {p : Pl} {q : Addr} {b : Int} {H H1 : Hp} {o : HO} (h : Turn p b H H1) (n : H1 q = none) : Turn p b H (upd H1 q o) := ⟨h.pool.new n, h.but.new n⟩
theorem Turn.same {p : Pl} {b : Int} {H H1 H2 : Hp} (h : Turn p b H H1) (s : Same H1 H2) : Turn p b H H2 := ⟨h.pool.same s, h.but.trans (Same.but s)⟩
theorem Turn.free {p : Pl} {q : Addr} {b : Int} {H H' : Hp} (h : Turn p b H H') (n : H' q = none) : H q = none := let ⟨_, e⟩ := h.pool.there; h.but.free e n
theorem Pool.nea {p : Pl} {q : Addr} {b : Int} {H : Hp} (h : Pool H p b) (n : H q = none) : q ≠ p.a := fun z => by
  obtain ⟨_, e⟩ := h.there
  rw [z, e] at n
  cases n
theorem Pool.nel {p : Pl} {q : Addr} {b : Int} {H : Hp} (h : Pool H p b) (n : H q = none) : q ≠ p.l := fun z => by
  rw [z, h.li] at n
  cases n
/-- a new list is written further -/
theorem Turn.mut {p : Pl} {q : Addr} {b b' : Int} {H H2 : Hp} {o : HO} (h0 : Pool H p b') (n : H q = none) (h : Turn p b H H2) : Turn p b H (upd H2 q o) :=
  ⟨h.pool.upd (h0.nea n) (h0.nel n), fun c u nc ec => by rw [upd_ne (ne_of_none ec n)]; exact h.but c u nc ec⟩

section
variable {K : PySem.W.Frag} {σ : L2.St} {H H1 : Hp} {Q : VK} {tl te : TE} {g : TG} {tt : TT} {vs : List Nat} {j : Nat} {wi : TI}
/-- [e for x in range(n)] whose element turns a pool -/
theorem lcPool {R : Addr → Hp → Prop} {n : Int} {p : Pl} {b : Int} (P : Nat → V → Prop) (hp : Pool H1 p b) (hz : n ≤ 100000) (hn : -(2 ^ 62) ≤ n) (hw : ∀ x, wipe ((wipe σ vs).set j x) vs = wipe σ vs)
    (he : ∀ (i : Nat) H', (i : Int) < n → Turn p b H1 H' → ∀ R : VK, (∀ y H'', Turn p b H' H'' → P i y → R y H'') → te ((wipe σ vs).set j (some (.int i))) H' R)
    (q : ∀ D (ys : List V) H2, H1 D = none → Turn p b H1 H2 → H2 D = some (.lst ys) → ys.length = n.toNat → (∀ k y, ys[k]? = some y → P k y) → R D H2) :
    ∃ k : Int, [V.int n] = [.int k] ∧ -(2 ^ 62) ≤ k ∧ k < 2 ^ 62 ∧ ∀ D, H1 D = none → ∃ W : Nat → Nat → Hp → Prop, (∃ m, W 0 m (upd H1 D (.lst []))) ∧ ∀ i m H, W i m H →
      ((Itr 0 k.toNat).stop i H ∧ R D H) ∨ ((Itr 0 k.toNat).go i H ∧ ∃ Nx : Hp → Prop, (∀ H', Nx H' → ∃ m', m' < m ∧ W (i + 1) m' H') ∧ ∀ x H', (Itr 0 k.toNat).yld i H x H' → gName j x (wipe σ vs) H' fun σ2 H2 => wipe σ2 vs = wipe σ vs ∧ tYes σ2 H2 fun b H3 =>
        if b = true then te σ2 H3 fun y H4 => ∃ acc, H4 D = some (.lst acc) ∧ acc.length < sizeLine ∧ Nx (upd H4 D (.lst (acc ++ [y]))) else Nx H3) := by
  refine ⟨n, rfl, hn, by omega, fun D hD => ?_⟩
  have nD : D ≠ p.a := hp.nea hD
  refine lc_range (lo := 0) (n := n.toNat) (fun i H' => (∃ ys : List V, H' D = some (.lst ys) ∧ ys.length = i ∧ ∀ k y, ys[k]? = some y → P k y) ∧ Turn p b H1 H') ⟨⟨[], upd_same, rfl, fun k y h => by simp at h⟩, (Turn.refl hp).new hD⟩ (fun i H hi p => ?_) fun H p => ?_
  · refine ⟨hw _, ?_⟩
    refine go_yes ?_
    refine iteT ?_
    rw [Int.zero_add]
    obtain ⟨⟨ys, e, hl, hP⟩, t⟩ := p
    refine he i H (by omega) t _ fun y H4 s4 hy => ?_
    have e4 := s4.but D _ nD e
    refine ⟨ys, e4, szlt (by omega), ⟨ys ++ [y], upd_same, by simp [hl], fun k z hz => ?_⟩, Turn.mut hp hD (t.trans s4)⟩
    rcases Nat.lt_or_ge k ys.length with h | h
    · rw [List.getElem?_append_left h] at hz
      exact hP k z hz
    · rw [List.getElem?_append_right h] at hz
      rcases Nat.eq_or_lt_of_le h with e2 | e2
      · rw [← e2, Nat.sub_self] at hz
        cases hz
        rw [← e2, hl]
        exact hy
      · rw [List.getElem?_eq_none (by simp; omega)] at hz
        cases hz
  · obtain ⟨⟨ys, e, hl, hP⟩, t⟩ := p
    exact q D ys H hD t e hl hP
end
/-! ### data -/
theorem tyx_list {K : PySem.W.Frag} {H : Hp} {a : Addr} {xs : List V} (h : SqL K H a xs) : TyX K H (.ref a) (.type "list") := by
  rcases h with (h | ⟨o, h⟩) | ⟨o, its, n, e, c, _⟩
  · exact .base (.lst h)
  · exact .base (.frz h)
  · exact .kList e c
theorem tyx_tup {K : PySem.W.Frag} {H : Hp} {a : Addr} {xs : List V} (h : SqT K H a xs) : TyX K H (.ref a) (.type "tuple") := by
  rcases h with (h | ⟨o, h⟩) | ⟨o, its, n, e, c, _⟩
  · exact .base (.tup h)
  · exact .fTuple h
  · exact .kTuple e c
/-- the same data, at most n deep -/
inductive Eqd (K : PySem.W.Frag) (H : Hp) : Nat → V → V → Prop where
  | non {n : Nat} : Eqd K H n .non .non
  | bl {n : Nat} (b : Bool) : Eqd K H n (.bl b) (.bl b)
  | int {n : Nat} (i : Int) : Eqd K H n (.int i) (.int i)
  | str {n : Nat} (x : Str) : Eqd K H n (.str x) (.str x)
  | lst {n : Nat} {a b : Addr} {xs ys : List V} (h1 : SqL K H a xs) (h2 : SqL K H b ys) (hl : xs.length = ys.length) (hz : xs.length ≤ 100000) (h : ∀ (i : Nat) x y, xs[i]? = some x → ys[i]? = some y → Eqd K H n x y) : Eqd K H (n + 1) (.ref a) (.ref b)
  | tup {n : Nat} {a b : Addr} {xs ys : List V} (h1 : SqT K H a xs) (h2 : SqT K H b ys) (hl : xs.length = ys.length) (hz : xs.length ≤ 100000) (h : ∀ (i : Nat) x y, xs[i]? = some x → ys[i]? = some y → Eqd K H n x y) : Eqd K H (n + 1) (.ref a) (.ref b)
section
variable {K : PySem.W.Frag} {H H1 : Hp} {Q : VK}
theorem go_isiL (c : String) {b : Bool} {a : Addr} {xs : List V} (h : SqL K H a xs) (e : kitB "list" c = some b) (q : Q (.bl b) H) : rIsi K [.ref a, .ty c] H Q := go_isiB (tyx_list h) e q
theorem go_isiT (c : String) {b : Bool} {a : Addr} {xs : List V} (h : SqT K H a xs) (e : kitB "tuple" c = some b) (q : Q (.bl b) H) : rIsi K [.ref a, .ty c] H Q := go_isiB (tyx_tup h) e q
theorem sq_list_int {a : Addr} {xs : List V} (h : SqL K H a xs) (q : Q (.bl false) H) : rIsi K [.ref a, .ty "int"] H Q := go_isiB (tyx_list h) (by decide +kernel) q
theorem sq_list_bool {a : Addr} {xs : List V} (h : SqL K H a xs) (q : Q (.bl false) H) : rIsi K [.ref a, .ty "bool"] H Q := go_isiB (tyx_list h) (by decide +kernel) q
theorem sq_list_str {a : Addr} {xs : List V} (h : SqL K H a xs) (q : Q (.bl false) H) : rIsi K [.ref a, .ty "str"] H Q := go_isiB (tyx_list h) (by decide +kernel) q
theorem sq_list_list {a : Addr} {xs : List V} (h : SqL K H a xs) (q : Q (.bl true) H) : rIsi K [.ref a, .ty "list"] H Q := go_isiB (tyx_list h) (by decide +kernel) q
theorem sq_list_tuple {a : Addr} {xs : List V} (h : SqL K H a xs) (q : Q (.bl false) H) : rIsi K [.ref a, .ty "tuple"] H Q := go_isiB (tyx_list h) (by decide +kernel) q
theorem sq_tuple_int {a : Addr} {xs : List V} (h : SqT K H a xs) (q : Q (.bl false) H) : rIsi K [.ref a, .ty "int"] H Q := go_isiB (tyx_tup h) (by decide +kernel) q
theorem sq_tuple_bool {a : Addr} {xs : List V} (h : SqT K H a xs) (q : Q (.bl false) H) : rIsi K [.ref a, .ty "bool"] H Q := go_isiB (tyx_tup h) (by decide +kernel) q
theorem sq_tuple_str {a : Addr} {xs : List V} (h : SqT K H a xs) (q : Q (.bl false) H) : rIsi K [.ref a, .ty "str"] H Q := go_isiB (tyx_tup h) (by decide +kernel) q
theorem sq_tuple_list {a : Addr} {xs : List V} (h : SqT K H a xs) (q : Q (.bl false) H) : rIsi K [.ref a, .ty "list"] H Q := go_isiB (tyx_tup h) (by decide +kernel) q
theorem sq_tuple_tuple {a : Addr} {xs : List V} (h : SqT K H a xs) (q : Q (.bl true) H) : rIsi K [.ref a, .ty "tuple"] H Q := go_isiB (tyx_tup h) (by decide +kernel) q
theorem go_ixQL {a : Addr} {xs : List V} {k : Int} {v : V} (hs : SqL K H a xs) (e : atI xs k = some v) (h : Q v H) : rIx K (.ref a) (.int k) H Q := .inl ⟨a, xs, k, v, rfl, rfl, hs, e, h⟩
theorem go_ixQT {a : Addr} {xs : List V} {k : Int} {v : V} (hs : SqT K H a xs) (e : atI xs k = some v) (h : Q v H) : rIx K (.ref a) (.int k) H Q := .inr (.inl ⟨a, xs, k, v, rfl, rfl, hs, e, h⟩)
end
/-! ### texts -/
abbrev S : List Nat → Str := SX.S
section
variable {X : Cx} {σ : L2.St} {H H1 : Hp} {Q : VK} {K : PySem.W.Frag} {o e : Expr} {to te : TE}
def qSplit : V → List V → Hp → VK → Prop := fun x xs H Q => ∃ a b, x = .str a ∧ xs = [.str b] ∧ (b.length == 0) = false ∧ a.length + 2 ≤ sizeLine ∧ rNewStrs (Txt.split a b) H Q
theorem e_split {apos pos : Pos} (ho : PE X o to) (he : PE X e te) (hs : starEach [e] X.env = [(false, eval e X.env)] := by rfl) (hbase : attributeBase o "split" X.env (eval o X.env) = eval o X.env := by rfl) (hline : (apos.endLine == pos.line) = true := by rfl) :
    PE X (.Call (.Attribute o "split" apos) [e] [] pos) (tM1 qSplit to te) := pe_split ho he hs hbase hline
theorem go_M1 {r : V → List V → Hp → VK → Prop} (h : to σ H fun x H1 => (∃ a, x = .str a) ∧ te σ H1 fun y H2 => r x [y] H2 Q) : tM1 r to te σ H Q := h
theorem go_M0 {r : V → List V → Hp → VK → Prop} (h : to σ H fun x H1 => (∃ a, x = .str a) ∧ r x [] H1 Q) : tM0 r to σ H Q := h
theorem go_isS {a : Str} {B : Prop} (h : B) : (∃ b, V.str a = .str b) ∧ B := ⟨⟨a, rfl⟩, h⟩
theorem go_split {a : List Nat} (ha : a.length ≤ 90000) {c : Nat} (hc : c < 256) (h : ∀ p, H p = none → Q (.ref p) (upd H p (.lst ((TL.spl [c] 0 [] a).map fun w => V.str (S w))))) : qSplit (.str (S a)) [.str (S [c])] H Q := by
  refine ⟨S a, S [c], rfl, rfl, rfl, by rw [SX.S_len]; exact sz (by omega), ?_⟩
  rw [SX.split_S (by simp) (by simp [hc])]
  intro p hp
  rw [List.map_map]
  exact h p hp
def qJoin (K : PySem.W.Frag) : V → List V → Hp → VK → Prop := fun x xs H Q => ∃ a p, ∃ ys : List Str, x = .str a ∧ xs = [.ref p] ∧ (SqL K H p (ys.map V.str) ∨ SqT K H p (ys.map V.str)) ∧ (ys.map (·.length)).sum + ys.length * a.length ≤ 16777216 ∧ Q (.str (Txt.join a ys)) H
theorem e_join {apos pos : Pos} (ho : PE X o to) (he : PE X e te) (hs : starEach [e] X.env = [(false, eval e X.env)] := by rfl) (hbase : attributeBase o "join" X.env (eval o X.env) = eval o X.env := by rfl) (hline : (apos.endLine == pos.line) = true := by rfl) :
    PE X (.Call (.Attribute o "join" apos) [e] [] pos) (tM1 (qJoin X.K) to te) := pe_join ho he hs hbase hline
theorem go_join {a : List Nat} {p : Addr} {ws : List (List Nat)} (hs : SqL K H p (ws.map fun w => V.str (S w))) (hz : (ws.map List.length).sum + ws.length * a.length ≤ 16777216) (h : Q (.str (S (TL.joinL a ws))) H) : qJoin K (.str (S a)) [.ref p] H Q := by
  refine ⟨S a, p, ws.map S, rfl, rfl, .inl (by rw [List.map_map]; exact hs), ?_, by rw [SX.join_S]; exact h⟩
  rw [SX.lens, List.length_map, SX.S_len]
  exact hz
/-- for c in a text -/
theorem go_iStr {R : It → Hp → Prop} (h : te σ H fun v H1 => ∃ x, v = .str x ∧ R (Its x) H1) : iStr te σ H R := h
theorem foS {D : Ends} {tb : TS} {g : TG} (cs : List Nat) (Pv : Nat → L2.St → Hp → Prop) (h0 : Pv 0 σ H1)
    (hs : ∀ i c σ H, cs[i]? = some c → Pv i σ H → g (.str (S [c])) σ H fun σ2 H2 => tb { D with nx := Pv (i + 1), ct := Pv (i + 1), bk := D.nx } σ2 H2) (hd : ∀ σ H, Pv cs.length σ H → D.nx σ H) :
    ∃ x, V.str (S cs) = .str x ∧ ∃ W : Nat → Nat → L2.St → Hp → Prop, (∃ m, W 0 m σ H1) ∧ ∀ i m σ H, W i m σ H →
      ((Its x).stop i H ∧ D.nx σ H) ∨ ((Its x).go i H ∧ ∃ N : L2.St → Hp → Prop, (∀ σ' H', N σ' H' → ∃ m', m' < m ∧ W (i + 1) m' σ' H') ∧ ∀ x2 H', (Its x).yld i H x2 H' → g x2 σ H' fun σ2 H2 => tb { D with nx := N, ct := N, bk := D.nx } σ2 H2) := by
  refine ⟨S cs, rfl, fun i m σ H => m = cs.length - i ∧ i ≤ cs.length ∧ Pv i σ H, ⟨cs.length, by simp, Nat.zero_le _, h0⟩, ?_⟩
  rintro i m σ H ⟨rfl, hi, p⟩
  have hsz : (S cs).cps.size = cs.length := by simp
  by_cases hlt : i < cs.length
  · refine .inr ⟨by show i < (S cs).cps.size; rw [hsz]; exact hlt, Pv (i + 1), fun σ' H' p' => ⟨cs.length - (i + 1), by omega, rfl, hlt, p'⟩, fun x H' y => ?_⟩
    obtain ⟨e, c, hc, rfl⟩ := y
    subst e
    refine hs i c σ _ ?_ p
    have : (S cs).cps[i]? = some c := hc
    simpa using this
  · have e : i = cs.length := by omega
    subst e
    exact .inl ⟨by show (S cs).cps.size ≤ cs.length; omega, hd σ H p⟩
theorem at_mem {α : Type} {xs : List α} {i : Nat} {v : α} (h : atI xs (i : Int) = some v) : v ∈ xs := by
  unfold atI ixN at h
  rw [if_pos (by omega)] at h
  split at h
  · rw [Option.bind_some, Int.toNat_natCast] at h
    exact List.mem_of_getElem? h
  · cases h
theorem atS_ex {z : Str} {k : Int} (h0 : 0 ≤ k) (h : k < z.length) : ∃ c, atI z.cps.toList k = some c := by
  have e : k = (k.toNat : Int) := by omega
  have h2 : k.toNat < z.cps.toList.length := by
    have : z.length = z.cps.toList.length := by simp [Str.length]
    omega
  rw [e]
  exact ⟨_, atI_nat (List.getElem?_eq_getElem h2)⟩
theorem dp_strs : ∀ ws : List Str, DpAll K H (ws.map V.str) (ws.map PyData.str)
  | [] => .nil
  | n :: r => .cons (.str n) (dp_strs r)
theorem eqvAll_strs : ∀ xs : List Str, PyData.eqvAll (xs.map PyData.str) (xs.map PyData.str) = true
  | [] => by simp [PyData.eqvAll]
  | x :: xs => by simp only [List.map_cons, PyData.eqvAll, PyData.eqv, eqvAll_strs xs]; simp
theorem depth_strs : ∀ xs : List Str, PyData.depthAll (xs.map PyData.str) = 0
  | [] => rfl
  | x :: xs => by
    rw [List.map_cons]
    unfold PyData.depthAll
    rw [depth_strs xs]
    rfl
theorem canLay_strs : ∀ xs : List Str, xs.all PyData.strOk = true → PyData.canLayAll0 (xs.map PyData.str) = true
  | [], _ => rfl
  | x :: xs, h => by
    rw [List.all_cons, Bool.and_eq_true] at h
    rw [List.map_cons]
    simp only [PyData.canLayAll0, PyData.canLay0, canLay_strs xs h.2, h.1, Bool.and_self]
theorem shaped_strs (xs : List Str) (h : xs.all PyData.strOk = true) : SeqAt.shaped (.list (xs.map PyData.str)) = true := by
  unfold SeqAt.shaped
  have h1 : PyData.canLay0 (.list (xs.map PyData.str)) = true := by
    simp only [PyData.canLay0]
    exact canLay_strs xs h
  have h2 : PyData.depth (.list (xs.map PyData.str)) ≤ 64 := by
    unfold PyData.depth
    rw [depth_strs xs]
    decide
  rw [h1, decide_eq_true h2]
  rfl
theorem go_eqStrs {a b : Addr} {xs : List Str} (h1 : SqL K H a (xs.map V.str)) (h2 : SqL K H b (xs.map V.str)) (ho : xs.all PyData.strOk = true) (h : Q (.bl true) H) : rEqD K (.ref a) (.ref b) H Q :=
  ⟨_, _, .lst h1 (dp_strs xs), .lst h2 (dp_strs xs), shaped_strs xs ho, shaped_strs xs ho, by rw [PyData.eqv, eqvAll_strs]; exact h⟩
end
end Gx

set_option Elab.async false
set_option linter.all false
set_option maxRecDepth 100000
set_option maxHeartbeats 4000000
/-! Own lemmas: operators that a class defines; gcd, lcm, // of great ints. -/
namespace Gx
open PySem PySem.Spec PyProof.Rows L2
section
variable {X : Cx} {CX : CXT} {C f : Addr} {fd : FuncData} {ps : List Str} {sp : Sp} {E : XK} {k : Nat} {Q : VK} {H : Hp}
theorem back_of {pins : List (Addr × Obj)} {σ : L2.St} {M : Model} {A : Around} {R : Value → Shared → Prop} {t : Sem Value} {s : Shared} (h : wpAny M A t (EP X pins σ Q) R s) : wpAny M A t (PySem.W.CmpBack (EP X pins σ Q)) R s := by
  refine wpAny_mono h (fun v s' q => ?_) fun _ _ z => z
  cases v <;> first | exact q | (obtain ⟨x, H', I, r, q⟩ := q; cases x <;> first | (cases r; done) | (obtain ⟨_, r⟩ := r; cases r))
/-- x op y by the class's own method -/
def rOwn (C : Addr) (sp : Sp) (E : XK) : R2 := fun x y H Q => ∃ a b dx dy fs gs, x = .ref a ∧ y = .ref b ∧ H a = some (.ins C dx fs) ∧ H b = some (.ins C dy gs) ∧ sp [x, y] H Q E
theorem go_own {a b dx dy : Addr} {fs gs : List (Str × V)} (h1 : H a = some (.ins C dx fs)) (h2 : H b = some (.ins C dy gs)) (h : sp [.ref a, .ref b] H Q E) : rOwn C sp E (.ref a) (.ref b) H Q := ⟨a, b, dx, dy, fs, gs, rfl, rfl, h1, h2, h⟩
theorem op_own {op : Operator} (hc : PySem.W.selfFirst X.K C = true) (hs : PySem.W.findIn X.K (.ref C) (PySem.dunder op.info.2) = some (some (.ref f))) (hf : PySem.W.isFn X.K (.ref f) = true)
    (F : FnOk X.prog X.w X.K X.mg X.base CX k f fd ps sp) (hr : Room k X.A) (hb : Binds X.K fd ps []) (hx : Passes CX X E) : OpR X (binaryOp op) (rOwn C sp E) := by
  intro pins s σ H x y v u Q I rx ry h
  obtain ⟨a, b, dx, dy, fs, gs, rfl, rfl, ha, hb', hq⟩ := h
  have rx' := rx
  have ry' := ry
  cases rx
  cases ry
  obtain ⟨mA, J, _⟩ := ins_get I.hok ha
  obtain ⟨mB, J', _⟩ := ins_get I.hok hb'
  obtain ⟨od, J, _⟩ := J.look
  obtain ⟨od', J', _⟩ := J'.look
  obtain ⟨m, hF⟩ := I.fr
  refine PySem.W.binop_K hF I.ok.mod.kin J J'.type hc hs hf (back_of ?_)
  exact run_fn F hr hb .nil hx I (.cons rx' (.cons ry' .nil)) (by simpa using hq)
/-- x == y, x != y by the class's own method (op: its own name) -/
theorem op_ownCmp {op : CmpOp} (hcmp : ∀ v u, compareOp op v u = richCompare op v u) (hc : PySem.W.notFirst X.K C (.ref C) = true) (hs : PySem.W.findIn X.K (.ref C) (cmpInfo op).2.1 = some (some (.ref f))) (hf : PySem.W.isFn X.K (.ref f) = true)
    (F : FnOk X.prog X.w X.K X.mg X.base CX k f fd ps sp) (hr : Room k X.A) (hb : Binds X.K fd ps []) (hx : Passes CX X E) : OpR X (compareOp op) (rOwn C sp E) := by
  intro pins s σ H x y v u Q I rx ry h
  obtain ⟨a, b, dx, dy, fs, gs, rfl, rfl, ha, hb', hq⟩ := h
  have rx' := rx
  have ry' := ry
  cases rx
  cases ry
  obtain ⟨mA, J, _⟩ := ins_get I.hok ha
  obtain ⟨mB, J', _⟩ := ins_get I.hok hb'
  obtain ⟨od, J, _⟩ := J.look
  obtain ⟨od', J', _⟩ := J'.look
  obtain ⟨m, hF⟩ := I.fr
  rw [hcmp]
  refine PySem.W.cmp_K hr.units0 hF I.ok.mod.kin J J'.type hc hs hf (back_of ?_)
  exact run_fn F hr hb .nil hx I (.cons rx' (.cons ry' .nil)) (by simpa using hq)
/-- -x by the class's own method -/
def uOwn (C : Addr) (sp : Sp) (E : XK) : V → Hp → VK → Prop := fun x H Q => ∃ a dx fs, x = .ref a ∧ H a = some (.ins C dx fs) ∧ sp [x] H Q E
theorem go_uOwn {a dx : Addr} {fs : List (Str × V)} (h1 : H a = some (.ins C dx fs)) (h : sp [.ref a] H Q E) : uOwn C sp E (.ref a) H Q := ⟨a, dx, fs, rfl, h1, h⟩
theorem un_own (hs : PySem.W.findIn X.K (.ref C) "__neg__" = some (some (.ref f))) (hf : PySem.W.isFn X.K (.ref f) = true)
    (F : FnOk X.prog X.w X.K X.mg X.base CX k f fd ps sp) (hr : Room k X.A) (hb : Binds X.K fd ps []) (hx : Passes CX X E) : UnR X (unaryOp .USub) (uOwn C sp E) := by
  intro pins s σ H x v Q I rx h
  obtain ⟨a, dx, fs, rfl, ha, hq⟩ := h
  have rx' := rx
  cases rx
  obtain ⟨mA, J, _⟩ := ins_get I.hok ha
  obtain ⟨od, J, _⟩ := J.look
  unfold unaryOp
  refine wpAny_holding ?_
  dsimp only
  rw [if_neg (by decide)]
  refine wpAny_bind (PySem.W.special_fn I.kIn J hs (beq_iff_eq.mp hf) ?_)
  exact wpAny_mono (run_fn F hr hb .nil hx I (.cons rx' .nil) (by simpa using hq)) (fun v s' q => wpAny_pure q) fun _ _ z => z
/-! ### great ints -/
def CDivX (_ j : Int) : Prop := j ≠ 0 ∧ j.natAbs.log2 < 9000
theorem op_fdivX : OpR X (binaryOp .FloorDiv) (rI CDivX fun i j => .int (i.fdiv j)) := opI fun _ _ _ _ _ _ _ hc q => floordiv_int hc.1 q (.inl (PyProof.noPylong_of_log2 hc.2))
theorem divX {i j : Int} {b : Nat} (h : j ≠ 0) (hb : j.natAbs < 2 ^ b) (h0 : 0 < b) (h9 : b ≤ 9000) : CDivX i j := ⟨h, Nat.lt_of_lt_of_le (PySem.Flt.log2_lt_of h0 hb) h9⟩
theorem go_gcd {a b : Int} (h : Q (.int ((Nat.gcd a.natAbs b.natAbs : Nat) : Int)) H) : rGcd [.int a, .int b] H Q := ⟨a, b, rfl, h⟩
/-- two numbers of up to 9000 bits -/
def rLcm : List V → Hp → VK → Prop := fun vs H Q => ∃ a b : Int, vs = [.int a, .int b] ∧ a.natAbs < 2 ^ 9000 ∧ b.natAbs < 2 ^ 9000 ∧ Q (.int ((Nat.lcm a.natAbs b.natAbs : Nat) : Int)) H
theorem log2_le {n k : Nat} (h : n < 2 ^ (k + 1)) : n.log2 ≤ k := PySem.W.mg_log h
theorem cr_lcm : CallR X (.builtin "math.lcm") rLcm := by
  intro pins s σ H vs us Q I r h
  obtain ⟨a, b, rfl, ha, hb, q⟩ := h
  obtain ⟨t, u, rfl⟩ := Vals.int2 r
  have h1 : (max 1 a.natAbs).log2 ≤ 8999 := log2_le (by
    have : 1 < 2 ^ 9000 := Nat.one_lt_two_pow (by decide)
    show max 1 a.natAbs < 2 ^ 9000
    omega)
  have h2 : (max a.natAbs b.natAbs).log2 ≤ 8999 := log2_le (by show max a.natAbs b.natAbs < 2 ^ 9000; omega)
  have e : (Nat.lcm 1 a.natAbs) = a.natAbs := Nat.lcm_one_left _
  have hz : ((((Nat.lcm 1 a.natAbs).lcm b.natAbs : Nat) : Int)).natAbs.log2 < bitsLine := by
    rw [e, Int.natAbs_natCast]
    have hm : a.natAbs.lcm b.natAbs ≤ a.natAbs * b.natAbs := Nat.div_le_self _ _
    have hl : a.natAbs.lcm b.natAbs < 2 ^ (17999 + 1) := by
      have : a.natAbs * b.natAbs < 2 ^ 9000 * 2 ^ 9000 := Nat.mul_lt_mul'' ha hb
      rw [← Nat.pow_add] at this
      exact Nat.lt_of_le_of_lt hm this
    have := log2_le hl
    have hb : bitsLine = 134217728 := by decide
    omega
  have g := PySem.W.mg_run_lcm a t b u (by omega) (by omega) hz
  refine call_function_meets PySem.W.MGF.kind_lcm PySem.W.MGF.plain_lcm PySem.W.MGF.entry_lcm (PySem.W.MGF.args_lcm _ _) g.meets ?_
  rw [e]
  exact ⟨.int _, H, I.tok _, ⟨_, rfl⟩, q⟩
theorem go_lcm {a b : Int} (ha : a.natAbs < 2 ^ 9000) (hb : b.natAbs < 2 ^ 9000) (h : Q (.int ((Nat.lcm a.natAbs b.natAbs : Nat) : Int)) H) : rLcm [.int a, .int b] H Q := ⟨a, b, rfl, ha, hb, h⟩
end
end Gx

set_option Elab.async false
set_option linter.all false
set_option maxRecDepth 100000
set_option maxHeartbeats 4000000
/-! Own lemmas: fractions in lowest terms; Euclid's loop. -/
namespace Gx
open PySem PySem.Spec PyProof.Rows L2
/-- the numerator and the denominator in lowest terms -/
def rN (a b : Int) : Int := if b < 0 then (-a) / (Int.gcd a b : Int) else a / (Int.gcd a b : Int)
def rD (a b : Int) : Int := if b < 0 then (-b) / (Int.gcd a b : Int) else b / (Int.gcd a b : Int)
theorem gcd_pos {a b : Int} (h : b ≠ 0) : 0 < (Int.gcd a b : Int) := by
  have := Int.gcd_pos_of_ne_zero_right a h
  omega
theorem gcd_l (a b : Int) : (Int.gcd a b : Int) ∣ a := Int.gcd_dvd_left _ _
theorem gcd_r (a b : Int) : (Int.gcd a b : Int) ∣ b := Int.gcd_dvd_right _ _
/-- one form for both signs -/
theorem rN_mul {a b : Int} (h : b ≠ 0) : rN a b * (if b < 0 then -(Int.gcd a b : Int) else (Int.gcd a b : Int)) = a := by
  unfold rN
  split
  · rw [Int.mul_neg, Int.ediv_mul_cancel (Int.dvd_neg.mpr (gcd_l a b)), Int.neg_neg]
  · exact Int.ediv_mul_cancel (gcd_l a b)
theorem rD_mul {a b : Int} (h : b ≠ 0) : rD a b * (if b < 0 then -(Int.gcd a b : Int) else (Int.gcd a b : Int)) = b := by
  unfold rD
  split
  · rw [Int.mul_neg, Int.ediv_mul_cancel (Int.dvd_neg.mpr (gcd_r a b)), Int.neg_neg]
  · exact Int.ediv_mul_cancel (gcd_r a b)
theorem rD_pos {a b : Int} (h : b ≠ 0) : 0 < rD a b := by
  have g := gcd_pos (a := a) h
  have e := rD_mul (a := a) h
  by_cases hb : b < 0
  · rw [if_pos hb] at e
    by_cases q : 0 < rD a b
    · exact q
    · have : 0 ≤ rD a b * -(Int.gcd a b : Int) := Int.mul_nonneg_of_nonpos_of_nonpos (by omega) (by omega)
      omega
  · rw [if_neg hb] at e
    by_cases q : 0 < rD a b
    · exact q
    · have : rD a b * (Int.gcd a b : Int) ≤ 0 := Int.mul_nonpos_of_nonpos_of_nonneg (by omega) (by omega)
      omega
theorem r_cross {a b : Int} (h : b ≠ 0) : rN a b * b = a * rD a b := by
  have e1 := rN_mul (a := a) h
  have e2 := rD_mul (a := a) h
  generalize (if b < 0 then -(Int.gcd a b : Int) else (Int.gcd a b : Int)) = g at e1 e2
  calc rN a b * b = rN a b * (rD a b * g) := by rw [e2]
    _ = (rN a b * g) * rD a b := by rw [Int.mul_comm (rD a b) g, ← Int.mul_assoc]
    _ = a * rD a b := by rw [e1]
theorem r_coprime {a b : Int} (h : b ≠ 0) : Int.gcd (rN a b) (rD a b) = 1 := by
  have g := gcd_pos (a := a) h
  have e1 := rN_mul (a := a) h
  have e2 := rD_mul (a := a) h
  have e3 : Int.gcd (rN a b * (if b < 0 then -(Int.gcd a b : Int) else (Int.gcd a b : Int))) (rD a b * (if b < 0 then -(Int.gcd a b : Int) else (Int.gcd a b : Int))) = Int.gcd a b := by rw [e1, e2]
  rw [Int.gcd_mul_right] at e3
  have e4 : (if b < 0 then -(Int.gcd a b : Int) else (Int.gcd a b : Int)).natAbs = Int.gcd a b := by
    split
    · rw [Int.natAbs_neg, Int.natAbs_natCast]
    · rw [Int.natAbs_natCast]
  rw [e4] at e3
  have hp : 0 < Int.gcd a b := by omega
  exact Nat.eq_of_mul_eq_mul_right hp (by omega)
theorem dvd_co {k m n : Int} (h : k ∣ m * n) (g : Int.gcd k m = 1) : k ∣ n := by
  have h' : k.natAbs ∣ m.natAbs * n.natAbs := by
    rw [← Int.natAbs_mul]
    exact Int.natAbs_dvd_natAbs.mpr h
  exact Int.natAbs_dvd_natAbs.mp (Nat.Coprime.dvd_of_dvd_mul_left (show Nat.gcd k.natAbs m.natAbs = 1 from g) h')
/-- lowest terms are one -/
theorem low_unique {n d n' d' : Int} (hd : 0 < d) (hd' : 0 < d') (h1 : Int.gcd n d = 1) (h2 : Int.gcd n' d' = 1) (h : n * d' = n' * d) : n = n' ∧ d = d' := by
  have k1 : d ∣ d' := by
    have : d ∣ n * d' := by rw [h]; exact Int.dvd_mul_left _ _
    exact dvd_co this (by rw [Int.gcd_comm]; exact h1)
  have k2 : d' ∣ d := by
    have : d' ∣ n' * d := by rw [← h]; exact Int.dvd_mul_left _ _
    exact dvd_co this (by rw [Int.gcd_comm]; exact h2)
  have e : d = d' := Int.dvd_antisymm (by omega) (by omega) k1 k2
  subst e
  exact ⟨Int.eq_of_mul_eq_mul_right (by omega) h, rfl⟩
theorem r_unique {a b n d : Int} (h : b ≠ 0) (hd : 0 < d) (hg : Int.gcd n d = 1) (e : n * b = a * d) : n = rN a b ∧ d = rD a b := by
  refine low_unique hd (rD_pos h) hg (r_coprime h) ?_
  have c := r_cross (a := a) h
  have : n * rD a b * b = rN a b * d * b := by
    calc n * rD a b * b = n * b * rD a b := by rw [Int.mul_right_comm]
      _ = a * d * rD a b := by rw [e]
      _ = a * rD a b * d := by rw [Int.mul_right_comm]
      _ = rN a b * b * d := by rw [c]
      _ = rN a b * d * b := by rw [Int.mul_right_comm]
  exact Int.eq_of_mul_eq_mul_right h this
theorem r_congr {a b a' b' : Int} (h : b ≠ 0) (h' : b' ≠ 0) (e : a * b' = a' * b) : rN a b = rN a' b' ∧ rD a b = rD a' b' := by
  refine r_unique h' (rD_pos h) (r_coprime h) ?_
  have c := r_cross (a := a) h
  have : rN a b * b' * b = a' * rD a b * b := by
    calc rN a b * b' * b = rN a b * b * b' := by rw [Int.mul_right_comm]
      _ = a * rD a b * b' := by rw [c]
      _ = a * b' * rD a b := by rw [Int.mul_right_comm]
      _ = a' * b * rD a b := by rw [e]
      _ = a' * rD a b * b := by rw [Int.mul_right_comm]
  exact Int.eq_of_mul_eq_mul_right h this
/-- what the program reckons -/
theorem rN_fdiv {a b : Int} (h : b ≠ 0) {p : Int} (hp : p = if b < 0 then -(Int.gcd a b : Int) else (Int.gcd a b : Int)) : a.fdiv p = rN a b ∧ b.fdiv p = rD a b ∧ p ≠ 0 := by
  have g := gcd_pos (a := a) h
  have hp0 : p ≠ 0 := by rw [hp]; split <;> omega
  have e1 := rN_mul (a := a) h
  have e2 := rD_mul (a := a) h
  rw [← hp] at e1 e2
  refine ⟨?_, ?_, hp0⟩
  · have := Int.mul_fdiv_cancel (rN a b) hp0
    rw [e1] at this
    exact this
  · have := Int.mul_fdiv_cancel (rD a b) hp0
    rw [e2] at this
    exact this
theorem mul_abs_le {x y z : Int} (hz : z ≠ 0) (e : x * z = y) : x.natAbs ≤ y.natAbs := by
  rw [← e, Int.natAbs_mul]
  exact Nat.le_mul_of_pos_right _ (by omega)
theorem rN_le (a b : Int) (h : b ≠ 0) : (rN a b).natAbs ≤ a.natAbs := by
  have g := gcd_pos (a := a) h
  exact mul_abs_le (by split <;> omega) (rN_mul h)
theorem rD_le (a b : Int) (h : b ≠ 0) : (rD a b).natAbs ≤ b.natAbs := by
  have g := gcd_pos (a := a) h
  exact mul_abs_le (by split <;> omega) (rD_mul h)
theorem r_self {n d : Int} (hd : 0 < d) (hg : Int.gcd n d = 1) : rN n d = n ∧ rD n d = d := by
  obtain ⟨e1, e2⟩ := r_unique (a := n) (b := d) (n := n) (d := d) (by omega) hd hg rfl
  exact ⟨e1.symm, e2.symm⟩
/-! ### sums, products of fractions that were brought to lowest terms -/
theorem r_add {a b c d : Int} (hb : b ≠ 0) (hd : d ≠ 0) : rN (rN a b * rD c d + rN c d * rD a b) (rD a b * rD c d) = rN (a * d + c * b) (b * d) ∧ rD (rN a b * rD c d + rN c d * rD a b) (rD a b * rD c d) = rD (a * d + c * b) (b * d) := by
  have p1 := rD_pos (a := a) hb
  have p2 := rD_pos (a := c) hd
  have c1 := r_cross (a := a) hb
  have c2 := r_cross (a := c) hd
  refine r_congr (Int.ne_of_gt (Int.mul_pos p1 p2)) (Int.mul_ne_zero hb hd) ?_
  generalize rN a b = n at *
  generalize rD a b = m at *
  generalize rN c d = n' at *
  generalize rD c d = m' at *
  rw [Int.add_mul, Int.add_mul]
  have e1 : n * m' * (b * d) = a * d * (m * m') := by
    calc n * m' * (b * d) = (n * b) * (m' * d) := by ac_rfl
      _ = (a * m) * (m' * d) := by rw [c1]
      _ = a * d * (m * m') := by ac_rfl
  have e2 : n' * m * (b * d) = c * b * (m * m') := by
    calc n' * m * (b * d) = (n' * d) * (m * b) := by ac_rfl
      _ = (c * m') * (m * b) := by rw [c2]
      _ = c * b * (m * m') := by ac_rfl
  rw [e1, e2]
theorem r_neg {a b : Int} (hb : b ≠ 0) : rN (-rN a b) (rD a b) = rN (-a) b ∧ rD (-rN a b) (rD a b) = rD (-a) b := by
  have p1 := rD_pos (a := a) hb
  have c1 := r_cross (a := a) hb
  refine r_congr (by omega) hb ?_
  rw [Int.neg_mul, Int.neg_mul, c1]
theorem r_sub {a b c d : Int} (hb : b ≠ 0) (hd : d ≠ 0) : rN (rN a b * rD c d - rN c d * rD a b) (rD a b * rD c d) = rN (a * d - c * b) (b * d) ∧ rD (rN a b * rD c d - rN c d * rD a b) (rD a b * rD c d) = rD (a * d - c * b) (b * d) := by
  have p1 := rD_pos (a := a) hb
  have p2 := rD_pos (a := c) hd
  have c1 := r_cross (a := a) hb
  have c2 := r_cross (a := c) hd
  refine r_congr (Int.ne_of_gt (Int.mul_pos p1 p2)) (Int.mul_ne_zero hb hd) ?_
  generalize rN a b = n at *
  generalize rD a b = m at *
  generalize rN c d = n' at *
  generalize rD c d = m' at *
  rw [Int.sub_mul, Int.sub_mul]
  have e1 : n * m' * (b * d) = a * d * (m * m') := by
    calc n * m' * (b * d) = (n * b) * (m' * d) := by ac_rfl
      _ = (a * m) * (m' * d) := by rw [c1]
      _ = a * d * (m * m') := by ac_rfl
  have e2 : n' * m * (b * d) = c * b * (m * m') := by
    calc n' * m * (b * d) = (n' * d) * (m * b) := by ac_rfl
      _ = (c * m') * (m * b) := by rw [c2]
      _ = c * b * (m * m') := by ac_rfl
  rw [e1, e2]
theorem r_mul {a b c d : Int} (hb : b ≠ 0) (hd : d ≠ 0) : rN (rN a b * rN c d) (rD a b * rD c d) = rN (a * c) (b * d) ∧ rD (rN a b * rN c d) (rD a b * rD c d) = rD (a * c) (b * d) := by
  have p1 := rD_pos (a := a) hb
  have p2 := rD_pos (a := c) hd
  have c1 := r_cross (a := a) hb
  have c2 := r_cross (a := c) hd
  refine r_congr (Int.ne_of_gt (Int.mul_pos p1 p2)) (Int.mul_ne_zero hb hd) ?_
  generalize rN a b = n at *
  generalize rD a b = m at *
  generalize rN c d = n' at *
  generalize rD c d = m' at *
  calc n * n' * (b * d) = (n * b) * (n' * d) := by ac_rfl
    _ = (a * m) * (c * m') := by rw [c1, c2]
    _ = a * c * (m * m') := by ac_rfl
/-! ### Euclid -/
theorem gcd_step {a b : Int} (ha : 0 ≤ a) (hb : 0 < b) : Int.gcd b (a % b) = Int.gcd a b := by
  have h : 0 ≤ a % b := Int.emod_nonneg _ (by omega)
  obtain ⟨n, rfl⟩ : ∃ n : Nat, a = n := ⟨a.toNat, by omega⟩
  obtain ⟨m, rfl⟩ : ∃ m : Nat, b = m := ⟨b.toNat, by omega⟩
  rw [← Int.natCast_emod, Int.gcd_natCast_natCast, Int.gcd_natCast_natCast, Nat.gcd_comm n m, Nat.gcd_rec m n, Nat.gcd_comm]
theorem euclid_drop {a b : Int} (hb : 0 < b) (h : b < a) : 2 * (b * (a % b)) ≤ a * b := by
  have h0 : 0 ≤ a % b := Int.emod_nonneg _ (by omega)
  have h1 : a % b < b := Int.emod_lt_of_pos _ hb
  have h2 : 1 ≤ a / b := by
    rw [Int.le_ediv_iff_mul_le hb]
    omega
  have h3 := Int.mul_ediv_add_emod a b
  have h4 : b * 1 ≤ b * (a / b) := Int.mul_le_mul_of_nonneg_left h2 (by omega)
  have h5 : 2 * (a % b) ≤ a := by omega
  have h6 : b * (2 * (a % b)) ≤ b * a := Int.mul_le_mul_of_nonneg_left h5 (by omega)
  rw [Int.mul_comm a b]
  calc 2 * (b * (a % b)) = b * (2 * (a % b)) := by ac_rfl
    _ ≤ b * a := h6
/-! ### a ratio as an object -/
def rf (n d : Int) : List (Str × V) := [("num", .int n), ("den", .int d)]
theorem nd_ne : ¬ (("num" : Str) = "den") := by decide +kernel
theorem rf_num (n d : Int) : (rf n d).lookup ("num" : Str) = some (.int n) := by
  unfold rf
  rw [List.lookup_cons, beq_self_eq_true]
theorem rf_den (n d : Int) : (rf n d).lookup ("den" : Str) = some (.int d) := by
  unfold rf
  rw [List.lookup_cons, show (("den" : Str) == "num") = false by decide +kernel, List.lookup_cons, beq_self_eq_true]
theorem rf_none (n d : Int) {m : Str} (h1 : ¬ m = "num") (h2 : ¬ m = "den") : (rf n d).lookup m = none := by
  unfold rf
  rw [List.lookup_cons, beq_eq_false_iff_ne.mpr h1, List.lookup_cons, beq_eq_false_iff_ne.mpr h2]
  rfl
theorem rf_put (n d : Int) : putF "den" (.int d) (putF "num" (.int n) []) = rf n d := by
  show (if ("num" : Str) = "den" then [(("num" : Str), V.int d)] else (("num" : Str), V.int n) :: putF "den" (V.int d) []) = _
  rw [if_neg nd_ne]
  rfl
/-- a ratio n / d stands at x -/
def RatAt (C : Addr) (H : Hp) (x : Addr) (n d : Int) : Prop := ∃ dx, H x = some (.ins C dx (rf n d))
theorem RatAt.same {C : Addr} {H H' : Hp} {x : Addr} {n d : Int} (h : RatAt C H x n d) (s : Same H H') : RatAt C H' x n d := let ⟨dx, e⟩ := h; ⟨dx, s _ _ e⟩
section
variable {K : PySem.W.Frag} {σ : L2.St} {H : Hp} {Q : VK} {ta : TE} {f : Str}
def qFld (K : PySem.W.Frag) (f : Str) (Q : VK) : VK := fun x H1 => ∃ a C dx fs v, x = .ref a ∧ H1 a = some (.ins C dx fs) ∧ Cls K C ∧ NoAttr K C f ∧ fs.lookup f = some v ∧ Q v H1
theorem go_fld (h : ta σ H (qFld K f Q)) : tFld K ta f σ H Q := h
theorem go_fldV {a C dx : Addr} {fs : List (Str × V)} {v : V} (e : H a = some (.ins C dx fs)) (c : Cls K C) (n : NoAttr K C f) (l : fs.lookup f = some v) (h : Q v H) : qFld K f Q (.ref a) H := ⟨a, C, dx, fs, v, rfl, e, c, n, l, h⟩
theorem go_rnum {a C dx : Addr} {m d : Int} (e : H a = some (.ins C dx (rf m d))) (c : Cls K C) (n : NoAttr K C "num") (h : Q (.int m) H) : qFld K "num" Q (.ref a) H := go_fldV e c n (rf_num m d) h
theorem go_rden {a C dx : Addr} {m d : Int} (e : H a = some (.ins C dx (rf m d))) (c : Cls K C) (n : NoAttr K C "den") (h : Q (.int d) H) : qFld K "den" Q (.ref a) H := go_fldV e c n (rf_den m d) h
theorem go_make {C : Addr} {sp : Sp} {dvs : List V} {E : XK} {t : TA} (h : t σ H fun vs H1 => ∀ x dx, H1 x = none → H1 dx = none → dx ≠ x →
  sp (.ref x :: (vs ++ dvs)) (upd (upd H1 dx (.own x)) x (.ins C dx [])) (fun v H2 => v = .non ∧ Q (.ref x) H2) E) : tMake C sp dvs E t σ H Q := h
theorem go_meth {C : Addr} {m : Str} {sp : Sp} {dvs : List V} {E : XK} {t : TA} (h : ta σ H fun x H1 => ∃ a dx fs, x = .ref a ∧ H1 a = some (.ins C dx fs) ∧ fs.lookup m = none ∧
  t σ H1 fun vs H2 => sp (x :: (vs ++ dvs)) H2 Q E) : tMeth C m sp dvs E ta t σ H Q := h
def sFldN (K : PySem.W.Frag) (f : Str) (y : V) (σ : L2.St) (D : Ends) : VK := fun x H2 => ∃ a C dx fs, x = .ref a ∧ H2 a = some (.ins C dx fs) ∧ Cls K C ∧ NoAttr K C f ∧ fs.length < 1000 ∧ D.nx σ (upd H2 a (.ins C dx (putF f y fs)))
theorem go_sfld {D : Ends} {tv : TE} (h : tv σ H fun y H1 => ta σ H1 (sFldN K f y σ D)) : sFld K ta tv f D σ H := h
theorem go_sfldV {D : Ends} {y : V} {a C dx : Addr} {fs : List (Str × V)} (e : H a = some (.ins C dx fs)) (c : Cls K C) (n : NoAttr K C f) (l : fs.length < 1000) (h : D.nx σ (upd H a (.ins C dx (putF f y fs)))) : sFldN K f y σ D (.ref a) H :=
  ⟨a, C, dx, fs, rfl, e, c, n, l, h⟩
end
theorem same_made {H H1 : Hp} {z dz : Addr} {o1 o2 : HO} (hz : H z = none) (hdz : H dz = none) (s : ∀ c o, c ≠ z → upd (upd H dz o1) z o2 c = some o → H1 c = some o) : Same H H1 := fun t o ht => by
  refine s t o (ne_of_none ht hz) ?_
  rw [upd_ne (ne_of_none ht hz), upd_ne (ne_of_none ht hdz)]
  exact ht
theorem p_mono {x : Int} {k n : Nat} (h : x.natAbs < 2 ^ k) (hk : k ≤ n) : x.natAbs < 2 ^ n := Nat.lt_of_lt_of_le h (Nat.pow_le_pow_right (by decide) hk)
theorem p30 {x : Int} (h : x.natAbs ≤ 10 ^ 30 + 1) : x.natAbs < 2 ^ 100 := Nat.lt_of_le_of_lt h (by decide)
theorem p_add {x y : Int} {k : Nat} (h1 : x.natAbs < 2 ^ k) (h2 : y.natAbs < 2 ^ k) : (x + y).natAbs < 2 ^ (k + 1) := by
  have := Int.natAbs_add_le x y
  rw [Nat.pow_succ]
  omega
theorem p_sub {x y : Int} {k : Nat} (h1 : x.natAbs < 2 ^ k) (h2 : y.natAbs < 2 ^ k) : (x - y).natAbs < 2 ^ (k + 1) := by
  have := Int.natAbs_sub_le x y
  rw [Nat.pow_succ]
  omega
/-! ### lists of ratios -/
/-- each of xs is a ratio, with the terms of rs -/
def RatsAt (C : Addr) (H : Hp) (xs : List V) (rs : List (Int × Int)) : Prop := xs.length = rs.length ∧ ∀ (i : Nat) x r, xs[i]? = some x → rs[i]? = some r → ∃ p dx, x = .ref p ∧ H p = some (.ins C dx (rf r.1 r.2))
theorem RatsAt.same {C : Addr} {H H' : Hp} {xs : List V} {rs : List (Int × Int)} (h : RatsAt C H xs rs) (s : Same H H') : RatsAt C H' xs rs :=
  ⟨h.1, fun i x r a b => let ⟨p, dx, e, k⟩ := h.2 i x r a b; ⟨p, dx, e, s _ _ k⟩⟩
theorem RatsAt.get {C : Addr} {H : Hp} {xs : List V} {rs : List (Int × Int)} (h : RatsAt C H xs rs) {i : Nat} {x : V} (e : xs[i]? = some x) : ∃ r p dx, rs[i]? = some r ∧ x = .ref p ∧ H p = some (.ins C dx (rf r.1 r.2)) := by
  have hi := (List.getElem?_eq_some_iff.mp e).1
  have hi2 : i < rs.length := by rw [← h.1]; exact hi
  obtain ⟨p, dx, e2, k⟩ := h.2 i x _ e (List.getElem?_eq_getElem hi2)
  exact ⟨_, p, dx, List.getElem?_eq_getElem hi2, e2, k⟩
theorem RatsAt.nil {C : Addr} {H : Hp} : RatsAt C H [] [] := ⟨rfl, fun i x r h _ => by simp at h⟩
theorem RatsAt.snoc {C : Addr} {H : Hp} {xs : List V} {rs : List (Int × Int)} (h : RatsAt C H xs rs) {p dx : Addr} {n d : Int} (e : H p = some (.ins C dx (rf n d))) : RatsAt C H (xs ++ [.ref p]) (rs ++ [(n, d)]) := by
  refine ⟨by simp [h.1], fun i x r a b => ?_⟩
  rcases Nat.lt_or_ge i xs.length with q | q
  · rw [List.getElem?_append_left q] at a
    rw [List.getElem?_append_left (by rw [← h.1]; exact q)] at b
    exact h.2 i x r a b
  · rw [List.getElem?_append_right q] at a
    rw [List.getElem?_append_right (by rw [← h.1]; exact q), ← h.1] at b
    rcases Nat.eq_zero_or_pos (i - xs.length) with z | z
    · rw [z] at a b
      cases a
      cases b
      exact ⟨p, dx, rfl, e⟩
    · rw [List.getElem?_eq_none (by simp; omega)] at a
      cases a
/-- a comprehension's list, by what was made at each place -/
theorem rats_of {C : Addr} {H : Hp} {ys : List V} {rs : List (Int × Int)} (hl : ys.length = rs.length) (h : ∀ (k : Nat) y, ys[k]? = some y → ∃ r p dx, rs[k]? = some r ∧ y = .ref p ∧ H p = some (.ins C dx (rf r.1 r.2))) : RatsAt C H ys rs :=
  ⟨hl, fun i x r a b => by
    obtain ⟨r', p, dx, e1, e2, e3⟩ := h i x a
    rw [b] at e1
    cases e1
    exact ⟨p, dx, e2, e3⟩⟩
/-- the denominator of the common form -/
def cden (rs : List (Int × Int)) : Nat := rs.foldl (fun m r => Nat.lcm m r.2.natAbs) 1
theorem cden_snoc (rs : List (Int × Int)) (r : Int × Int) : cden (rs ++ [r]) = Nat.lcm (cden rs) r.2.natAbs := by
  unfold cden
  rw [List.foldl_append]
  rfl
theorem cden_take {rs : List (Int × Int)} {i : Nat} {r : Int × Int} (h : rs[i]? = some r) : cden (rs.take (i + 1)) = Nat.lcm (cden (rs.take i)) r.2.natAbs := by
  rw [List.take_add_one, h, show (some r).toList = [r] from rfl, cden_snoc]
theorem lfold_pos : ∀ (rs : List (Int × Int)) (m : Nat), 0 < m → (∀ r ∈ rs, 0 < r.2) → 0 < rs.foldl (fun m r => Nat.lcm m r.2.natAbs) m
  | [], m, h, _ => h
  | r :: t, m, h, hr => by
    rw [List.foldl_cons]
    refine lfold_pos t _ (Nat.lcm_pos h ?_) fun z hz => hr z (List.mem_cons_of_mem _ hz)
    have := hr r List.mem_cons_self
    omega
theorem cden_pos {rs : List (Int × Int)} (h : ∀ r ∈ rs, 0 < r.2) : 0 < cden rs := lfold_pos rs 1 (by decide) h
theorem lfold_dvd : ∀ (rs : List (Int × Int)) (m : Nat), m ∣ rs.foldl (fun m r => Nat.lcm m r.2.natAbs) m ∧ ∀ r ∈ rs, r.2.natAbs ∣ rs.foldl (fun m r => Nat.lcm m r.2.natAbs) m
  | [], m => ⟨Nat.dvd_refl _, fun r h => nomatch h⟩
  | s :: t, m => by
    rw [List.foldl_cons]
    obtain ⟨h1, h2⟩ := lfold_dvd t (Nat.lcm m s.2.natAbs)
    refine ⟨Nat.dvd_trans (Nat.dvd_lcm_left _ _) h1, fun r hr => ?_⟩
    rcases List.mem_cons.mp hr with rfl | hr
    · exact Nat.dvd_trans (Nat.dvd_lcm_right _ _) h1
    · exact h2 r hr
theorem cden_dvd {rs : List (Int × Int)} {r : Int × Int} (h : r ∈ rs) : r.2.natAbs ∣ cden rs := (lfold_dvd rs 1).2 r h
theorem lfold_least : ∀ (rs : List (Int × Int)) (m k : Nat), m ∣ k → (∀ r ∈ rs, r.2.natAbs ∣ k) → rs.foldl (fun m r => Nat.lcm m r.2.natAbs) m ∣ k
  | [], m, k, h, _ => h
  | s :: t, m, k, h, hr => by
    rw [List.foldl_cons]
    exact lfold_least t _ k (Nat.lcm_dvd h (hr s List.mem_cons_self)) fun z hz => hr z (List.mem_cons_of_mem _ hz)
theorem cden_least {rs : List (Int × Int)} {k : Nat} (h : ∀ r ∈ rs, r.2.natAbs ∣ k) : cden rs ∣ k := lfold_least rs 1 k (Nat.one_dvd _) h
theorem lfold_lt : ∀ (rs : List (Int × Int)) (m e : Nat), m < 2 ^ e → (∀ r ∈ rs, r.2.natAbs < 2 ^ 100) → rs.foldl (fun m r => Nat.lcm m r.2.natAbs) m < 2 ^ (e + 100 * rs.length)
  | [], m, e, h, _ => h
  | s :: t, m, e, h, hr => by
    rw [List.foldl_cons]
    have h1 : Nat.lcm m s.2.natAbs ≤ m * s.2.natAbs := Nat.div_le_self _ _
    have h2 : m * s.2.natAbs < 2 ^ e * 2 ^ 100 := Nat.mul_lt_mul'' h (hr s List.mem_cons_self)
    rw [← Nat.pow_add] at h2
    have := lfold_lt t (Nat.lcm m s.2.natAbs) (e + 100) (Nat.lt_of_le_of_lt h1 h2) fun z hz => hr z (List.mem_cons_of_mem _ hz)
    rw [List.length_cons, show e + 100 * (t.length + 1) = e + 100 + 100 * t.length by omega]
    exact this
theorem cden_lt {rs : List (Int × Int)} (h : ∀ r ∈ rs, r.2.natAbs < 2 ^ 100) (hl : rs.length ≤ 60) : cden rs < 2 ^ 9000 :=
  Nat.lt_of_lt_of_le (lfold_lt rs 1 1 (by decide) h) (Nat.pow_le_pow_right (by decide) (by omega))
/-- the numbers of the common form -/
def cnum (rs : List (Int × Int)) : List Int := rs.map fun r => r.1 * ((cden rs : Int) / r.2)
section
variable {K : PySem.W.Frag} {σ : L2.St} {H : Hp} {R : L2.St → Hp → Prop} {t : TG} {u : TGs}
theorem go_gtup {n : Nat} {a : Addr} {xs : List V} (h : SqT K H a xs) (hl : xs.length = n) (q : u xs σ H R) : gTup K n u (.ref a) σ H R := ⟨a, xs, rfl, h, hl, q⟩
theorem go_gcons {v : V} {r : List V} (h : t v σ H fun σ' H' => u r σ' H' R) : gCons t u (v :: r) σ H R := ⟨v, r, rfl, h⟩
theorem go_gnil (h : R σ H) : gNil [] σ H R := ⟨rfl, h⟩
end
/-! ### comprehensions that make objects -/
/-- what is told of an item stays as the heap grows, and as a list is written -/
structure Stays (P : Hp → Nat → V → Prop) : Prop where
  same : ∀ H H' k y, Same H H' → P H k y → P H' k y
  lst : ∀ H D zs zs' k y, H D = some (.lst zs) → P H k y → P (upd H D (.lst zs')) k y
theorem stays_rat {C : Addr} {rs : List (Int × Int)} : Stays fun H k y => ∃ r p dx, rs[k]? = some r ∧ y = .ref p ∧ H p = some (.ins C dx (rf r.1 r.2)) :=
  ⟨fun H H' k y s ⟨r, p, dx, a, b, c⟩ => ⟨r, p, dx, a, b, s _ _ c⟩, fun H D zs zs' k y e ⟨r, p, dx, a, b, c⟩ => ⟨r, p, dx, a, b, by rw [upd_ne (ne_of c e (by intro z; cases z))]; exact c⟩⟩
section
variable {K : PySem.W.Frag} {σ : L2.St} {H H1 : Hp} {Q : VK} {tl te : TE} {vs : List Nat} {j : Nat}
theorem lcLh {R : Addr → Hp → Prop} {a : Addr} (xs : List V) {P : Hp → Nat → V → Prop} (hP : Stays P) (hs : SqL K H1 a xs) (hz : xs.length ≤ 100000) (hw : ∀ x, wipe ((wipe σ vs).set j x) vs = wipe σ vs)
    (he : ∀ (i : Nat) x H', xs[i]? = some x → Same H1 H' → ∀ R : VK, (∀ y H'', Same H' H'' → P H'' i y → R y H'') → te ((wipe σ vs).set j (some x)) H' R)
    (q : ∀ D (ys : List V) H2, H1 D = none → Same H1 H2 → H2 D = some (.lst ys) → ys.length = xs.length → (∀ k y, ys[k]? = some y → P H2 k y) → R D H2) :
    ∃ b, V.ref a = .ref b ∧ (∃ xs, SqL K H1 b xs) ∧ ∀ D, H1 D = none → ∃ W : Nat → Nat → Hp → Prop, (∃ m, W 0 m (upd H1 D (.lst []))) ∧ ∀ i m H, W i m H →
      ((Itl K b).stop i H ∧ R D H) ∨ ((Itl K b).go i H ∧ ∃ Nx : Hp → Prop, (∀ H', Nx H' → ∃ m', m' < m ∧ W (i + 1) m' H') ∧ ∀ x H', (Itl K b).yld i H x H' → gName j x (wipe σ vs) H' fun σ2 H2 => wipe σ2 vs = wipe σ vs ∧ tYes σ2 H2 fun b H3 =>
        if b = true then te σ2 H3 fun y H4 => ∃ acc, H4 D = some (.lst acc) ∧ acc.length < sizeLine ∧ Nx (upd H4 D (.lst (acc ++ [y]))) else Nx H3) := by
  refine ⟨a, rfl, ⟨xs, hs⟩, fun D hD => ?_⟩
  refine lc_list (xs := xs) (fun i H' => Same H1 H' ∧ ∃ ys : List V, H' D = some (.lst ys) ∧ ys.length = i ∧ ∀ k y, ys[k]? = some y → P H' k y) ⟨same_new hD, [], upd_same, rfl, fun k y h => by simp at h⟩ (fun i H _ p => same_sqL p.1 hs) (fun i x H hx p => ?_) fun H p => ?_
  · obtain ⟨s, ys, e, hl, hp⟩ := p
    refine ⟨hw _, ?_⟩
    refine go_yes ?_
    refine iteT ?_
    refine he i x H hx s _ fun y H4 s4 hy => ?_
    have hi := (List.getElem?_eq_some_iff.mp hx).1
    have e4 := s4 _ _ e
    refine ⟨ys, e4, szlt (by omega), same_mut (s.trans s4) hD, ys ++ [y], upd_same, by simp [hl], fun k z hz => ?_⟩
    refine hP.lst _ _ ys _ _ _ e4 ?_
    rcases Nat.lt_or_ge k ys.length with h | h
    · rw [List.getElem?_append_left h] at hz
      exact hP.same _ _ _ _ s4 (hp k z hz)
    · rw [List.getElem?_append_right h] at hz
      rcases Nat.eq_or_lt_of_le h with e2 | e2
      · rw [← e2, Nat.sub_self] at hz
        cases hz
        rw [← e2, hl]
        exact hy
      · rw [List.getElem?_eq_none (by simp; omega)] at hz
        cases hz
  · obtain ⟨s, ys, e, hl, hp⟩ := p
    exact q D ys H hD s e hl hp
end
/-! ### lists of pairs -/
def PairsAt (H : Hp) (xs : List V) (ts : List (Int × Int)) : Prop := xs.length = ts.length ∧ ∀ (i : Nat) x t, xs[i]? = some x → ts[i]? = some t → ∃ p, x = .ref p ∧ H p = some (.tup [.int t.1, .int t.2])
theorem PairsAt.nil {H : Hp} : PairsAt H [] [] := ⟨rfl, fun i x r h _ => by simp at h⟩
theorem PairsAt.same {H H' : Hp} {xs : List V} {ts : List (Int × Int)} (h : PairsAt H xs ts) (s : Same H H') : PairsAt H' xs ts :=
  ⟨h.1, fun i x r a b => let ⟨p, e, k⟩ := h.2 i x r a b; ⟨p, e, s _ _ k⟩⟩
theorem PairsAt.get {H : Hp} {xs : List V} {ts : List (Int × Int)} (h : PairsAt H xs ts) {i : Nat} {t : Int × Int} (e : ts[i]? = some t) : ∃ p, xs[i]? = some (.ref p) ∧ H p = some (.tup [.int t.1, .int t.2]) := by
  have hi := (List.getElem?_eq_some_iff.mp e).1
  have hi2 : i < xs.length := by rw [h.1]; exact hi
  obtain ⟨p, e2, k⟩ := h.2 i _ t (List.getElem?_eq_getElem hi2) e
  exact ⟨p, by rw [List.getElem?_eq_getElem hi2, e2], k⟩
/-- a list is written: the pairs stand -/
theorem PairsAt.lst {H : Hp} {xs : List V} {ts : List (Int × Int)} {D : Addr} {zs zs' : List V} (h : PairsAt H xs ts) (e : H D = some (.lst zs)) : PairsAt (upd H D (.lst zs')) xs ts :=
  ⟨h.1, fun i x r a b => let ⟨p, e1, k⟩ := h.2 i x r a b; ⟨p, e1, by rw [upd_ne (ne_of k e (by intro z; cases z))]; exact k⟩⟩
theorem PairsAt.snoc {H : Hp} {xs : List V} {ts : List (Int × Int)} (h : PairsAt H xs ts) {p : Addr} {n d : Int} (e : H p = some (.tup [.int n, .int d])) : PairsAt H (xs ++ [.ref p]) (ts ++ [(n, d)]) := by
  refine ⟨by simp [h.1], fun i x r a b => ?_⟩
  rcases Nat.lt_or_ge i xs.length with q | q
  · rw [List.getElem?_append_left q] at a
    rw [List.getElem?_append_left (by rw [← h.1]; exact q)] at b
    exact h.2 i x r a b
  · rw [List.getElem?_append_right q] at a
    rw [List.getElem?_append_right (by rw [← h.1]; exact q), ← h.1] at b
    rcases Nat.eq_zero_or_pos (i - xs.length) with z | z
    · rw [z] at a b
      cases a
      cases b
      exact ⟨p, rfl, e⟩
    · rw [List.getElem?_eq_none (by simp; omega)] at a
      cases a
/-! ### the common form is the least -/
theorem form_coprime {rs : List (Int × Int)} (hpos : ∀ r ∈ rs, 0 < r.2) (hco : ∀ r ∈ rs, Int.gcd r.1 r.2 = 1) {g : Nat} (h1 : g ∣ cden rs) (h2 : ∀ n ∈ cnum rs, (g : Int) ∣ n) : g = 1 := by
  have hL := cden_pos hpos
  obtain ⟨m, hm⟩ := h1
  have hg : 0 < g := by
    rcases Nat.eq_zero_or_pos g with z | z
    · rw [z, Nat.zero_mul] at hm
      omega
    · exact z
  have hmp : 0 < m := by
    rcases Nat.eq_zero_or_pos m with z | z
    · rw [z, Nat.mul_zero] at hm
      omega
    · exact z
  have key : cden rs ∣ m := cden_least fun r hr => by
    have hd := cden_dvd hr
    have d0 := hpos r hr
    have co := hco r hr
    have hn : (g : Int) ∣ r.1 * ((cden rs : Int) / r.2) := h2 _ (List.mem_map_of_mem hr)
    obtain ⟨k, hk⟩ := hd
    have hrd : r.2 = (r.2.natAbs : Int) := by omega
    have hq : (cden rs : Int) / r.2 = (k : Int) := by
      rw [hk, hrd]
      push_cast
      rw [Int.natAbs_natCast]
      exact Int.mul_ediv_cancel_left _ (by omega)
    rw [hq] at hn
    have hn2 : g ∣ r.1.natAbs * k := by
      have := Int.natAbs_dvd_natAbs.mpr hn
      rw [Int.natAbs_natCast, Int.natAbs_mul, Int.natAbs_natCast] at this
      exact this
    have hn3 : g ∣ r.2.natAbs * k := by rw [← hk]; exact ⟨m, hm⟩
    have hgk : g ∣ k := by
      have := Nat.dvd_gcd hn2 hn3
      rw [Nat.gcd_mul_right] at this
      have e : Nat.gcd r.1.natAbs r.2.natAbs = 1 := co
      rw [e, Nat.one_mul] at this
      exact this
    obtain ⟨j, hj⟩ := hgk
    refine ⟨j, ?_⟩
    have : g * m = g * (r.2.natAbs * j) := by rw [← hm, hk, hj]; ac_rfl
    exact Nat.eq_of_mul_eq_mul_left hg this
  have := Nat.le_of_dvd hmp key
  rw [hm] at this
  rcases Nat.lt_or_ge 1 g with z | z
  · exfalso
    have : 2 * m ≤ g * m := Nat.mul_le_mul_right _ z
    omega
  · omega
theorem cnum_len (rs : List (Int × Int)) : (cnum rs).length = rs.length := by unfold cnum; rw [List.length_map]
theorem cnum_at {rs : List (Int × Int)} {i : Nat} {r : Int × Int} (h : rs[i]? = some r) : (cnum rs)[i]? = some (r.1 * ((cden rs : Int) / r.2)) := by
  unfold cnum
  rw [List.getElem?_map, h]
  rfl
theorem cnum_mul {rs : List (Int × Int)} {r : Int × Int} (h : r ∈ rs) : r.1 * ((cden rs : Int) / r.2) * r.2 = r.1 * (cden rs : Int) := by
  have : r.2 ∣ (cden rs : Int) := Int.natAbs_dvd_natAbs.mp (by rw [Int.natAbs_natCast]; exact cden_dvd h)
  rw [Int.mul_assoc, Int.ediv_mul_cancel this]
end Gx

set_option Elab.async false
set_option linter.all false
set_option maxRecDepth 100000
set_option maxHeartbeats 4000000
/-! Own lemmas: texts, sign by sign; numbers as texts. -/
namespace Gx
open PySem PySem.Spec PyProof.Rows L2
section
variable {X : Cx} {σ : L2.St} {H H1 : Hp} {Q : VK} {K : PySem.W.Frag}
def qInC : R2 := fun x y H Q => ∃ (c : Nat) (z : Str), x = .str ⟨#[c]⟩ ∧ y = .str z ∧ Q (.bl (decide (c ∈ z.cps.toList))) H
theorem o_in_sign : OpR X (compareOp .In) qInC := op_in_sign
theorem go_inC {c : Nat} {z : Str} (h : Q (.bl (decide (c ∈ z.cps.toList))) H) : qInC (.str (S [c])) (.str z) H Q := ⟨c, z, rfl, rfl, h⟩
def qNiC : R2 := fun x y H Q => ∃ (c : Nat) (z : Str), x = .str ⟨#[c]⟩ ∧ y = .str z ∧ Q (.bl (!decide (c ∈ z.cps.toList))) H
theorem o_notIn_sign : OpR X (compareOp .NotIn) qNiC := op_notIn_sign
theorem go_niC {c : Nat} {z : Str} (h : Q (.bl (!decide (c ∈ z.cps.toList))) H) : qNiC (.str (S [c])) (.str z) H Q := ⟨c, z, rfl, rfl, h⟩
def qIntStr : List V → Hp → VK → Prop := fun xs H Q => ∃ a n, xs = [.str a] ∧ PySem.intText? a = some n ∧ a.length ≤ 640 ∧ Q (.int n) H
theorem k_int_str : CallR X (.type "int") qIntStr := call_int_str
theorem go_intStr {a : Str} {n : Int} (e : PySem.intText? a = some n) (hl : a.length ≤ 640) (h : Q (.int n) H) : qIntStr [.str a] H Q := ⟨a, n, rfl, e, hl, h⟩
theorem go_intDigits {a : Str} (h : NumText.AllDigits a.cps.toList) (h1 : a.cps.toList ≠ []) (hl : a.length ≤ 640) (q : Q (.int ((NumText.digitsVal a.cps.toList : Nat) : Int)) H) : qIntStr [.str a] H Q :=
  go_intStr (intText_digits h h1 (by omega)) hl q
theorem len_toList (z : Str) : z.length = z.cps.toList.length := by simp [Str.length]
/-- the sign at a place -/
theorem atS_get {z : Str} {k : Nat} {c : Nat} (h : z.cps.toList[k]? = some c) : atI z.cps.toList (k : Int) = some c := atI_nat h
/-- for c in x -/
theorem foX {D : Ends} {tb : TS} {g : TG} (x : Str) (Pv : Nat → L2.St → Hp → Prop) (h0 : Pv 0 σ H1)
    (hs : ∀ i c σ H, x.cps.toList[i]? = some c → Pv i σ H → g (.str (S [c])) σ H fun σ2 H2 => tb { D with nx := Pv (i + 1), ct := Pv (i + 1), bk := D.nx } σ2 H2) (hd : ∀ σ H, Pv x.cps.toList.length σ H → D.nx σ H) :
    ∃ y, V.str x = .str y ∧ ∃ W : Nat → Nat → L2.St → Hp → Prop, (∃ m, W 0 m σ H1) ∧ ∀ i m σ H, W i m σ H →
      ((Its y).stop i H ∧ D.nx σ H) ∨ ((Its y).go i H ∧ ∃ N : L2.St → Hp → Prop, (∀ σ' H', N σ' H' → ∃ m', m' < m ∧ W (i + 1) m' σ' H') ∧ ∀ x2 H', (Its y).yld i H x2 H' → g x2 σ H' fun σ2 H2 => tb { D with nx := N, ct := N, bk := D.nx } σ2 H2) :=
  foS (x.cps.toList) Pv h0 hs hd
/-- an item of a written list at an int -/
theorem at_pick {xs : List V} {k : Int} (h0 : 0 ≤ k) (h : k < xs.length) : ∃ v, v ∈ xs ∧ atI xs k = some v := by
  have e : k = (k.toNat : Int) := by omega
  have h2 : k.toNat < xs.length := by omega
  rw [e]
  exact ⟨xs[k.toNat], List.getElem_mem h2, atI_nat (List.getElem?_eq_getElem h2)⟩
theorem at_pick2 {P : V → Prop} {xs : List V} {k : Int} (h0 : 0 ≤ k) (h : k < xs.length) (hp : ∀ v ∈ xs, P v) : ∃ v, P v ∧ atI xs k = some v := by
  obtain ⟨v, hm, e⟩ := at_pick h0 h
  exact ⟨v, hp v hm, e⟩
/-- one sign against another -/
theorem lt_sign (a b : Nat) : decide ((S [a]).cps.toList < (S [b]).cps.toList) = decide (a < b) := by
  show decide ([a] < [b]) = _
  by_cases h : a < b
  · rw [decide_eq_true h, decide_eq_true (by exact List.Lex.rel h)]
  · rw [decide_eq_false h, decide_eq_false]
    intro z
    cases z with
    | rel z => exact h z
    | cons z => cases z
/-- a text in a list of texts -/
theorem inV_str (x : Str) : ∀ ks : List Str, inV (.str x) (ks.map V.str) = ks.any (fun k => k == x)
  | [] => rfl
  | k :: r => by
    have := inV_str x r
    unfold inV at this ⊢
    rw [List.map_cons, List.any_cons, List.any_cons, this]
    rfl
theorem flat_strs (ks : List Str) : (ks.map V.str).all flatV = true := by
  rw [List.all_map, List.all_eq_true]
  intro k _
  rfl
theorem str_one (x : Str) (h : x.length = 1) : ∃ c, x = S [c] := by
  have : x.cps.toList.length = 1 := by rw [← len_toList]; exact h
  obtain ⟨c, hc⟩ := List.length_eq_one_iff.mp this
  exact ⟨c, by rw [← hc]⟩
end
/-! ### digits -/
theorem snocRec {α : Type} {P : List α → Prop} (nil : P []) (append_singleton : ∀ l a, P l → P (l ++ [a])) (l : List α) : P l := by
  have h : ∀ r : List α, P r.reverse := fun r => by
    induction r with
    | nil => exact nil
    | cons a r ih => rw [List.reverse_cons]; exact append_singleton _ _ ih
  have := h l.reverse
  rw [List.reverse_reverse] at this
  exact this
def isDig (c : Nat) : Bool := decide (48 ≤ c ∧ c ≤ 57)
theorem allDig {cs : List Nat} (h : cs.all isDig = true) : NumText.AllDigits cs := fun c hc => by
  have := List.all_eq_true.mp h c hc
  simpa [isDig] using this
theorem numL_dig (n : Nat) : (TL.numL n).all isDig = true := List.all_eq_true.mpr fun c hc => by
  have := TL.numL_digits n c hc
  simpa [isDig] using this
theorem digitsVal_snoc (cs : List Nat) (c : Nat) : NumText.digitsVal (cs ++ [c]) = NumText.digitsVal cs * 10 + (c - 48) := by
  unfold NumText.digitsVal
  rw [List.foldl_append]
  rfl
/-- a number's first sign -/
theorem numL_head : ∀ {n : Nat}, 0 < n → ∃ c r, TL.numL n = c :: r ∧ 49 ≤ c := by
  intro n
  induction n using Nat.strongRecOn with
  | _ n ih =>
    intro h0
    by_cases h : n < 10
    · exact ⟨48 + n, [], TL.numL_lt h, by omega⟩
    · obtain ⟨c, r, e, hc⟩ := ih (n / 10) (by omega) (by omega)
      refine ⟨c, r ++ [48 + n % 10], ?_, hc⟩
      rw [TL.numL_step (by omega), e]
      rfl
theorem val_zero_all : ∀ cs : List Nat, NumText.AllDigits cs → NumText.digitsVal cs = 0 → ∀ c ∈ cs, c = 48 := by
  intro cs
  induction cs using snocRec with
  | nil => intro _ _ c hc; cases hc
  | append_singleton l d ih =>
    intro h e c hc
    rw [digitsVal_snoc] at e
    have hd := h d (by simp)
    have h2 : NumText.AllDigits l := fun c hc => h c (List.mem_append_left _ hc)
    rcases List.mem_append.mp hc with hc | hc
    · exact ih h2 (by omega) c hc
    · rw [List.mem_singleton.mp hc]; omega
/-- digits without a zero ahead are the number's own -/
theorem numL_canon : ∀ cs : List Nat, NumText.AllDigits cs → cs ≠ [] → (∀ r, cs = 48 :: r → r = []) → TL.numL (NumText.digitsVal cs) = cs := by
  intro cs
  induction cs using snocRec with
  | nil => intro _ h; exact absurd rfl h
  | append_singleton l d ih =>
    intro h _ hz
    have hd := h d (by simp)
    have h2 : NumText.AllDigits l := fun c hc => h c (List.mem_append_left _ hc)
    rw [digitsVal_snoc]
    cases l with
    | nil =>
      show TL.numL (0 * 10 + (d - 48)) = [d]
      rw [TL.numL_lt (by omega)]
      congr 1
      omega
    | cons c r =>
      have hc := h2 c (by simp)
      have hc0 : c ≠ 48 := fun e => by
        subst e
        have := hz (r ++ [d]) rfl
        simp at this
      have e := ih h2 (by simp) (fun r' e' => by cases e'; exact absurd rfl hc0)
      have hp : 0 < NumText.digitsVal (c :: r) := by
        rcases Nat.eq_zero_or_pos (NumText.digitsVal (c :: r)) with z | z
        · exact absurd (val_zero_all _ h2 z c (by simp)) hc0
        · exact z
      rw [TL.numL_step (by omega)]
      have e1 : (NumText.digitsVal (c :: r) * 10 + (d - 48)) / 10 = NumText.digitsVal (c :: r) := by omega
      have e2 : 48 + (NumText.digitsVal (c :: r) * 10 + (d - 48)) % 10 = d := by omega
      rw [e1, e2, e]
theorem numL_iff {cs : List Nat} (h : NumText.AllDigits cs) : TL.numL (NumText.digitsVal cs) = cs ↔ cs ≠ [] ∧ ∀ r, cs = 48 :: r → r = [] := by
  constructor
  · intro e
    refine ⟨fun z => ?_, fun r er => ?_⟩
    · rw [z] at e
      exact TL.numL_ne _ e
    · rcases Nat.eq_zero_or_pos (NumText.digitsVal cs) with z | z
      · rw [z, er] at e
        have : TL.numL 0 = [48] := TL.numL_lt (by decide)
        rw [this] at e
        injection e with _ e
        exact e.symm
      · obtain ⟨c, r', e', hc⟩ := numL_head z
        rw [e, er] at e'
        injection e' with e1 _
        omega
  · rintro ⟨h1, h2⟩
    exact numL_canon cs h h1 h2
theorem val_lt : ∀ cs : List Nat, NumText.AllDigits cs → NumText.digitsVal cs < 10 ^ cs.length := by
  intro cs
  induction cs using snocRec with
  | nil => intro _; decide
  | append_singleton l d ih =>
    intro h
    have hd := h d (by simp)
    have := ih fun c hc => h c (List.mem_append_left _ hc)
    rw [digitsVal_snoc, List.length_append, List.length_singleton, Nat.pow_succ]
    omega
end Gx

set_option Elab.async false
set_option linter.all false
set_option maxRecDepth 100000
set_option maxHeartbeats 4000000
/-! Own lemmas: data at any depth (Dp), tuples joined and cut, a range with a step, a list turned round. -/
namespace Gx
open PySem PySem.Spec PyProof.Rows L2
section
variable {K : PySem.W.Frag} {H H' : Hp}
mutual
theorem dp_same (s : Same H H') : ∀ (d : PyData) (v : V), Dp K H v d → Dp K H' v d
  | .none, _, h => by cases h; exact .non
  | .bool b, _, h => by cases h; exact .bl b
  | .int i, _, h => by cases h; exact .int i
  | .str x, _, h => by cases h; exact .str x
  | .list ds, _, h => by
    cases h with
    | lst hs ha => exact .lst (Same.seq s hs) (dpAll_same s ds _ ha)
  | .tuple ds, _, h => by
    cases h with
    | tup hs ha => exact .tup (same_sqT s hs) (dpAll_same s ds _ ha)
  | .dict _, _, h => by cases h
theorem dpAll_same (s : Same H H') : ∀ (ds : List PyData) (vs : List V), DpAll K H vs ds → DpAll K H' vs ds
  | [], _, h => by cases h; exact .nil
  | d :: ds, _, h => by
    cases h with
    | cons h1 h2 => exact .cons (dp_same s d _ h1) (dpAll_same s ds _ h2)
end
theorem dpAll_len : ∀ {ds : List PyData} {vs : List V}, DpAll K H vs ds → vs.length = ds.length
  | [], _, h => by cases h; rfl
  | d :: ds, _, h => by
    cases h with
    | cons h1 h2 => simp [dpAll_len h2]
theorem dpAll_get : ∀ {ds : List PyData} {vs : List V} {i : Nat} {d : PyData}, DpAll K H vs ds → ds[i]? = some d → ∃ v, vs[i]? = some v ∧ Dp K H v d
  | [], _, i, d, _, e => by simp at e
  | d :: ds, _, 0, d', h, e => by
    cases h with
    | cons h1 h2 =>
      simp at e
      subst e
      exact ⟨_, rfl, h1⟩
  | d :: ds, _, i + 1, d', h, e => by
    cases h with
    | cons h1 h2 =>
      simp at e
      obtain ⟨v, e2, h3⟩ := dpAll_get h2 e
      exact ⟨v, by simpa using e2, h3⟩
theorem dpAll_last {K : PySem.W.Frag} {H : Hp} {ds : List PyData} {vs : List V} {v : V} (h : DpAll K H vs ds) (e : vs.getLast? = some v) : ∃ d, ds.getLast? = some d ∧ Dp K H v d := by
  have hl := dpAll_len h
  rw [List.getLast?_eq_getElem?] at e
  have hlt := (List.getElem?_eq_some_iff.mp e).1
  obtain ⟨d, ed⟩ : ∃ d, ds[ds.length - 1]? = some d := ⟨_, List.getElem?_eq_getElem (by omega)⟩
  obtain ⟨v2, e2, h2⟩ := dpAll_get h ed
  rw [← hl, e] at e2
  cases e2
  exact ⟨d, by rw [List.getLast?_eq_getElem?]; exact ed, h2⟩
theorem dpAll_append : ∀ {ds es : List PyData} {vs us : List V}, DpAll K H vs ds → DpAll K H us es → DpAll K H (vs ++ us) (ds ++ es)
  | [], es, _, us, h, k => by cases h; exact k
  | d :: ds, es, _, us, h, k => by
    cases h with
    | cons h1 h2 => exact .cons h1 (dpAll_append h2 k)
theorem dpAll_take : ∀ {ds : List PyData} {vs : List V} (n : Nat), DpAll K H vs ds → DpAll K H (vs.take n) (ds.take n)
  | [], _, n, h => by cases h; simp; exact .nil
  | d :: ds, _, 0, h => by simp; exact .nil
  | d :: ds, _, n + 1, h => by
    cases h with
    | cons h1 h2 => exact .cons h1 (dpAll_take n h2)
theorem dpAll_reverse : ∀ {ds : List PyData} {vs : List V}, DpAll K H vs ds → DpAll K H vs.reverse ds.reverse
  | [], _, h => by cases h; exact .nil
  | d :: ds, _, h => by
    cases h with
    | cons h1 h2 =>
      rw [List.reverse_cons, List.reverse_cons]
      exact dpAll_append (dpAll_reverse h2) (.cons h1 .nil)
/-! data without lists: they outlast what is stored into a list -/
mutual
def noL : PyData → Bool
  | .list _ => false
  | .dict _ => false
  | .tuple xs => noLAll xs
  | _ => true
def noLAll : List PyData → Bool
  | [] => true
  | d :: ds => noL d && noLAll ds
end
theorem sqT_put {l a : Addr} {ys zs xs : List V} (hl : H l = some (.lst ys)) (h : SqT K H a xs) : SqT K (upd H l (.lst zs)) a xs := by
  have ne : ∀ {o : HO}, H a = some o → o ≠ .lst ys → a ≠ l := fun e n z => by
    rw [z, hl] at e
    exact n (Option.some.inj e).symm
  rcases h with (h | ⟨o, h⟩) | h
  · exact .inl (.inl (by rw [upd_ne (ne h (fun z => by cases z))]; exact h))
  · exact .inl (.inr ⟨o, by rw [upd_ne (ne h (fun z => by cases z))]; exact h⟩)
  · exact .inr h
mutual
theorem dp_put {l : Addr} {ys zs : List V} (hl : H l = some (.lst ys)) : ∀ (d : PyData) (v : V), noL d = true → Dp K H v d → Dp K (upd H l (.lst zs)) v d
  | .none, _, _, h => by cases h; exact .non
  | .bool b, _, _, h => by cases h; exact .bl b
  | .int i, _, _, h => by cases h; exact .int i
  | .str x, _, _, h => by cases h; exact .str x
  | .list ds, _, n, _ => by simp [noL] at n
  | .tuple ds, _, n, h => by
    cases h with
    | tup hs ha => exact .tup (sqT_put hl hs) (dpAll_put hl ds _ (by simpa [noL] using n) ha)
  | .dict _, _, n, _ => by simp [noL] at n
theorem dpAll_put {l : Addr} {ys zs : List V} (hl : H l = some (.lst ys)) : ∀ (ds : List PyData) (vs : List V), noLAll ds = true → DpAll K H vs ds → DpAll K (upd H l (.lst zs)) vs ds
  | [], _, _, h => by cases h; exact .nil
  | d :: ds, _, n, h => by
    have n' : noL d = true ∧ noLAll ds = true := by simpa [noLAll] using n
    cases h with
    | cons h1 h2 => exact .cons (dp_put hl d _ n'.1 h1) (dpAll_put hl ds _ n'.2 h2)
end
theorem noL_all : ∀ {ds : List PyData}, (∀ d ∈ ds, noL d = true) → noLAll ds = true
  | [], _ => rfl
  | d :: ds, h => by
    show (noL d && noLAll ds) = true
    rw [h d (List.mem_cons_self ..), noL_all fun x hx => h x (List.mem_cons_of_mem _ hx)]
    rfl
theorem dp_tup {v : V} {ds : List PyData} (h : Dp K H v (.tuple ds)) : ∃ a xs, v = .ref a ∧ SqT K H a xs ∧ DpAll K H xs ds := by
  cases h with
  | tup hs ha => exact ⟨_, _, rfl, hs, ha⟩
variable {Q : VK} {R : L2.St → Hp → Prop}
theorem go_catA {a b : Addr} {xs ys : List V} (h1 : SqT K H a xs) (h2 : SqT K H b ys) (hz : xs.length + ys.length ≤ 100000) (hy : ys ≠ [])
    (q : ∀ p H', Same H H' → SqT K H' p (xs ++ ys) → Q (.ref p) H') : rCatA K (.ref a) (.ref b) H Q := by
  refine ⟨a, b, xs, ys, rfl, rfl, h1, h2, Nat.le_trans hz (by rw [sizeLine_eq]; decide), fun e => ?_, fun _ e => absurd e hy, fun _ _ p hp => ?_⟩
  · subst e
    exact q b H (Same.refl _) h2
  · exact q p _ (fun c o hc => by rw [upd_ne (ne_of_none hc hp)]; exact hc) (.inl (.inl upd_same))
theorem go_slTo {a : Addr} {xs : List V} {k : Nat} (h : SqT K H a xs) (hk : k ≤ xs.length) (q : ∀ p H', Same H H' → SqT K H' p (xs.take k) → Q (.ref p) H') : rSlA K (.ref a) none (some (k : Int)) H Q := by
  refine ⟨a, xs, rfl, h, fun e => ?_, fun _ p hp => ?_⟩
  · have e2 := e.2
    rw [HT.sIx_nat] at e2
    have : xs.take k = xs := List.take_of_length_le (by omega)
    exact q a H (Same.refl _) (by rw [this]; exact h)
  · have e : cutV xs none (some (k : Int)) = xs.take k := by
      unfold cutV
      rw [HT.sIx_none, HT.sIx_nat]
      simp
    exact q p _ (fun c o hc => by rw [upd_ne (ne_of_none hc hp)]; exact hc) (.inl (.inl (by rw [upd_same, e])))
theorem go_eqD {x y : V} {d : PyData} (h1 : Dp K H x d) (h2 : Dp K H y d) (hs : SeqAt.shaped d = true) (q : Q (.bl true) H) : rEqD K x y H Q :=
  ⟨d, d, h1, h2, hs, hs, by rw [SeqAt.eqv_refl d (SeqAt.canLay_of_shaped hs)]; exact q⟩
theorem go_neD {x y : V} {d : PyData} (h1 : Dp K H x d) (h2 : Dp K H y d) (hs : SeqAt.shaped d = true) (q : Q (.bl false) H) : rNeD K x y H Q :=
  ⟨d, d, h1, h2, hs, hs, by rw [SeqAt.eqv_refl d (SeqAt.canLay_of_shaped hs)]; exact q⟩
theorem at_0 {x : V} {l : List V} : atI (x :: l) 0 = some x := at_nat (xs := x :: l) (i := 0) rfl
theorem at_1 {x y : V} {l : List V} : atI (x :: y :: l) 1 = some y := at_nat (xs := x :: y :: l) (i := 1) rfl
theorem at_2 {x y z : V} {l : List V} : atI (x :: y :: z :: l) 2 = some z := at_nat (xs := x :: y :: z :: l) (i := 2) rfl
theorem at_last {xs : List V} (h : xs ≠ []) : atI xs (-1) = xs.getLast? := by
  have hl : 0 < xs.length := List.length_pos_iff.mpr h
  have e : ixN xs.length (-1) = some (xs.length - 1) := by
    unfold ixN
    rw [if_neg (by decide), if_pos (by omega)]
    congr 1
    omega
  unfold atI
  rw [e, Option.bind_some, List.getLast?_eq_getElem?]
theorem go_iRng3 {σ : L2.St} {ta : TA} {R : It → Hp → Prop} (h : ta σ H fun vs H1 => ∃ (i j c : Int) (n : Nat), vs = [.int i, .int j, .int c] ∧ RgC i j c n ∧ R (Itc i c n) H1) : iRng3 ta σ H R := h
/-- for i in range(n - 1, -1, -1) -/
theorem foRdn {σ : L2.St} {D : Ends} {g : TG} {tb : TS} {n : Nat} (Pv : Nat → L2.St → Hp → Prop) (hn : n ≤ 1000000) (h0 : Pv 0 σ H)
    (hs : ∀ (i : Nat) σ H, i < n → Pv i σ H → g (.int ((n - 1 - i : Nat) : Int)) σ H fun σ2 H2 => tb { D with nx := Pv (i + 1), ct := Pv (i + 1), bk := D.nx } σ2 H2) (hd : ∀ σ H, Pv n σ H → D.nx σ H) :
    ∃ (i j c : Int) (k : Nat), [V.int ((n : Int) - 1), .int (-1), .int (-1)] = [.int i, .int j, .int c] ∧ RgC i j c k ∧ ∃ W : Nat → Nat → L2.St → Hp → Prop, (∃ m, W 0 m σ H) ∧ ∀ i' m σ H, W i' m σ H →
      ((Itc i c k).stop i' H ∧ D.nx σ H) ∨ ((Itc i c k).go i' H ∧ ∃ N : L2.St → Hp → Prop, (∀ σ' H', N σ' H' → ∃ m', m' < m ∧ W (i' + 1) m' σ' H') ∧ ∀ x H', (Itc i c k).yld i' H x H' → g x σ H' fun σ2 H2 => tb { D with nx := N, ct := N, bk := D.nx } σ2 H2) := by
  have r := RgC.neg (i := (n : Int) - 1) (j := -1) (by omega) (by omega) (by omega) (by omega)
  have e : ((n : Int) - 1 - -1).toNat = n := by omega
  rw [e] at r
  refine ⟨_, _, _, n, rfl, r, for_rangeC Pv h0 (fun i σ H hi p => ?_) hd⟩
  have e2 : (n : Int) - 1 + (i : Nat) * (-1) = ((n - 1 - i : Nat) : Int) := by omega
  rw [e2]
  exact hs i σ H hi p
/-- t + ((..),): a view with one more item -/
theorem add_dp {vw p p2 : Addr} {xs : List V} {ds es : List PyData} (hv : Dp K H (.ref vw) (.tuple ds)) (hp : H p = none) (hp2 : upd H p (.tup xs) p2 = none) (hx : ∀ H', DpAll K H' xs es) (hl : ds.length ≤ 1000)
    (q : ∀ p3 H3, Same H H3 → Dp K H3 (.ref p3) (.tuple (ds ++ [.tuple es])) → Q (.ref p3) H3) : rCatA K (.ref vw) (.ref p2) (upd (upd H p (.tup xs)) p2 (.tup [.ref p])) Q := by
  obtain ⟨a, ys, e, h1, h2⟩ := dp_tup hv
  cases e
  have s1 : Same H (upd (upd H p (.tup xs)) p2 (.tup [.ref p])) := fun c o hc => by
    have h3 : upd H p (.tup xs) c = some o := by rw [upd_ne (ne_of_none hc hp)]; exact hc
    rw [upd_ne (ne_of_none h3 hp2)]
    exact h3
  have hpp : upd (upd H p (.tup xs)) p2 (.tup [.ref p]) p = some (.tup xs) := by
    have h3 : upd H p (.tup xs) p = some (.tup xs) := upd_same
    rw [upd_ne (ne_of_none h3 hp2)]
    exact h3
  have hlen := dpAll_len h2
  refine go_catA (same_sqT s1 h1) (.inl (.inl upd_same)) (by simp; omega) (by simp) fun p3 H3 s3 e3 => ?_
  refine q p3 H3 (s1.trans s3) (.tup e3 (dpAll_append (dpAll_same (s1.trans s3) _ _ h2) (.cons (.tup (.inl (.inl (s3 _ _ hpp))) (hx H3)) .nil)))
theorem go_revL {te : TE} {σ : L2.St} (h : te σ H fun x H1 => ∃ a xs, x = .ref a ∧ SqL K H1 a xs ∧ ∀ p, H1 p = none → Q (.ref p) (upd H1 p (.lst xs.reverse))) : tRevL K te σ H Q := h
end
end Gx

set_option Elab.async false
set_option linter.all false
set_option maxRecDepth 100000
set_option maxHeartbeats 4000000
/-! Own lemmas: what stands while one list is written. -/
namespace Gx
open PySem PySem.Spec PyProof.Rows L2
theorem PairsAt.but {q : Addr} {H H' : Hp} {zs xs : List V} {ts : List (Int × Int)} (h : PairsAt H xs ts) (e : H q = some (.lst zs)) (B : But q H H') : PairsAt H' xs ts :=
  ⟨h.1, fun i x r a b => let ⟨p, e1, k⟩ := h.2 i x r a b; ⟨p, e1, B _ _ (ne_of k e (by intro z; cases z)) k⟩⟩
theorem Pool.but {p : Pl} {b : Int} {q : Addr} {H H' : Hp} (h : Pool H p b) (B : But q H H') (n1 : q ≠ p.a) (n2 : q ≠ p.l) : Pool H' p b := by
  obtain ⟨p1, p2, p3, p4, e, k⟩ := h.ex
  exact ⟨⟨p1, p2, p3, p4, B _ _ n1.symm e, k⟩, B _ _ n2.symm h.li, h.ne⟩
end Gx

set_option Elab.async false
set_option linter.all false
set_option maxRecDepth 100000
set_option maxHeartbeats 4000000
/-! Own lemmas: data while one list is written; dicts of texts; expressions. -/
namespace Gx
open PySem PySem.Spec PyProof.Rows L2
section
variable {K : PySem.W.Frag} {H H' : Hp}
theorem sqT_but {l a : Addr} {ys xs : List V} (hl : H l = some (.lst ys)) (B : But l H H') (h : SqT K H a xs) : SqT K H' a xs := by
  have ne : ∀ {o : HO}, H a = some o → o ≠ .lst ys → a ≠ l := fun e n z => by
    rw [z, hl] at e
    exact n (Option.some.inj e).symm
  rcases h with (h | ⟨o, h⟩) | h
  · exact .inl (.inl (B _ _ (ne h (fun z => by cases z)) h))
  · exact .inl (.inr ⟨o, B _ _ (ne h (fun z => by cases z)) h⟩)
  · exact .inr h
mutual
theorem dp_but {l : Addr} {ys : List V} (hl : H l = some (.lst ys)) (B : But l H H') : ∀ (d : PyData) (v : V), noL d = true → Dp K H v d → Dp K H' v d
  | .none, _, _, h => by cases h; exact .non
  | .bool b, _, _, h => by cases h; exact .bl b
  | .int i, _, _, h => by cases h; exact .int i
  | .str x, _, _, h => by cases h; exact .str x
  | .list ds, _, n, _ => by simp [noL] at n
  | .tuple ds, _, n, h => by
    cases h with
    | tup hs ha => exact .tup (sqT_but hl B hs) (dpAll_but hl B ds _ (by simpa [noL] using n) ha)
  | .dict _, _, n, _ => by simp [noL] at n
theorem dpAll_but {l : Addr} {ys : List V} (hl : H l = some (.lst ys)) (B : But l H H') : ∀ (ds : List PyData) (vs : List V), noLAll ds = true → DpAll K H vs ds → DpAll K H' vs ds
  | [], _, _, h => by cases h; exact .nil
  | d :: ds, _, n, h => by
    have n' : noL d = true ∧ noLAll ds = true := by simpa [noLAll] using n
    cases h with
    | cons h1 h2 => exact .cons (dp_but hl B d _ n'.1 h1) (dpAll_but hl B ds _ n'.2 h2)
end
theorem Turn.dp {p : Pl} {b b0 : Int} {d : PyData} {v : V} (t : Turn p b H H') (hp : Pool H p b0) (n : noL d = true) (h : Dp K H v d) : Dp K H' v d := by
  obtain ⟨zs, ez⟩ := hp.there
  exact dp_but ez t.but d v n h
theorem Turn.sqT {p : Pl} {b b0 : Int} {a : Addr} {xs : List V} (t : Turn p b H H') (hp : Pool H p b0) (h : SqT K H a xs) : SqT K H' a xs := by
  obtain ⟨zs, ez⟩ := hp.there
  exact sqT_but ez t.but h
/-! how deep data are -/
mutual
def dDeep : PyData → Nat
  | .list ds => dDeepAll ds + 1
  | .tuple ds => dDeepAll ds + 1
  | _ => 0
def dDeepAll : List PyData → Nat
  | [] => 0
  | d :: ds => max (dDeep d) (dDeepAll ds)
end
mutual
def noDict : PyData → Bool
  | .dict _ => false
  | .list ds => noDictAll ds
  | .tuple ds => noDictAll ds
  | _ => true
def noDictAll : List PyData → Bool
  | [] => true
  | d :: ds => noDict d && noDictAll ds
end
mutual
def small : PyData → Bool
  | .list ds => decide (ds.length ≤ 100000) && smallAll ds
  | .tuple ds => decide (ds.length ≤ 100000) && smallAll ds
  | .dict _ => false
  | _ => true
def smallAll : List PyData → Bool
  | [] => true
  | d :: ds => small d && smallAll ds
end
theorem small_at : ∀ {ds : List PyData} {i : Nat} {d : PyData}, smallAll ds = true → ds[i]? = some d → small d = true
  | [], _, _, _, h => by cases h
  | e :: ds, 0, d, s, h => by
    cases h
    have : small e = true ∧ smallAll ds = true := by simpa [smallAll] using s
    exact this.1
  | e :: ds, i + 1, d, s, h => by
    have : small e = true ∧ smallAll ds = true := by simpa [smallAll] using s
    exact small_at this.2 (by simpa using h)
theorem deep_at : ∀ {ds : List PyData} {i : Nat} {d : PyData}, ds[i]? = some d → dDeep d ≤ dDeepAll ds
  | [], _, _, h => by cases h
  | e :: ds, 0, d, h => by cases h; exact Nat.le_max_left _ _
  | e :: ds, i + 1, d, h => Nat.le_trans (deep_at (ds := ds) (i := i) (by simpa using h)) (Nat.le_max_right _ _)
theorem eqd_of : ∀ (n : Nat) (d : PyData) (x y : V), dDeep d ≤ n → small d = true → Dp K H x d → Dp K H y d → Eqd K H n x y
  | n, .none, _, _, _, _, h, k => by cases h; cases k; exact .non
  | n, .bool b, _, _, _, _, h, k => by cases h; cases k; exact .bl b
  | n, .int i, _, _, _, _, h, k => by cases h; cases k; exact .int i
  | n, .str z, _, _, _, _, h, k => by cases h; cases k; exact .str z
  | n, .dict _, _, _, _, s, _, _ => by simp [small] at s
  | 0, .list ds, _, _, hd, _, _, _ => by simp [dDeep] at hd
  | 0, .tuple ds, _, _, hd, _, _, _ => by simp [dDeep] at hd
  | n + 1, .list ds, _, _, hd, s, h, k => by
    have s2 : ds.length ≤ 100000 ∧ smallAll ds = true := by simpa [small] using s
    have hd2 : dDeepAll ds ≤ n := by simpa [dDeep] using hd
    cases h with
    | lst h1 h2 =>
      cases k with
      | lst k1 k2 =>
        have l1 := dpAll_len h2
        have l2 := dpAll_len k2
        refine .lst h1 k1 (by omega) (by omega) fun i x y hx hy => ?_
        have hi := (List.getElem?_eq_some_iff.mp hx).1
        have e : ds[i]? = some ds[i] := List.getElem?_eq_getElem (by omega)
        obtain ⟨x', e1, d1⟩ := dpAll_get h2 e
        obtain ⟨y', e2, d2⟩ := dpAll_get k2 e
        rw [hx] at e1
        rw [hy] at e2
        cases e1
        cases e2
        exact eqd_of n _ _ _ (Nat.le_trans (deep_at e) hd2) (small_at s2.2 e) d1 d2
  | n + 1, .tuple ds, _, _, hd, s, h, k => by
    have s2 : ds.length ≤ 100000 ∧ smallAll ds = true := by simpa [small] using s
    have hd2 : dDeepAll ds ≤ n := by simpa [dDeep] using hd
    cases h with
    | tup h1 h2 =>
      cases k with
      | tup k1 k2 =>
        have l1 := dpAll_len h2
        have l2 := dpAll_len k2
        refine .tup h1 k1 (by omega) (by omega) fun i x y hx hy => ?_
        have hi := (List.getElem?_eq_some_iff.mp hx).1
        have e : ds[i]? = some ds[i] := List.getElem?_eq_getElem (by omega)
        obtain ⟨x', e1, d1⟩ := dpAll_get h2 e
        obtain ⟨y', e2, d2⟩ := dpAll_get k2 e
        rw [hx] at e1
        rw [hy] at e2
        cases e1
        cases e2
        exact eqd_of n _ _ _ (Nat.le_trans (deep_at e) hd2) (small_at s2.2 e) d1 d2
end
theorem upd_id {H : Hp} {a : Addr} {o : HO} (e : H a = some o) : upd H a o = H := by
  funext b
  unfold upd
  split
  · rename_i h
    rw [h, e]
  · rfl
section
variable {K : PySem.W.Frag} {H H' : Hp}
theorem sqT_ext (ht : ∀ c xs, H c = some (.tup xs) → H' c = some (.tup xs)) (hf : ∀ c o u, H c = some (.frz o u) → H' c = some (.frz o u)) {a : Addr} {xs : List V} (h : SqT K H a xs) : SqT K H' a xs := by
  rcases h with (h | ⟨o, h⟩) | h
  · exact .inl (.inl (ht _ _ h))
  · exact .inl (.inr ⟨o, hf _ _ _ h⟩)
  · exact .inr h
mutual
theorem dp_ext (ht : ∀ c xs, H c = some (.tup xs) → H' c = some (.tup xs)) (hf : ∀ c o u, H c = some (.frz o u) → H' c = some (.frz o u)) : ∀ (d : PyData) (v : V), noL d = true → Dp K H v d → Dp K H' v d
  | .none, _, _, h => by cases h; exact .non
  | .bool b, _, _, h => by cases h; exact .bl b
  | .int i, _, _, h => by cases h; exact .int i
  | .str x, _, _, h => by cases h; exact .str x
  | .list ds, _, n, _ => by simp [noL] at n
  | .tuple ds, _, n, h => by
    cases h with
    | tup hs ha => exact .tup (sqT_ext ht hf hs) (dpAll_ext ht hf ds _ (by simpa [noL] using n) ha)
  | .dict _, _, n, _ => by simp [noL] at n
theorem dpAll_ext (ht : ∀ c xs, H c = some (.tup xs) → H' c = some (.tup xs)) (hf : ∀ c o u, H c = some (.frz o u) → H' c = some (.frz o u)) : ∀ (ds : List PyData) (vs : List V), noLAll ds = true → DpAll K H vs ds → DpAll K H' vs ds
  | [], _, _, h => by cases h; exact .nil
  | d :: ds, _, n, h => by
    have n' : noL d = true ∧ noLAll ds = true := by simpa [noLAll] using n
    cases h with
    | cons h1 h2 => exact .cons (dp_ext ht hf d _ n'.1 h1) (dpAll_ext ht hf ds _ n'.2 h2)
end
end
section
variable {K : PySem.W.Frag} {H H' : Hp}
/-- the script's list is not the new list at l, or it is a written one -/
theorem sqL_split {a l : Addr} {xs : List V} (h : SqL K H a xs) (n : H l = none) : a ≠ l ∨ ∀ H' : Hp, SqL K H' a xs := by
  rcases h with (h | ⟨o, h⟩) | h
  · exact .inl (ne_of_none h n)
  · exact .inl (ne_of_none h n)
  · exact .inr fun H' => .inr h
theorem sqL_but {a l : Addr} {xs : List V} (hA : a ≠ l ∨ ∀ H' : Hp, SqL K H' a xs) (B : But l H H') (h : SqL K H a xs) : SqL K H' a xs := by
  rcases hA with n | hA
  · rcases h with (h | ⟨o, h⟩) | h
    · exact .inl (.inl (B _ _ n h))
    · exact .inl (.inr ⟨o, B _ _ n h⟩)
    · exact .inr h
  · exact hA H'
theorem sqL_updK {a l : Addr} {xs : List V} {kvs kvs' : List (Key × V)} (e : H l = some (.dK kvs)) (h : SqL K H a xs) : SqL K (upd H l (.dK kvs')) a xs := by
  rcases h with (h | ⟨o, h⟩) | h
  · exact .inl (.inl (by rw [upd_ne (ne_of h e (by intro z; cases z))]; exact h))
  · exact .inl (.inr ⟨o, by rw [upd_ne (ne_of h e (by intro z; cases z))]; exact h⟩)
  · exact .inr h
theorem sqT_updK {a l : Addr} {xs : List V} {kvs kvs' : List (Key × V)} (e : H l = some (.dK kvs)) (h : SqT K H a xs) : SqT K (upd H l (.dK kvs')) a xs :=
  sqT_ext (fun c xs h => by rw [upd_ne (ne_of h e (by intro z; cases z))]; exact h) (fun c o u h => by rw [upd_ne (ne_of h e (by intro z; cases z))]; exact h) h
theorem dp_updK {l : Addr} {kvs kvs' : List (Key × V)} (e : H l = some (.dK kvs)) {d : PyData} {v : V} (n : noL d = true) (h : Dp K H v d) : Dp K (upd H l (.dK kvs')) v d :=
  dp_ext (fun c xs h => by rw [upd_ne (ne_of h e (by intro z; cases z))]; exact h) (fun c o u h => by rw [upd_ne (ne_of h e (by intro z; cases z))]; exact h) d v n h
end
/-! ### tests of written texts -/
theorem ite_df {a b : Str} {A B : Prop} (h : ¬ a = b) (k : B) : if decide (a = b) = true then A else B := by rw [decide_eq_false h]; exact k
theorem ite_ndt {a : Str} {A B : Prop} (k : B) : if (!decide (a = a)) = true then A else B := by rw [decide_eq_true rfl]; exact k
theorem ite_ndtI {a : Int} {A B : Prop} (k : B) : if (!decide (a = a)) = true then A else B := by rw [decide_eq_true rfl]; exact k
theorem ite_ndf {a b : Str} {A B : Prop} (h : ¬ a = b) (k : A) : if (!decide (a = b)) = true then A else B := by rw [decide_eq_false h]; exact k
/-! ### dicts of texts -/
section
variable {K : PySem.W.Frag} {σ : L2.St} {H H1 : Hp} {Q : VK} {td ty tv : TE} {D : Ends}
def qDGet (y : V) (Q : VK) (x : V) (H2 : Hp) : Prop := ∃ a v, x = .ref a ∧ DGet H2 a y (some v) ∧ Q v H2
theorem go_dget (h : td σ H fun x H1 => ty σ H1 fun y H2 => qDGet y Q x H2) : tDGet td ty σ H Q := h
theorem go_dgetS {a : Addr} {kvs : List (Key × V)} {k : Str} {v : V} (e : H a = some (.dK kvs)) (hv : valV kvs (.inr k) = some v) (h : Q v H) : qDGet (.str k) Q (.ref a) H :=
  ⟨a, v, rfl, by have g := DGet.k (k := Sum.inr k) e; rw [hv] at g; exact g, h⟩
def qDPut (y v : V) (D : Ends) (σ : L2.St) (x : V) (H3 : Hp) : Prop := ∃ a H4, x = .ref a ∧ DPut H3 a y v H4 ∧ D.nx σ H4
theorem go_dput (h : tv σ H fun v H1 => td σ H1 fun x H2 => ty σ H2 fun y H3 => qDPut y v D σ x H3) : sDPut td ty tv D σ H := h
theorem go_dputS {a : Addr} {kvs : List (Key × V)} {k : Str} {v : V} (e : H a = some (.dK kvs)) (hz : kvs.length ≤ 100000) (h : D.nx σ (upd H a (.dK (putK kvs (.inr k) v)))) : qDPut (.str k) v D σ (.ref a) H :=
  ⟨a, _, rfl, DPut.k (k := Sum.inr k) e (szlt hz), h⟩
theorem go_dnew (h : ∀ p, H p = none → Q (.ref p) (upd H p (.dK []))) : tDNewK σ H Q := h
theorem go_iTup {tl : TE} {R : It → Hp → Prop} (h : tl σ H fun x H1 => ∃ a, x = .ref a ∧ (∃ xs, SqT K H1 a xs) ∧ R (Itt K a) H1) : iTup K tl σ H R := h
/-- for x in a tuple, behind its reading -/
theorem foT {g : TG} {tb : TS} {a : Addr} (xs : List V) (Pv : Nat → L2.St → Hp → Prop) (h0 : Pv 0 σ H1) (hl : ∀ i σ H, i ≤ xs.length → Pv i σ H → SqT K H a xs)
    (hs : ∀ i x σ H, xs[i]? = some x → Pv i σ H → g x σ H fun σ2 H2 => tb { D with nx := Pv (i + 1), ct := Pv (i + 1), bk := D.nx } σ2 H2) (hd : ∀ σ H, Pv xs.length σ H → D.nx σ H) :
    ∃ b, V.ref a = .ref b ∧ (∃ xs, SqT K H1 b xs) ∧ ∃ W : Nat → Nat → L2.St → Hp → Prop, (∃ m, W 0 m σ H1) ∧ ∀ i m σ H, W i m σ H →
      ((Itt K b).stop i H ∧ D.nx σ H) ∨ ((Itt K b).go i H ∧ ∃ N : L2.St → Hp → Prop, (∀ σ' H', N σ' H' → ∃ m', m' < m ∧ W (i + 1) m' σ' H') ∧ ∀ x H', (Itt K b).yld i H x H' → g x σ H' fun σ2 H2 => tb { D with nx := N, ct := N, bk := D.nx } σ2 H2) :=
  ⟨a, rfl, ⟨xs, hl 0 σ H1 (Nat.zero_le _) h0⟩, for_tup Pv h0 hl hs hd⟩
theorem go_tupOf {a : Addr} {xs : List V} (hs : SqL K H a xs) (h : ∀ l, H l = none → Q (.ref l) (upd H l (.tup xs))) : qTupOf K [.ref a] H Q := go_tupOfL hs h
end
theorem valV_put {kvs : List (Key × V)} {k : Key} {v : V} : valV (putK kvs k v) k = some v := by
  unfold putK
  split
  · rename_i h
    induction kvs with
    | nil => cases h
    | cons p r ih =>
      by_cases e : p.1 = k
      · rw [List.map_cons, if_pos e]
        exact valV_pos e
      · rw [List.map_cons, if_neg e, valV_neg e]
        refine ih ?_
        simpa [List.any_cons, e] using h
  · rename_i h
    induction kvs with
    | nil => exact valV_pos rfl
    | cons p r ih =>
      have e : ¬ p.1 = k := fun e => h (by simp [List.any_cons, e])
      rw [List.cons_append, valV_neg e]
      refine ih ?_
      simpa [List.any_cons, e] using h
theorem valV_put_ne {kvs : List (Key × V)} {k j : Key} {v : V} (n : j ≠ k) : valV (putK kvs k v) j = valV kvs j := by
  unfold putK
  split
  · rename_i h
    clear h
    induction kvs with
    | nil => rfl
    | cons p r ih =>
      rw [List.map_cons]
      by_cases e : p.1 = k
      · rw [if_pos e]
        have e2 : ¬ p.1 = j := fun z => n (z.symm.trans e)
        rw [valV_neg (p := (p.1, v)) e2, valV_neg e2]
        exact ih
      · rw [if_neg e]
        by_cases e2 : p.1 = j
        · rw [valV_pos e2, valV_pos e2]
        · rw [valV_neg e2, valV_neg e2]
          exact ih
  · rename_i h
    clear h
    induction kvs with
    | nil => exact valV_neg (Ne.symm n)
    | cons p r ih =>
      rw [List.cons_append]
      by_cases e2 : p.1 = j
      · rw [valV_pos e2, valV_pos e2]
      · rw [valV_neg e2, valV_neg e2]
        exact ih
def keyPut (ks : List Key) (k : Key) : List Key := if (ks.any fun j => decide (j = k)) = true then ks else ks ++ [k]
theorem putK_keys {kvs : List (Key × V)} {k : Key} {v : V} : (putK kvs k v).map (·.1) = keyPut (kvs.map (·.1)) k := by
  unfold putK keyPut
  have e : ((kvs.map (·.1)).any fun j => decide (j = k)) = (kvs.any fun kv => decide (kv.1 = k)) := by rw [List.any_map]; rfl
  rw [e]
  split
  · rw [List.map_map]
    refine List.map_congr_left fun p _ => ?_
    show (if p.1 = k then (p.1, v) else p).1 = p.1
    split <;> rfl
  · rw [List.map_append]
    rfl
theorem putK_len {kvs : List (Key × V)} {k : Key} {v : V} : (putK kvs k v).length ≤ kvs.length + 1 := by
  unfold putK
  split <;> simp
theorem putK_mem {kvs : List (Key × V)} {k : Key} {v : V} {p : Key × V} (h : p ∈ putK kvs k v) : p = (k, v) ∨ p ∈ kvs := by
  unfold putK at h
  split at h
  · obtain ⟨q, hq, e⟩ := List.mem_map.mp h
    split at e
    · rename_i hk
      exact .inl (by rw [← e, hk])
    · exact .inr (e ▸ hq)
  · rcases List.mem_append.mp h with h | h
    · exact .inr h
    · exact .inl (List.mem_singleton.mp h)
theorem valV_mem {kvs : List (Key × V)} {k : Key} {v : V} (h : valV kvs k = some v) : (k, v) ∈ kvs := by
  induction kvs with
  | nil => cases h
  | cons p r ih =>
    by_cases e : p.1 = k
    · rw [valV_pos e] at h
      cases h
      rw [← e]
      exact List.mem_cons_self
    · rw [valV_neg e] at h
      exact List.mem_cons_of_mem _ (ih h)
/-! ### truth -/
section
variable {X : Cx} {K : PySem.W.Frag} {a : Expr} {ta : TE} {σ : L2.St} {H : Hp} {QB : Bool → Hp → Prop}
def qTru (K : PySem.W.Frag) (QB : Bool → Hp → Prop) (x : V) (H : Hp) : Prop := ∃ k, TruV K x H k ∧ QB k H
def tTr (K : PySem.W.Frag) (ta : TE) : TT := fun σ H QB => ta σ H (qTru K QB)
theorem p_truthK (hK : X.K = K) (ha : PE X a ta) (he : ∀ whole, isTrue a X.env whole = (do let v ← whole; standAt a.pos; holding [v] (truthy v))) : PT X a (tTr K ta) := by
  subst hK
  exact pt_truth ha he
theorem go_tTr (h : ta σ H (qTru K QB)) : tTr K ta σ H QB := h
theorem go_truL {l : Addr} {xs : List V} (h : SqL K H l xs) (q : QB (!xs.isEmpty) H) : qTru K QB (.ref l) H := ⟨_, .inl ⟨xs, h, rfl⟩, q⟩
theorem go_truT {l : Addr} {xs : List V} (h : SqT K H l xs) (q : QB (!xs.isEmpty) H) : qTru K QB (.ref l) H := ⟨_, .inr (.inl ⟨xs, h, rfl⟩), q⟩
theorem go_truI {i : Int} (q : QB (i != 0) H) : qTru K QB (.int i) H := ⟨_, rfl, q⟩
theorem go_truB {b : Bool} (q : QB b H) : qTru K QB (.bl b) H := ⟨_, rfl, q⟩
theorem go_truN (q : QB false H) : qTru K QB .non H := ⟨_, rfl, q⟩
end
/-- {x} * k, of one item -/
def rRep1 (K : PySem.W.Frag) : R2 := fun x y H Q => ∃ l k z, x = .ref l ∧ y = .int k ∧ SqT K H l [z] ∧ 2 ≤ k ∧ k ≤ 1000000 ∧ ∀ p, H p = none → Q (.ref p) (upd H p (.tup (List.replicate k.toNat z)))
theorem flat_one {α : Type} (z : α) : ∀ n : Nat, (List.replicate n [z]).flatten = List.replicate n z
  | 0 => rfl
  | n + 1 => by
    rw [List.replicate_succ, List.flatten_cons, flat_one z n]
    rfl
theorem op_rep1 {X : Cx} : OpR X (binaryOp .Mult) (rRep1 X.K) := by
  intro pins s σ H x y v u Q I rx ry h
  obtain ⟨l, k, z, rfl, rfl, hT, h2, h6, q⟩ := h
  obtain ⟨t, rfl⟩ := ry
  cases rx
  obtain ⟨its, r, ⟨⟨oc, od, oda, osl⟩, ho, hcl, m, hda⟩, hsz⟩ := I.tuple hT
  dsimp only at hcl hda
  subst hcl hda
  obtain ⟨zu, rfl⟩ : ∃ zu, its = [zu] := by
    cases r with
    | cons _ rt => cases rt; exact ⟨_, rfl⟩
  have one : ∀ w : Int, (((([zu] : List Value).toArray).size : Nat) : Int) * w = w := fun w => by
    show ((1 : Nat) : Int) * w = w
    omega
  have line : (List.replicate k.toNat [zu]).flatten.length ≤ sizeLine := by
    rw [flat_one, List.length_replicate, sizeLine_eq]
    omega
  have d0 : (decide (k < -(2 ^ 63)) || decide (k ≥ 2 ^ 63)) = false := by simp; omega
  have d1 : ((([zu] : List Value).toArray).isEmpty || k == 1) = false := by
    show (false || k == 1) = false
    simp
    omega
  have d2 : (decide (k ≤ 0) || (([zu] : List Value).toArray).isEmpty) = false := by
    show (decide (k ≤ 0) || false) = false
    simp
    omega
  have d4 : Builtin.Tuple.tupleTooMany (((([zu] : List Value).toArray).size : Nat) * k) = false := by
    rw [one]
    unfold Builtin.Tuple.tupleTooMany
    rw [sizeLine_eq]
    simp
    omega
  have run := tuple_mulW l [zu].toArray m od osl k t d0 d1 d2 (by rw [one]; omega) d4 (by rw [size_rep, List.size_toArray]; exact line)
  refine wpAny_binaryOp_repeat_ref (T := "tuple") (U := "int") (by decide) ⟨_, ho, rfl⟩ (fun z => typeIs_int z k t) noFill_tuple_mul F.fills_int_mul F.slot_int_rmul repeat_tuple F.slot_int_index.lookup ?_
  refine call_meets F.slot_int_rmul (typeIs_int s k t) F.entry_int_rmul (F.args_int_rmul_2 _ _) (int_rmul_tuple k t l [zu].toArray m od osl) ⟨ho, rfl, ⟨_, ho, rfl⟩, ?_⟩
  refine call_meets F.slot_tuple_mul ⟨_, ho, rfl⟩ F.entry_tuple_mul (F.args_tuple_mul_2 _ _) run ⟨ho, ?_⟩
  rw [size_rep]
  have hv : Vals (List.replicate k.toNat z) (List.replicate k.toNat zu) := by
    have rz : RelV z zu := by cases r with | cons a _ => exact a
    generalize k.toNat = j
    induction j with
    | zero => exact .nil
    | succ j ih => exact .cons rz ih
  have fresh := I.hok.fresh (Nat.le_refl _)
  refine ⟨.ref s.heap.objs.size, _, I.laid (t' := s.toks) (o := .tup (List.replicate k.toNat z)) (fun b ob e => Heap.get?_push_of_some _ e) (Nat.le_refl _) ⟨?_, List.replicate k.toNat zu, hv, ?_⟩, rfl, q _ fresh⟩
  · rw [List.length_replicate, sizeLine_eq]
    omega
  · rw [flat_one]
    exact IsTup.new _ _
/-! ### expressions -/
inductive Ex where
  | num (n : Int)
  | var (x : Str)
  | long
  | view (e : Ex)
  | pick (x : Str) (a b : Ex)
  | op (s : Nat) (a b : Ex)
def signsS : List Str := ["+", "-", "*", "/", "mod", "<", "="]
def signS (s : Nat) : Str := signsS.getD s "+"
def exD : Ex → PyData
  | .num n => .tuple [.str "number", .int n]
  | .var x => .tuple [.str "variable", .str x]
  | .long => .tuple [.str "long"]
  | .view e => .tuple [.str "view", exD e]
  | .pick x a b => .tuple [.str "pick", .str x, exD a, exD b]
  | .op s a b => .tuple [.str (signS s), exD a, exD b]
def ExIn (ns ps : List Str) : Nat → Ex → Prop
  | 0, _ => False
  | _ + 1, .num n => 0 ≤ n ∧ n < 65536
  | _ + 1, .var x => x ∈ ns
  | _ + 1, .long => True
  | d + 1, .view e => ExIn ns ps d e
  | d + 1, .pick x a b => x ∈ ps ∧ ExIn ns ps d a ∧ ExIn ns ps d b
  | d + 1, .op s a b => s < 7 ∧ ExIn ns ps d a ∧ ExIn ns ps d b
theorem ExIn.up {ns ps : List Str} : ∀ {d : Nat} {e : Ex}, ExIn ns ps d e → ExIn ns ps (d + 1) e
  | 0, _, h => h.elim
  | _ + 1, .num n, h => h
  | _ + 1, .var x, h => h
  | _ + 1, .long, h => h
  | d + 1, .view e, h => ExIn.up (d := d) h
  | d + 1, .pick x a b, h => ⟨h.1, ExIn.up (d := d) h.2.1, ExIn.up (d := d) h.2.2⟩
  | d + 1, .op s a b, h => ⟨h.1, ExIn.up (d := d) h.2.1, ExIn.up (d := d) h.2.2⟩
theorem ExIn.le {ns ps : List Str} {d m : Nat} {e : Ex} (h : ExIn ns ps d e) (hm : d ≤ m) : ExIn ns ps m e := by
  induction hm with
  | refl => exact h
  | step _ ih => exact ih.up
theorem exD_noL : ∀ e : Ex, noL (exD e) = true
  | .num n => rfl
  | .var x => rfl
  | .long => rfl
  | .view e => by
    show (true && (noL (exD e) && true)) = true
    rw [exD_noL e]
    rfl
  | .pick x a b => by
    show (true && (true && (noL (exD a) && (noL (exD b) && true)))) = true
    rw [exD_noL a, exD_noL b]
    rfl
  | .op s a b => by
    show (true && (noL (exD a) && (noL (exD b) && true))) = true
    rw [exD_noL a, exD_noL b]
    rfl
def comb (s : Nat) (l r : Int) : Int := match s with
  | 0 => (l + r) % 65536
  | 1 => if l - r > 0 then l - r else 0
  | 2 => l * r % 65536
  | 3 => if r > 0 then l / r else 0
  | 4 => if r > 0 then l % r else 0
  | 5 => if l < r then 1 else 0
  | _ => if l = r then 1 else 0
theorem comb_in {s : Nat} {l r : Int} (h1 : 0 ≤ l ∧ l < 65536) (h2 : 0 ≤ r ∧ r < 65536) : 0 ≤ comb s l r ∧ comb s l r < 65536 := by
  unfold comb
  split
  · omega
  · split <;> omega
  · exact ⟨Int.emod_nonneg _ (by decide), Int.emod_lt_of_pos _ (by decide)⟩
  · split
    · rename_i h
      exact ⟨Int.ediv_nonneg h1.1 h2.1, Int.lt_of_le_of_lt (Int.ediv_le_self _ h1.1) h1.2⟩
    · omega
  · split
    · rename_i h
      exact ⟨Int.emod_nonneg _ (by omega), Int.lt_trans (Int.emod_lt_of_pos _ h) h2.2⟩
    · omega
  · split <;> omega
  · split <;> omega
def evalE (tab : Str → Int) (on : Str → Bool) (seen : List Int) : Ex → Int
  | .num n => n
  | .var x => tab x
  | .long => min (seen.length : Int) 65535
  | .view e => if evalE tab on seen e < seen.length then seen.getD (evalE tab on seen e).toNat 0 else 0
  | .pick x a b => if on x = true then evalE tab on seen a else evalE tab on seen b
  | .op s a b => comb s (evalE tab on seen a) (evalE tab on seen b)
theorem evalE_in {tab : Str → Int} {on : Str → Bool} {seen : List Int} {ns ps : List Str} (ht : ∀ x ∈ ns, 0 ≤ tab x ∧ tab x < 65536) (hs : ∀ n ∈ seen, 0 ≤ n ∧ n < 65536) :
    ∀ (d : Nat) (e : Ex), ExIn ns ps d e → 0 ≤ evalE tab on seen e ∧ evalE tab on seen e < 65536
  | 0, _, h => h.elim
  | d + 1, .num n, h => h
  | d + 1, .var x, h => ht x h
  | d + 1, .long, _ => by show 0 ≤ min (seen.length : Int) 65535 ∧ _; unfold evalE; omega
  | d + 1, .view e, h => by
    obtain ⟨h0, h1⟩ := evalE_in (on := on) ht hs d e h
    show 0 ≤ (if evalE tab on seen e < seen.length then seen.getD (evalE tab on seen e).toNat 0 else 0) ∧ (if evalE tab on seen e < seen.length then seen.getD (evalE tab on seen e).toNat 0 else 0) < 65536
    split
    · rename_i hl
      have hlt : (evalE tab on seen e).toNat < seen.length := by omega
      rw [List.getD_eq_getElem?_getD, List.getElem?_eq_getElem hlt]
      exact hs _ (List.getElem_mem hlt)
    · omega
  | d + 1, .pick x a b, h => by
    show 0 ≤ (if on x = true then evalE tab on seen a else evalE tab on seen b) ∧ (if on x = true then evalE tab on seen a else evalE tab on seen b) < 65536
    split
    · exact evalE_in ht hs d a h.2.1
    · exact evalE_in ht hs d b h.2.2
  | d + 1, .op s a b, h => comb_in (evalE_in ht hs d a h.2.1) (evalE_in ht hs d b h.2.2)
/-- names with ints, names with truth values -/
def TabOk (H : Hp) (t : Addr) (ns : List Str) (tab : Str → Int) : Prop := ∃ kvs, H t = some (.dK kvs) ∧ kvs.length ≤ 1000 ∧ ∀ x ∈ ns, valV kvs (.inr x) = some (.int (tab x)) ∧ 0 ≤ tab x ∧ tab x < 65536
def OnOk (H : Hp) (t : Addr) (ps : List Str) (on : Str → Bool) : Prop := ∃ kvs, H t = some (.dK kvs) ∧ kvs.length ≤ 1000 ∧ ∀ x ∈ ps, valV kvs (.inr x) = some (.bl (on x))
theorem TabOk.same {H H' : Hp} {t : Addr} {ns : List Str} {tab : Str → Int} (h : TabOk H t ns tab) (s : Same H H') : TabOk H' t ns tab := let ⟨kvs, e, r⟩ := h; ⟨kvs, s _ _ e, r⟩
theorem OnOk.same {H H' : Hp} {t : Addr} {ns : List Str} {on : Str → Bool} (h : OnOk H t ns on) (s : Same H H') : OnOk H' t ns on := let ⟨kvs, e, r⟩ := h; ⟨kvs, s _ _ e, r⟩
theorem TabOk.turn {H H' : Hp} {t : Addr} {ns : List Str} {tab : Str → Int} {p : Pl} {b b0 : Int} (h : TabOk H t ns tab) (hp : Pool H p b0) (s : Turn p b H H') : TabOk H' t ns tab := by
  obtain ⟨kvs, e, r⟩ := h
  obtain ⟨zs, ez⟩ := hp.there
  exact ⟨kvs, s.but _ _ (ne_of e ez (by intro z; cases z)) e, r⟩
theorem OnOk.turn {H H' : Hp} {t : Addr} {ns : List Str} {on : Str → Bool} {p : Pl} {b b0 : Int} (h : OnOk H t ns on) (hp : Pool H p b0) (s : Turn p b H H') : OnOk H' t ns on := by
  obtain ⟨kvs, e, r⟩ := h
  obtain ⟨zs, ez⟩ := hp.there
  exact ⟨kvs, s.but _ _ (ne_of e ez (by intro z; cases z)) e, r⟩
/-- a dict that was filled over the names xs, its values so -/
structure DB (kvs : List (Key × V)) (xs : List Str) (P : V → Prop) : Prop where
  keys : kvs.map (·.1) = xs.foldl (fun ks x => keyPut ks (.inr x)) []
  len : kvs.length ≤ xs.length
  has : ∀ x ∈ xs, ∃ v, valV kvs (.inr x) = some v ∧ P v
  all : ∀ p ∈ kvs, P p.2
theorem DB.nil {P : V → Prop} : DB [] [] P := ⟨rfl, Nat.le_refl _, (fun _ h => nomatch h), fun _ h => nomatch h⟩
theorem DB.put {kvs : List (Key × V)} {xs : List Str} {P : V → Prop} {x : Str} {v : V} (h : DB kvs xs P) (hv : P v) : DB (putK kvs (.inr x) v) (xs ++ [x]) P := by
  refine ⟨by rw [putK_keys, h.keys, List.foldl_append]; rfl, ?_, fun y hy => ?_, fun p hp => ?_⟩
  · have := h.len
    have := putK_len (kvs := kvs) (k := .inr x) (v := v)
    rw [List.length_append, List.length_singleton]
    omega
  · by_cases e : y = x
    · exact ⟨v, by rw [e]; exact valV_put, hv⟩
    · have hm : y ∈ xs := by
        rcases List.mem_append.mp hy with hy | hy
        · exact hy
        · exact absurd (List.mem_singleton.mp hy) e
      obtain ⟨u, h1, h2⟩ := h.has y hm
      exact ⟨u, by rw [valV_put_ne (fun z => e (Sum.inr.inj z))]; exact h1, h2⟩
  · rcases putK_mem hp with rfl | hp
    · exact hv
    · exact h.all p hp
/-- a dict that was filled over the same names, each with its value in kvs -/
structure DC (k0 : List (Key × V)) (xs : List Str) (kvs : List (Key × V)) : Prop where
  keys : k0.map (·.1) = xs.foldl (fun ks x => keyPut ks (.inr x)) []
  len : k0.length ≤ xs.length
  same : ∀ p ∈ k0, valV kvs p.1 = some p.2
  has : ∀ x ∈ xs, valV k0 (.inr x) = valV kvs (.inr x)
theorem DC.nil {kvs : List (Key × V)} : DC [] [] kvs := ⟨rfl, Nat.le_refl _, (fun _ h => nomatch h), fun _ h => nomatch h⟩
theorem DC.put {k0 kvs : List (Key × V)} {xs : List Str} {x : Str} {v : V} (h : DC k0 xs kvs) (hv : valV kvs (.inr x) = some v) : DC (putK k0 (.inr x) v) (xs ++ [x]) kvs := by
  refine ⟨by rw [putK_keys, h.keys, List.foldl_append]; rfl, ?_, fun p hp => ?_, fun y hy => ?_⟩
  · have := h.len
    have := putK_len (kvs := k0) (k := .inr x) (v := v)
    rw [List.length_append, List.length_singleton]
    omega
  · rcases putK_mem hp with rfl | hp
    · exact hv
    · exact h.same p hp
  · by_cases e : y = x
    · rw [e, hv]
      exact valV_put
    · have hm : y ∈ xs := by
        rcases List.mem_append.mp hy with hy | hy
        · exact hy
        · exact absurd (List.mem_singleton.mp hy) e
      rw [valV_put_ne (fun z => e (Sum.inr.inj z))]
      exact h.has y hm
theorem DC.eqV {K : PySem.W.Frag} {H : Hp} {k0 kvs : List (Key × V)} {xs : List Str} {P : V → Prop} (h : DC k0 xs kvs) (g : DB kvs xs P) (hP : ∀ v, P v → flatB v = true) {a b : Addr} (ha : H a = some (.dK k0)) (hb : H b = some (.dK kvs)) : EqV K H 2 (.ref a) (.ref b) := by
  refine .inr (.inr (.inr ⟨a, b, k0, kvs, rfl, rfl, ha, hb, ?_, fun p hp => ⟨p.2, h.same p hp, .inl ⟨rfl, hP _ (g.all (p.1, p.2) (valV_mem (h.same p hp)))⟩⟩⟩))
  have e := congrArg List.length (h.keys.trans g.keys.symm)
  rw [List.length_map, List.length_map] at e
  exact e
/-- the table's values, as functions -/
def tabOf (kvs : List (Key × V)) (x : Str) : Int := match valV kvs (.inr x) with | some (.int n) => n | _ => 0
def onOf (kvs : List (Key × V)) (x : Str) : Bool := match valV kvs (.inr x) with | some (.bl b) => b | _ => false
def IsNum (v : V) : Prop := ∃ n : Int, v = .int n ∧ 0 ≤ n ∧ n < 65536
def IsBl (v : V) : Prop := ∃ b : Bool, v = .bl b
theorem DB.tab {H : Hp} {t : Addr} {kvs : List (Key × V)} {xs : List Str} (h : DB kvs xs IsNum) (hx : xs.length ≤ 1000) (e : H t = some (.dK kvs)) : TabOk H t xs (tabOf kvs) := by
  have := h.len
  refine ⟨kvs, e, by omega, fun x hm => ?_⟩
  obtain ⟨v, h1, n, rfl, h2⟩ := h.has x hm
  have et : tabOf kvs x = n := by unfold tabOf; rw [h1]
  rw [et]
  exact ⟨h1, h2⟩
theorem DB.on {H : Hp} {t : Addr} {kvs : List (Key × V)} {xs : List Str} (h : DB kvs xs IsBl) (hx : xs.length ≤ 1000) (e : H t = some (.dK kvs)) : OnOk H t xs (onOf kvs) := by
  have := h.len
  refine ⟨kvs, e, by omega, fun x hm => ?_⟩
  obtain ⟨v, h1, b, rfl⟩ := h.has x hm
  have et : onOf kvs x = b := by unfold onOf; rw [h1]
  rw [et]
  exact h1
theorem DC.tab {H : Hp} {t : Addr} {k0 kvs : List (Key × V)} {xs : List Str} (h : DC k0 xs kvs) (g : DB kvs xs IsNum) (hx : xs.length ≤ 1000) (e : H t = some (.dK k0)) : TabOk H t xs (tabOf kvs) := by
  have := h.len
  refine ⟨k0, e, by omega, fun x hm => ?_⟩
  obtain ⟨v, h1, n, rfl, h2⟩ := g.has x hm
  have et : tabOf kvs x = n := by unfold tabOf; rw [h1]
  rw [et, h.has x hm]
  exact ⟨h1, h2⟩
theorem DC.on {H : Hp} {t : Addr} {k0 kvs : List (Key × V)} {xs : List Str} (h : DC k0 xs kvs) (g : DB kvs xs IsBl) (hx : xs.length ≤ 1000) (e : H t = some (.dK k0)) : OnOk H t xs (onOf kvs) := by
  have := h.len
  refine ⟨k0, e, by omega, fun x hm => ?_⟩
  obtain ⟨v, h1, b, rfl⟩ := g.has x hm
  have et : onOf kvs x = b := by unfold onOf; rw [h1]
  rw [et, h.has x hm]
  exact h1
theorem take_snoc {α : Type} {xs : List α} {i : Nat} {x : α} (h : xs[i]? = some x) : xs.take (i + 1) = xs.take i ++ [x] := by
  rw [List.take_add_one, h]
  rfl
theorem strs_at {xs : List Str} {i : Nat} {v : V} (h : (xs.map V.str)[i]? = some v) : ∃ x, v = .str x ∧ xs[i]? = some x := by
  rw [List.getElem?_map] at h
  cases e : xs[i]? with
  | none => rw [e] at h; cases h
  | some x => rw [e] at h; cases h; exact ⟨x, rfl, rfl⟩
theorem strs_pick {xs : List Str} {k : Int} (h0 : 0 ≤ k) (h : k < xs.length) : ∃ x, x ∈ xs ∧ atI (xs.map V.str) k = some (.str x) := by
  obtain ⟨v, hv, e⟩ := at_pick (xs := xs.map V.str) h0 (by rw [List.length_map]; exact h)
  obtain ⟨x, hx, rfl⟩ := List.mem_map.mp hv
  exact ⟨x, hx, e⟩
/-- a text for a sign -/
theorem sign_cases {s : Nat} (h : s < 7) : s = 0 ∨ s = 1 ∨ s = 2 ∨ s = 3 ∨ s = 4 ∨ s = 5 ∨ s = 6 := by omega
end Gx

set_option Elab.async false
set_option linter.all false
set_option maxRecDepth 100000
set_option maxHeartbeats 4000000
/-! Own lemmas: tuples made by tuple(..), asked for a place; displays with stars; codes of expressions. -/
namespace Gx
open PySem PySem.Spec PyProof.Rows L2
/-- a tuple that is known to its object -/
def KnT (H : Hp) (p : Addr) (xs : List V) : Prop := ∃ ob : Obj, H p = some (.frz ob (.tup xs)) ∧ ob.cls = .type "tuple" ∧ ob.dict = none
theorem KnT.sq {K : PySem.W.Frag} {H : Hp} {p : Addr} {xs : List V} (h : KnT H p xs) : SqT K H p xs := let ⟨ob, e, _⟩ := h; .inl (.inr ⟨ob, e⟩)
theorem KnT.same {H H' : Hp} {p : Addr} {xs : List V} (h : KnT H p xs) (s : Same H H') : KnT H' p xs := let ⟨ob, e, r⟩ := h; ⟨ob, s _ _ e, r⟩
section
variable {X : Cx}
def qTupF (K : PySem.W.Frag) : List V → Hp → VK → Prop := fun xs H Q => ∃ p ys, xs = [.ref p] ∧ SqL K H p ys ∧ ∀ l H', H l = none → Same H H' → KnT H' l ys → Q (.ref l) H'
theorem k_tupF : CallR X (.type "tuple") (qTupF X.K) := by
  intro pins s σ H args vals Q I rv h
  obtain ⟨p, ys, rfl, hl, q⟩ := h
  obtain ⟨u, rfl, ru⟩ := vals1 rv
  cases ru
  obtain ⟨its, ri, pl, hz⟩ := I.list hl
  have hlen := ri.length
  refine call_tuple_list pl.isList (fun h1 kp => ?_) (by rw [List.size_toArray]; omega)
  have J : Inv X pins σ H { s with heap := h1 } := I.kept (t' := s.toks) kp
  have nf := J.hok.fresh (Nat.le_refl _)
  have at0 : (h1.push { cls := .type "tuple", data := .seq its.toArray }).get? h1.objs.size = some { cls := .type "tuple", data := .seq its.toArray } := Heap.get?_push_size _ rfl
  have ok : ObjOk X.prog X.w (upd H h1.objs.size (.frz { cls := .type "tuple", data := .seq its.toArray } (.tup ys))) (h1.push { cls := .type "tuple", data := .seq its.toArray }) h1.objs.size (.frz { cls := .type "tuple", data := .seq its.toArray } (.tup ys)) :=
    ⟨at0, hz, its, ri, IsTup.new _ _⟩
  have J2 := J.laid (t' := s.toks) (fun b o e => Heap.get?_push_of_some _ e) (Nat.le_refl _) ok
  exact ⟨.ref h1.objs.size, _, J2, rfl, q _ _ nf (fun b o e => by rw [upd_ne (ne_of_none e nf)]; exact e) ⟨_, upd_same, rfl, rfl⟩⟩
theorem k_tupFK {K : PySem.W.Frag} (hK : X.K = K) : CallR X (.type "tuple") (qTupF K) := by subst hK; exact k_tupF
def tyT (K : PySem.W.Frag) (x : V) (H : Hp) : Prop := ∃ p, x = .ref p ∧ ((∃ ys, KnT H p ys) ∨ ∃ ob, K.lookup p = some ob ∧ ob.cls = .type "tuple" ∧ ob.dict = none)
def tTM (K : PySem.W.Frag) (r : V → List V → Hp → VK → Prop) (to : TE) (t : TA) : TE := fun σ H Q => to σ H fun x H1 => tyT K x H1 ∧ t σ H1 fun xs H2 => r x xs H2 Q
variable {o e : Expr} {es : List Expr} {to : TE} {t : TA} {name : Str} {apos cpos : Pos} {id : String} {r : V → List V → Hp → VK → Prop}
theorem pe_tupM (pa : PlainAttrs "tuple") (slot : Slot "tuple" name id) (hty : typeOf (.builtin id) = pure (.type "method_descriptor")) (hm : MtR X id r) (ho : PE X o to) (ha : PA X (e :: es) t) (hbase : attributeBase o name X.env (eval o X.env) = eval o X.env := by rfl)
    (hfew : ((backTo cpos (starEach (e :: es) X.env)).all (fun x => !x.1) && (backToKw cpos (keywordEach [] X.env)).all (fun x => x.1.isSome) && decide ((e :: es).length + ([] : List Keyword).length + (if ([] : List Keyword).isEmpty then 0 else 1) < 30)) = true := by rfl) (hline : (apos.endLine == cpos.line) = true := by rfl)
    (hs : starEach (e :: es) X.env = (false, eval e X.env) :: starEach es X.env := by rfl) (hplain : (backTo cpos (starEach es X.env)).any (·.1) = false := by rfl) : PE X (.Call (.Attribute o name apos) (e :: es) [] cpos) (tTM X.K r to t) := by
  constructor
  intro pins s σ H Q I h
  refine wpAny_Call_method_late hbase hfew hline rfl (thn (ho.run pins s σ H _ I h) fun v s1 hv => ?_)
  obtain ⟨x, H1, I1, r1, ⟨p, rfl, ty⟩, q1⟩ := hv
  have r1' := r1
  cases r1'
  have facts : s1.TypeIs (.ref p) "tuple" ∧ ∀ a, Value.ref p = .ref a → ∃ ob, s1.heap.get? a = some ob ∧ ob.dict = none := by
    rcases ty with ⟨ys, ob, e1, c1, d1⟩ | ⟨ob, k1, c1, d1⟩
    · obtain ⟨g, _⟩ := I1.hok p _ e1
      exact ⟨⟨ob, g, c1⟩, fun a z => by cases z; exact ⟨ob, g, d1⟩⟩
    · have g := I1.kIn p ob k1
      exact ⟨⟨ob, g, c1⟩, fun a z => by cases z; exact ⟨ob, g, d1⟩⟩
  refine ⟨"tuple", id, pa, slot, hty, facts.1, facts.2, ?_⟩
  have run := ha.run cpos pins s1 σ H1 _ I1 q1
  rw [hs] at run ⊢
  have one : (false || (backTo cpos (starEach es X.env)).any (·.1)) = false := by rw [hplain]; rfl
  exact Calls.callWith_builtin one (Calls.evalArgs_plain (thn run fun us s2 ⟨vs, H2, I2, r2, q2⟩ => hm pins s2 σ H2 (.ref p) vs (.ref p) us Q I2 r1 r2 q2))
def qTIdx (K : PySem.W.Frag) : V → List V → Hp → VK → Prop := fun x xs H Q => ∃ p, ∃ ys : List Str, ∃ z j, x = .ref p ∧ xs = [.str z] ∧ SqT K H p (ys.map V.str) ∧ ys[j]? = some z ∧ (∀ m, m < j → ys[m]? ≠ some z) ∧ Q (.int (j : Nat)) H
theorem m_tup_index : MtR X "tuple.index" (qTIdx X.K) := mt_tup_index
theorem m_tup_indexK {K : PySem.W.Frag} (hK : X.K = K) : MtR X "tuple.index" (qTIdx K) := by subst hK; exact mt_tup_index
def qStrStr : List V → Hp → VK → Prop := fun xs H Q => ∃ a, xs = [.str a] ∧ Q (.str a) H
theorem k_str_str : CallR X (.type "str") qStrStr := SkE.call_str_str
end
section
variable {K : PySem.W.Frag} {σ : L2.St} {H : Hp} {Q : VK} {to te : TE} {t : TA}
theorem go_tTM {r : V → List V → Hp → VK → Prop} (h : to σ H fun x H1 => tyT K x H1 ∧ t σ H1 fun xs H2 => r x xs H2 Q) : tTM K r to t σ H Q := h
theorem go_strStr {a : Str} (h : Q (.str a) H) : qStrStr [.str a] H Q := ⟨a, rfl, h⟩
theorem go_lenT2 {a : Addr} {x y : V} (hs : SqT K H a [x, y]) (h : Q (.int 2) H) : qLen K [.ref a] H Q := go_lenT hs h
/-- the first place of a text -/
theorem first_at : ∀ (ys : List Str) (z : Str), z ∈ ys → ys[ys.idxOf z]? = some z ∧ ∀ m, m < ys.idxOf z → ys[m]? ≠ some z
  | [], _, h => nomatch h
  | y :: ys, z, h => by
    by_cases e : y = z
    · subst e
      rw [List.idxOf_cons_self]
      exact ⟨rfl, fun m hm => nomatch hm⟩
    · have hm : z ∈ ys := by
        rcases List.mem_cons.mp h with k | k
        · exact absurd k.symm e
        · exact k
      obtain ⟨h1, h2⟩ := first_at ys z hm
      have ei : (y :: ys).idxOf z = ys.idxOf z + 1 := by
        rw [List.idxOf_cons, beq_eq_false_iff_ne.mpr e]
        rfl
      rw [ei]
      refine ⟨by simpa using h1, fun m hlt => ?_⟩
      cases m with
      | zero => intro k; exact e (Option.some.inj k)
      | succ m => simpa using h2 m (by omega)
theorem eqV_str (a b : Str) : eqV (.str a) (.str b) = decide (a = b) := by
  simp only [eqV]
  by_cases h : a = b <;> simp [h]
theorem go_lindexS {K : PySem.W.Frag} {H : Hp} {Q : VK} {a : Addr} {ys : List Str} {z : Str} (hs : SqL K H a (ys.map V.str)) (hz : z ∈ ys) (q : Q (.int ((ys.idxOf z : Nat) : Int)) H) : rIndex K (.ref a) [.str z] H Q := by
  obtain ⟨hget, hno⟩ := first_at ys z hz
  refine ⟨a, _, .str z, ys.idxOf z, .str z, rfl, rfl, hs, rfl, flat_strs ys, by rw [List.getElem?_map, hget]; rfl, by rw [eqV_str, decide_eq_true rfl], fun m z' hm hz' => ?_, q⟩
  obtain ⟨x, rfl, hx⟩ := strs_at hz'
  rw [eqV_str]
  exact decide_eq_false fun e => hno m hm (e ▸ hx)
theorem go_tidx {p : Addr} {ys : List Str} {z : Str} (h : SqT K H p (ys.map V.str)) (hz : z ∈ ys) (q : Q (.int ((ys.idxOf z : Nat) : Int)) H) : qTIdx K (.ref p) [.str z] H Q :=
  ⟨p, ys, z, _, rfl, rfl, h, (first_at ys z hz).1, (first_at ys z hz).2, q⟩
theorem go_star {R : List V → Hp → Prop} (h : te σ H fun x H1 => ∃ p xs, x = V.ref p ∧ (SqT K H1 p xs ∨ SqL K H1 p xs) ∧ t σ H1 fun ys H2 => R (xs ++ ys) H2) : StX.tStar K te t σ H R := h
theorem go_pop {l : Addr} {xs : List V} {y : V} (e : H l = some (.lst (xs ++ [y]))) (q : Q y (upd H l (.lst xs))) : rPop (.ref l) [] H Q :=
  ⟨l, xs ++ [y], y, rfl, rfl, e, by simp, by rw [List.dropLast_concat]; exact q⟩
end
/-! ### codes -/
inductive CIn where
  | push (n : Int)
  | load (k : Nat)
  | long
  | view
  | sign (s : Nat)
def inD : CIn → PyData
  | .push n => .tuple [.str "push", .int n]
  | .load k => .tuple [.str "load", .int (k : Int)]
  | .long => .tuple [.str "long", .int 0]
  | .view => .tuple [.str "view", .int 0]
  | .sign s => .tuple [.str "sign", .int (s : Int)]
def codeE (ns : List Str) (on : Str → Bool) : Ex → List CIn
  | .num n => [.push n]
  | .var x => [.load (ns.idxOf x)]
  | .long => [.long]
  | .view e => codeE ns on e ++ [.view]
  | .pick x a b => if on x = true then codeE ns on a else codeE ns on b
  | .op s a b => codeE ns on a ++ (codeE ns on b ++ [.sign s])
def InOk (m : Nat) : CIn → Prop
  | .push n => 0 ≤ n ∧ n < 65536
  | .load k => k < m
  | .sign s => s < 7
  | _ => True
theorem code_ok {ns ps : List Str} {on : Str → Bool} : ∀ (d : Nat) (e : Ex), ExIn ns ps d e → ∀ c ∈ codeE ns on e, InOk ns.length c
  | 0, _, h => h.elim
  | d + 1, .num n, h => fun c hc => by rw [List.mem_singleton.mp hc]; exact h
  | d + 1, .var x, h => fun c hc => by
    rw [List.mem_singleton.mp hc]
    exact List.idxOf_lt_length_of_mem h
  | d + 1, .long, h => fun c hc => by rw [List.mem_singleton.mp hc]; trivial
  | d + 1, .view e, h => fun c hc => by
    rcases List.mem_append.mp hc with hc | hc
    · exact code_ok d e h c hc
    · rw [List.mem_singleton.mp hc]; trivial
  | d + 1, .pick x a b, h => fun c hc => by
    have hc : c ∈ if on x = true then codeE ns on a else codeE ns on b := hc
    split at hc
    · exact code_ok d a h.2.1 c hc
    · exact code_ok d b h.2.2 c hc
  | d + 1, .op s a b, h => fun c hc => by
    rcases List.mem_append.mp hc with hc | hc
    · exact code_ok d a h.2.1 c hc
    · rcases List.mem_append.mp hc with hc | hc
      · exact code_ok d b h.2.2 c hc
      · rw [List.mem_singleton.mp hc]; exact h.1
/-- one step on a stack (its top last) -/
def stepI (cells seen : List Int) : CIn → List Int → Option (List Int)
  | .push n, st => some (st ++ [n])
  | .load k, st => (cells[k]?).map fun v => st ++ [v]
  | .long, st => some (st ++ [(seen.length : Int)])
  | .view, st => (st.getLast?).map fun (a : Int) => st.dropLast ++ [if a < seen.length then seen.getD a.toNat 0 else 0]
  | .sign s, st => (st.getLast?).bind fun r => (st.dropLast.getLast?).map fun l => st.dropLast.dropLast ++ [comb s l r]
def runI (cells seen : List Int) : List CIn → List Int → Option (List Int)
  | [], st => some st
  | c :: r, st => (stepI cells seen c st).bind (runI cells seen r)
theorem run_app (cells seen : List Int) : ∀ (a b : List CIn) (st : List Int), runI cells seen (a ++ b) st = (runI cells seen a st).bind (runI cells seen b)
  | [], b, st => rfl
  | c :: a, b, st => by
    show (stepI cells seen c st).bind (runI cells seen (a ++ b)) = ((stepI cells seen c st).bind (runI cells seen a)).bind _
    cases stepI cells seen c st with
    | none => rfl
    | some s2 => exact run_app cells seen a b s2
/-- THE LAW of the code -/
theorem run_code {ns ps : List Str} {tab : Str → Int} {on : Str → Bool} {seen : List Int} (hs : seen.length ≤ 65535) : ∀ (d : Nat) (e : Ex) (st : List Int), ExIn ns ps d e → runI (ns.map tab) seen (codeE ns on e) st = some (st ++ [evalE tab on seen e])
  | 0, _, _, h => h.elim
  | d + 1, .num n, st, h => rfl
  | d + 1, .var x, st, h => by
    have e := (first_at ns x h).1
    show ((((ns.map tab)[ns.idxOf x]?).map fun v => st ++ [v]).bind fun s => some s) = _
    rw [List.getElem?_map, e]
    rfl
  | d + 1, .long, st, h => by
    show some (st ++ [(seen.length : Int)]) = some (st ++ [min (seen.length : Int) 65535])
    have : min (seen.length : Int) 65535 = seen.length := by omega
    rw [this]
  | d + 1, .view e, st, h => by
    show runI _ _ (codeE ns on e ++ [.view]) st = _
    rw [run_app, run_code hs d e st h, Option.bind_some]
    show ((((st ++ [evalE tab on seen e]).getLast?).map fun (a : Int) => (st ++ [evalE tab on seen e]).dropLast ++ [if a < seen.length then seen.getD a.toNat 0 else 0]).bind fun s => some s) = _
    rw [List.getLast?_concat, List.dropLast_concat]
    rfl
  | d + 1, .pick x a b, st, h => by
    show runI _ _ (if on x = true then codeE ns on a else codeE ns on b) st = some (st ++ [if on x = true then evalE tab on seen a else evalE tab on seen b])
    split
    · exact run_code hs d a st h.2.1
    · exact run_code hs d b st h.2.2
  | d + 1, .op s a b, st, h => by
    show runI _ _ (codeE ns on a ++ (codeE ns on b ++ [.sign s])) st = _
    rw [run_app, run_code hs d a st h.2.1, Option.bind_some, run_app, run_code hs d b _ h.2.2, Option.bind_some]
    show ((((st ++ [evalE tab on seen a] ++ [evalE tab on seen b]).getLast?).bind fun r => ((st ++ [evalE tab on seen a] ++ [evalE tab on seen b]).dropLast.getLast?).map fun l => (st ++ [evalE tab on seen a] ++ [evalE tab on seen b]).dropLast.dropLast ++ [comb s l r]).bind fun s => some s) = _
    rw [List.getLast?_concat, List.dropLast_concat, Option.bind_some, List.getLast?_concat, List.dropLast_concat]
    rfl
end Gx

set_option Elab.async false
set_option linter.all false
set_option maxRecDepth 100000
set_option maxHeartbeats 4000000
/-! Own lemmas: an error of the program whose maker says super().__init__(text); self.f = a, and whose class stands below a class of the program. -/
namespace ErX
open PySem PySem.W PySem.Calls PyProof.Rows PySem.HandSPX
def eA (an : Str) (p1 p2 : Pos) : Arguments := { posonlyargs := [], args := [{ arg := "self", annotation := none, pos := p1 }, { arg := an, annotation := none, pos := p2 }], vararg := none, kwonlyargs := [], kw_defaults := [], kwarg := none, defaults := [] }
def eB (an fn msg : Str) (j : Nat) (q1 q2 q3 q4 q5 q6 q7 q8 q9 q0 : Pos) : List Stmt :=
  [.Expr (.Call (.Attribute (.Call (.Name "super" q1) [] [] q2) "__init__" q3) [.Constant (.str msg) j q4] [] q5) q6, .Assign [.Attribute (.Name "self" q7) fn q8] (.Name an q9) q0]
def eS (an : Str) : Scope := { kind := .function, names := [(PySem.Str.ofString "self", .local), (an, .local), (PySem.Str.ofString "__class__", .free), (PySem.Str.ofString "super", .globalImplicit)], isGenerator := false, isCoroutine := false, more := [] }
/-- what the names must be -/
structure Nm (an : Str) : Prop where
  n1 : an ≠ "self"
  n2 : an ≠ "__class__"
  n3 : an ≠ "super"
  n4 : (an == ("__debug__" : Str)) = false
  bd : ∀ (qual : Str) (p1 p2 : Pos) (body : List Stmt) (doc pm : Value) (an' : Option Addr) (cda cc x : Addr) (ct v : Value), bindArgs (ksFn "__init__" qual (eA an p1 p2) body (eS an) .none .none doc pm an' (.ref cda) ct cc) ⟨[.ref x, v], []⟩ = (pure [(PySem.Str.ofString "self", Value.ref x), (an, v)] : Sem (List (Str × Value)))
/-- how the call of the maker above is read -/
def Ev (msg : Str) (j : Nat) (q1 q2 q3 q4 q5 : Pos) : Prop := ∃ pl : Sem Bool, ∀ env : Env,
  eval (.Call (.Attribute (.Call (.Name "super" q1) [] [] q2) "__init__" q3) [.Constant (.str msg) j q4] [] q5) env = (do
      let ov ← attributeBase (.Call (.Name "super" q1) [] [] q2) "__init__" env (eval (.Call (.Name "super" q1) [] [] q2) env)
      standAt q3.atName
      let (f, first) ← holding [ov] (getMethod ov "__init__" pl)
      callWith q5 f first (backTo q5 (starEach [.Constant (.str msg) j q4] env)) [])
/-- what the written part says of the class at C, and of its maker, at fI -/
structure ErrT (P : Program) (K : Frag) (mg : Str → Option Value) (C fI : Addr) (an fn : Str) : Prop where
  cls : ∃ nm q N bs bm sn sub ab col dd k0 k1 k2 k3 k5, K.lookup C = some (excClassObj nm q C N bs bm true sn sub ab col dd k0 k1 k2 k3 k5 "ValueError.__new__") ∧ refsVE bm = true
  sa : findIn K (.ref C) "__setattr__" = some (some (.builtin "object.__setattr__"))
  noN : findIn K (.ref C) fn = some none
  iC : findIn K (.ref C) "__init__" = some (some (.ref fI))
  tC : typeIn K (.ref fI) = some (.type "function")
  kC : keepIn K (.ref C) = true
  exC : subIn K (.ref C) (.type "BaseException") = some true
  tyC : typeIn K (.ref C) = some (.type "type")
  opq : nsIn K cStatics "thirdparty.any" = some none
  sup : ks_superIn K C C "__init__" = some (some (.builtin "ValueError.__init__"))
  sVE : subIn K (.ref C) (.type "ValueError") = some true
  mC : mroIn K C (.ref C) = some true
  mgS : mg "super" = none
  top : (P.main.scope.names.lookup ("super" : Str)).isSome = false
  nm : Nm an
  fn : ∃ (oc : Value) (od : Option Addr) (qual : Str) (doc pm : Value) (an' : Option Addr) (cda cc : Addr) (ct : Value) (osl : Array (Option Value)) (p1 p2 : Pos) (msg : Str) (j : Nat) (q1 q2 q3 q4 q5 q6 q7 q8 q9 q0 : Pos)
      (ccl : Value) (cdd : Option Addr) (vs : Array Value) (ccs : Array (Option Value)) (file : Str) (tf : Tok) (cl : Value) (cld : Option Addr) (csl : Array (Option Value)),
    K.lookup fI = some ⟨oc, od, .func (ksFn "__init__" qual (eA an p1 p2) (eB an fn msg j q1 q2 q3 q4 q5 q6 q7 q8 q9 q0) (eS an) .none .none doc pm an' (.ref cda) ct cc), osl⟩ ∧ codeIn K (.ref cda) qual = true ∧
      K.lookup cda = some ⟨ccl, cdd, .fields vs, ccs⟩ ∧ vs[2]? = some (.str file tf) ∧ ((P.main.file : Str) == file) = true ∧ K.lookup cc = some ⟨cl, cld, .cell (some (.ref C)), csl⟩ ∧
      Ev msg j q1 q2 q3 q4 q5
/-- what the maker leaves of a fresh exception at x -/
structure InitEnd (h h' : Heap) (x C dx t1 : Addr) (fn : Str) (v : Value) : Prop where
  keep : ∀ b o, b ≠ x → h.get? b = some o → h'.get? b = some o
  obj : h'.get? x = some { cls := .ref C, dict := some dx, data := .fields #[.ref t1, .none, .none, .none, .bool false, .none] }
  dbig : h.objs.size ≤ dx
  dne : dx ≠ x
  ns : h'.Ns1 dx (fun y => if y = fn then some v else none)
structure Made (h h' : Heap) (e C d : Addr) (fn : Str) (v : Value) : Prop where
  keep : ∀ b o, h.get? b = some o → h'.get? b = some o
  new : h.objs.size ≤ e
  obj : ∃ oe vs, h'.get? e = some oe ∧ oe.cls = .ref C ∧ oe.dict = some d ∧ oe.data = .fields vs ∧ vs[1]? = some .none
  dbig : h.objs.size ≤ d
  dne : d ≠ e
  ns : h'.Ns1 d (fun y => if y = fn then some v else none)
theorem one_size (v : Value) : [v].length ≤ sizeLine := by
  rw [sizeLine_eq]
  exact (by decide : 1 ≤ 16777216)
section
variable {prog : Program} {w : World} {A : Around} {E : Value → Shared → Prop} {h : Heap} {g : Array GenState} {d : Drawn} {t : Nat} {os : OsState}
variable {nm q : Str} {C N : Addr} {bs bm : List Value} {hdct : Bool} {sn : List Str} {sub : List Value} {ab : Bool} {col : Option Bool} {dd : Option Addr} {k0 k1 k2 k3 k5 : Option Value}
theorem call_bv {u e t0 : Addr} {rest : List Value} {Q : Value → Shared → Prop}
    (hC : h.get? C = some (excClassObj nm q C N bs bm hdct sn sub ab col dd k0 k1 k2 k3 k5 "ValueError.__new__")) (he : h.get? e = some (excO C t0)) (hu : h.get? u = some (kxs_mw "ValueError.__init__" e)) (hrest : rest.length ≤ sizeLine)
    (hq : ∀ h' t1, (∀ b o, b ≠ e → h.get? b = some o → h'.get? b = some o) → h'.get? e = some (excO C t1) → Q .none ⟨h', g, d, t, os⟩) :
    wpAny (model prog w) A (call (.ref u) rest) Q E ⟨h, g, d, t, os⟩ := by
  refine wpAny_call (codeAny_of_tree ?_)
  show wpAny _ A.in1 (callAny (.ref u) ⟨rest, []⟩) _ _ _
  simp only [callAny]
  refine wpAny_bind (wpAny_load hu ?_)
  simp only [kxs_mw, show (Value.type "method-wrapper" == Value.type "method" || Value.type "method-wrapper" == Value.type "builtin_function_or_method" || Value.type "method-wrapper" == Value.type "method-wrapper") = true by decide, if_true]
  refine W.KFB.if_so (by decide) ?_
  refine wpAny_bind (PySem.ESX.check_bound F.excBase_ValueError hC he rfl ?_)
  refine wpAny_bind (wpAny_pure (wpAny_pure ?_))
  refine ⟨Code.quiet_builtin _ (by decide +kernel), codeAny_builtin F.excBase_ValueError.initEntry ?_⟩
  rw [Around.under_plainId F.excBase_ValueError.init.plain _]
  wp_walk
  refine hq _ h.objs.size (fun b o hb ho => ?_) ?_
  · rw [Heap.get?_update_other _ _ (Ne.symm hb)]
    exact Heap.get?_push_of_some _ ho
  · rw [Heap.get?_update_self _ (Heap.get?_push_of_some _ he) rfl]
    rfl
end
section
variable {P : Program} {w : World} {A : Around} {R : Result → Shared → Prop} {K : Frag} {mg mb : Str → Option Value} {C fI : Addr} {an fn : Str}
theorem lk_self : (eS an).names.lookup ("self" : Str) = some .local := by simp [eS, List.lookup]
theorem lk_an (n : Nm an) : (eS an).names.lookup an = some .local := by
  have h : (an == (PySem.Str.ofString "self")) = false := by simpa using n.n1
  simp [eS, List.lookup, h]
theorem lk_cls (n : Nm an) : (eS an).names.lookup ("__class__" : Str) = some .free := by
  have h : ((PySem.Str.ofString "__class__") == an) = false := by simpa using n.n2.symm
  have h0 : ((PySem.Str.ofString "__class__") == (PySem.Str.ofString "self")) = false := by decide
  show List.lookup (PySem.Str.ofString "__class__") [(PySem.Str.ofString "self", _), (an, _), (PySem.Str.ofString "__class__", _), (PySem.Str.ofString "super", _)] = _
  simp [List.lookup, h, h0]
theorem lk_sup (n : Nm an) : (eS an).names.lookup ("super" : Str) = some .globalImplicit := by
  have h : ((PySem.Str.ofString "super") == an) = false := by simpa using n.n3.symm
  have h0 : ((PySem.Str.ofString "super") == (PySem.Str.ofString "self")) = false := by decide
  have h1 : ((PySem.Str.ofString "super") == (PySem.Str.ofString "__class__")) = false := by decide
  show List.lookup (PySem.Str.ofString "super") [(PySem.Str.ofString "self", _), (an, _), (PySem.Str.ofString "__class__", _), (PySem.Str.ofString "super", _)] = _
  simp [List.lookup, h, h0, h1]
theorem nocell : ∀ x ∈ (eS an).names, x.2 ≠ NameKind.cell := by
  intro x hx
  simp only [eS, List.mem_cons, List.not_mem_nil, or_false] at hx
  rcases hx with rfl | rfl | rfl | rfl <;> simp
theorem err_init (T : ErrT P K mg C fI an fn) {hp : Heap} {g : Array GenState} {d : Drawn} {t : Nat} {os : OsState} {x t0 : Addr} {v : Value} (X : K.In hp) (hlim : hp.NoLimit) (hG : hp.Ns mainGlobals mg) (hB : hp.Ns builtinsNs mb)
    (hbb : ∀ x : Str, x ≠ "__name__" → mb x = bootBuiltins x) (hx : hp.get? x = some (excO C t0)) (hnx : K.lookup x = none) (hroom : A.depth < recursionLimit)
    (hq : ∀ h' tk dx t1, InitEnd hp h' x C dx t1 fn v → R (.ok (.ret .none)) ⟨h', g, d, tk, os⟩) :
    codeAny (model P w) A (.call (.ref fI) ⟨[.ref x, v], []⟩) R ⟨hp, g, d, t, os⟩ := by
  obtain ⟨oc, od, qual, doc, pm, an', cda, cc, ct, osl, p1, p2, msg, j, q1, q2, q3, q4, q5, q6, q7, q8, q9, q0, ccl, cdd, vs, ccs, file, tf, cl, cld, csl, ho, hcd, hco, hvs, hfile, hcell, pl, hev⟩ := T.fn
  obtain ⟨nm, q, N, bs, bm, sn, sub, ab, col, dd, k0, k1, k2, k3, k5, hC, hbm⟩ := T.cls
  have hcl : clsIn K C = some { name := nm, bases := bs, mro := .ref C :: bm, ns := N, qualname := q, hasDict := true, slotNames := sn, subclasses := sub, abstract := ab, collection := col, hasDel := false } := by unfold clsIn; rw [hC] <;> rfl
  refine ks_codeAny_call_defAt (fd := ksFn "__init__" qual (eA an p1 p2) (eB an fn msg j q1 q2 q3 q4 q5 q6 q7 q8 q9 q0) (eS an) .none .none doc pm an' (.ref cda) ct cc)
    (body := eB an fn msg j q1 q2 q3 q4 q5 q6 q7 q8 q9 q0) (binds := [(PySem.Str.ofString "self", .ref x), (an, v)]) hroom (X _ _ ho) rfl hlim (codeRec_of X hcd) rfl (BindsTo.of_eq (T.nm.bd _ _ _ _ _ _ _ _ _ _ _ _)) nocell ?_ (fun h₁ hns hk₁ => ?_) rfl rfl rfl
  · intro y hy
    simp only [List.mem_cons, List.not_mem_nil, or_false] at hy
    rcases hy with rfl | rfl
    · exact lk_self
    · exact lk_an T.nm
  have X₁ : K.In h₁ := X.keeps hk₁
  have hx₁ := hk₁ _ _ hx
  obtain ⟨oD, hD1, hD2⟩ : ∃ oD, h₁.get? C = some oD ∧ oD.data = .cls { name := nm, bases := bs, mro := .ref C :: bm, ns := N, qualname := q, hasDict := true, slotNames := sn, subclasses := sub, abstract := ab, collection := col, hasDel := false } := ⟨_, X₁ _ _ hC, rfl⟩
  have I₁ : InstAt h₁ x (excO C t0) C none := ⟨hx₁, rfl, rfl, trivial⟩
  have hnS : List.lookup ("self" : Str) [(an, v), (PySem.Str.ofString "self", Value.ref x)] = some (.ref x) := by
    have h : (("self" : Str) == an) = false := by simpa using T.nm.n1.symm
    simp [List.lookup, h]
  have hnA : List.lookup an [(an, v), (PySem.Str.ofString "self", Value.ref x)] = some v := by simp [List.lookup]
  refine ks_wpAt_execs_cons (ks_wpAt_Expr_any (ks_wpAt_MethodCall (pl := pl) ?_ (hev _)))
  refine ks_wpAt_super_base (fd := ksFn "__init__" qual (eA an p1 p2) (eB an fn msg j q1 q2 q3 q4 q5 q6 q7 q8 q9 q0) (eS an) .none .none doc pm an' (.ref cda) ct cc) (lk_sup T.nm) (lk_cls T.nm) rfl rfl (X₁ _ _ ho) rfl rfl rfl (X₁ _ _ hco) rfl hvs hfile T.top ?_
  refine ks_loadName_global rfl (lk_sup T.nm) (loadGlobal_builtin (hG.keeps hk₁) T.mgS (hB.keeps hk₁) ((hbb _ (by decide)).trans (by first | boot_by_name | rfl | kernel_rfl)) ⟨rfl, ?_⟩)
  refine wpAny_loadName_free rfl (lk_cls T.nm) rfl ⟨_, X₁ _ _ hcell, rfl⟩ ?_
  refine wpAny_loadName_local rfl lk_self hns hnS ?_
  refine ks_wpAny_isType_cls hD1 hD2 ⟨rfl, ?_⟩
  refine ks_wpAny_call_super hD1 hD2 hx₁ rfl (fun c e => by cases e) (looks_mroIn X₁ T.mC) (fun h₂ e₂ k₂ => ?_)
  have X₂ : K.In h₂ := X₁.keeps k₂
  have hx₂ := k₂ _ _ hx₁
  have I₂ : InstAt h₂ x (excO C t0) C none := ⟨hx₂, rfl, rfl, trivial⟩
  have hsup := T.sup
  unfold ks_superIn at hsup
  rw [hcl] at hsup
  refine kxs_getMethod kxs_ValueError e₂ (looks_opaque X₂ T.opq) (l₀ := .ref C :: bm) (fun A Q E s k q => wpAny_bind ((looks_clsIn X₂ hcl) A _ E s k (wpAny_pure q))) rfl X₂ hsup (I₂.type.andThen (looks_subIn X₂ T.sVE)) (ks_ne X₂ I₂ hcl) rfl ?_
  have hs1 : ∀ env : Env, starEach [Expr.Constant (Const.str msg) j q4] env = (false, eval (Expr.Constant (Const.str msg) j q4) env) :: starEach [] env := fun _ => rfl
  rw [hs1]
  show wpAny _ _ (callWith q5 (.ref h₂.objs.size) [] ((false, eval (Expr.Constant (Const.str msg) j q4) _) :: backTo q5 (starEach [] _)) []) _ _ _
  have hu₃ : (h₂.push (kxs_mw "ValueError.__init__" x)).get? h₂.objs.size = some (kxs_mw "ValueError.__init__" x) := Heap.get?_push_at rfl rfl
  have k₃ : ∀ b o, h₂.get? b = some o → (h₂.push (kxs_mw "ValueError.__init__" x)).get? b = some o := fun b o e => Heap.get?_push_of_some _ e
  refine kxs_callWith (i := "ValueError.__init__") (x := x) (u := h₂.objs.size) rfl (Calls.evalArgs_plain (Calls.spliced_cons (Calls.Constant_str (Calls.spliced_nil ⟨hu₃, ?_⟩))))
  refine call_bv (X₂.keeps k₃ _ _ hC) (k₃ _ _ hx₂) hu₃ (one_size _) (fun h₄ t1 k₄ hx₄ => ?_)
  have nx : ∀ b o, K.lookup b = some o → b ≠ x := fun b o e z => by rw [z, hnx] at e; cases e
  have X₄ : K.In h₄ := fun b o e => k₄ b o (nx b o e) (k₃ _ _ (X₂ b o e))
  have hn₄ : h₄.Ns hp.objs.size (fun y => List.lookup y [(an, v), (PySem.Str.ofString "self", Value.ref x)]) := by
    have hLx : hp.objs.size ≠ x := Nat.ne_of_gt (Heap.lt_size hx)
    exact hns.at fun o e => k₄ _ o hLx (k₃ _ _ (k₂ _ _ e))
  refine ks_wpAt_execs_cons (wpAt_of_wpAny (plainObj_wpAny_Assign_Attribute ?_))
  refine wpAny_Name (wpAny_loadName_local rfl (lk_an T.nm) hn₄ hnA ?_) T.nm.n4
  refine wpAny_Name (wpAny_loadName_local rfl lk_self hn₄ hnS ?_) (by decide)
  refine set_plain X₄ (ox := excO C t1) (od := none) ⟨hx₄, rfl, rfl, trivial⟩ T.sa ?_
  refine exc_osa X₄ hx₄ hcl (show refsVE (.ref C :: bm) = true from hbm) rfl T.noN (fun h₅ tk₅ dx k₅ dn dne hx₅ hn₅ => ?_)
  show PySem.wpAt _ _ _ (execs [] _) _ _ _
  have kk : ∀ b o, b ≠ x → hp.get? b = some o → h₄.get? b = some o := fun b o hb e => k₄ b o hb (k₃ _ _ (k₂ _ _ (hk₁ _ _ e)))
  have z : hp.objs.size ≤ h₄.objs.size := by
    obtain ⟨oL, es, ep, hL, _⟩ := hn₄
    exact Nat.le_of_lt (Heap.lt_size hL)
  exact wpAt_of_wpAny (wpAny_execs_nil (hq h₅ tk₅ dx t1 ⟨fun b o hb e => k₅ b o hb (kk b o hb e), hx₅, Nat.le_trans z dn, dne, hn₅⟩))
theorem err_made (T : ErrT P K mg C fI an fn) {hp : Heap} {g : Array GenState} {dr : Drawn} {tk : Nat} {os : OsState} {v : Value} (X : K.In hp) (hlim : hp.NoLimit) (hG : hp.Ns mainGlobals mg) (hB : hp.Ns builtinsNs mb)
    (hbb : ∀ x : Str, x ≠ "__name__" → mb x = bootBuiltins x) (hroom : A.depth + 1 < recursionLimit)
    (hq : ∀ h' tk e d, Made hp h' e C d fn v → R (.ok (.ret (.ref e))) ⟨h', g, dr, tk, os⟩) :
    codeAny (model P w) A (.call (.ref C) ⟨[v], []⟩) R ⟨hp, g, dr, tk, os⟩ := by
  obtain ⟨nm, q, N, bs, bm, sn, sub, ab, col, dd, k0, k1, k2, k3, k5, hC, hbm⟩ := T.cls
  have k : ∀ b o, hp.get? b = some o → ((hp.push (kdv_tup [v])).push (excO C hp.objs.size)).get? b = some o := fun b o e => Heap.get?_push_of_some _ (Heap.get?_push_of_some _ e)
  have hget : ((hp.push (kdv_tup [v])).push (excO C hp.objs.size)).get? (hp.objs.size + 1) = some (excO C hp.objs.size) := by heap_get
  have hnx : K.lookup (hp.objs.size + 1) = none := by
    cases e : K.lookup (hp.objs.size + 1) with
    | none => rfl
    | some o =>
      have z : hp.get? (hp.objs.size + 1) = some o := X _ _ e
      exact absurd (Nat.lt_of_succ_lt (Heap.lt_size z)) (Nat.lt_irrefl _)
  refine call_own F.excBase_ValueError (fun X => refsVE_contains X bm hbm) (X _ _ hC) (looks_findIn X T.iC) (fun self => bind_fn X self T.tC) (one_size v) ?_
  refine err_init T (X.keeps k) (hlim.keeps k) (hG.keeps k) (hB.keeps k) hbb hget hnx ?_ fun h' tk' dx t1 ⟨k', hx, dn, dne, hns⟩ => ?_
  · show A.depth + 1 < recursionLimit
    exact hroom
  · have old : ∀ b o, hp.get? b = some o → h'.get? b = some o := fun b o e => k' b o (Nat.ne_of_lt (Nat.lt_succ_of_lt (Heap.lt_size e))) (k b o e)
    have z : hp.objs.size + 1 + 1 ≤ dx := by
      first
        | (simpa only [Heap.size_push] using dn)
        | exact dn
        | (have q := dn; rw [Heap.size_push, Heap.size_push] at q; exact q)
    exact ⟨rfl, hq h' tk' (hp.objs.size + 1) dx ⟨old, Nat.le_succ _, ⟨_, _, hx, rfl, rfl, rfl, rfl⟩, Nat.le_trans (Nat.le_trans (Nat.le_succ _) (Nat.le_succ _)) z, dne, hns⟩⟩
end
end ErX
namespace Gx
open PySem PySem.Spec PyProof.Rows L2
section
variable {X : Cx} {C fI : Addr} {an fn : Str}
theorem relO_err {v : V} {v' : Value} (r : RelV v v') (fn f : Str) : RelO (List.lookup f [(fn, v)]) (if f = fn then some v' else none) := by
  by_cases hw : f = fn
  · subst hw
    rw [if_pos rfl]
    have q : List.lookup f [(f, v)] = some v := by simp [List.lookup]
    rw [q]
    exact r
  · rw [if_neg hw]
    have qw : (f == fn) = false := by simpa using hw
    have q2 : List.lookup f [(fn, v)] = none := by simp [List.lookup, qw]
    rw [q2]
    trivial
/-- C(e) -/
def tMkErr (C : Addr) (fn : Str) (ta : TA) : L2.St → Hp → XK → Prop := fun σ H Q => ta σ H fun vs H1 => ∃ v, vs = [v] ∧ ∀ d, H1 d = none → Q (.ref C) (some d) (upd H1 d (.xd [(fn, v)]))
theorem pmk_err {x : Str} {a : Expr} {ta : TA} {p pos : Pos} {k : Nat} (T : ErX.ErrT X.prog X.K X.mg C fI an fn) (hr : Room k X.A) (hm : X.mg x = some (.ref C)) (ha : PA X [a] ta) (hg : Gl X x := by rfl) (hdb : (x == ("__debug__" : Str)) = false := by decide)
    (he : starEach (a :: []) X.env = (false, eval a X.env) :: starEach [] X.env := by rfl) (hpl : (backTo pos (starEach [] X.env)).any (·.1) = false := by rfl) :
    PMk X (.Call (.Name x p) [a] [] pos) (tMkErr C fn ta) := by
  intro pins s σ H Q I h
  refine wpAny_Call_Name_kw (ld_glob I hg hm ?_ hdb)
  refine PySem.W.callWith_K (h₀ := X.base) I.ok.mod.kin T.kC (thn (ha.run pos pins s σ H _ I h) fun us s1 hh => ?_) he hpl
  obtain ⟨vs, H1, I1, r1, v, ev, q1⟩ := hh
  subst ev
  refine ⟨I1.kIn, ?_⟩
  cases r1 with
  | cons rv rn =>
    rename_i v' us'
    cases rn
    show wpAny _ _ (call (.ref C) [v']) _ _ _
    have hlim := I1.nolimit
    have hG := I1.mod.glob.keeps I1.bk
    obtain ⟨mb, h1, h2⟩ := I1.mod.blt
    have hB := h1.keeps I1.bk
    obtain ⟨hp, g, dr, tk, os⟩ := s1
    refine wpAny_call (ErX.err_made T I1.kIn hlim hG hB h2 (by have := hr.dp; omega) fun h' tk' e d M => ?_)
    show MkP X pins σ Q (.ref e) ⟨h', g, dr, tk', os⟩
    obtain ⟨oe, fv, hoe, hc, hd, hdat, h1⟩ := M.obj
    have hns := M.ns
    obtain ⟨G', g1, g2⟩ := restrict h' fun b => decide (b ≠ e)
    have gk : ∀ b, b ≠ e → G'.get? b = h'.get? b := fun b hb => g1 b (decide_eq_true hb)
    have ge : G'.get? e = none := g2 e (by simp)
    have old : ∀ b o, hp.get? b = some o → G'.get? b = some o := fun b o q => (gk b (Nat.ne_of_lt (Nat.lt_of_lt_of_le (Heap.lt_size q) M.new))).trans (M.keep b o q)
    have ob : ObjOk X.prog X.w (upd H1 d (.xd [(fn, v)])) G' d (.xd [(fn, v)]) :=
      ⟨_, hns.at (fun o q => (gk d M.dne).trans q), fun f => relO_err rv fn f⟩
    have J : Inv X pins σ (upd H1 d (.xd [(fn, v)])) ⟨G', g, dr, tk', os⟩ := I1.laid (t' := tk') old M.dbig ob
    refine ⟨e, oe, fv, ⟨G', g, dr, tk', os⟩, _, .ref C, some d, rfl, J, fun b o q => ?_, ge, hoe, ⟨hc, hd⟩, hdat, h1, ?_, rfl, I1.bare, raises_own T.exC T.tyC, q1 d (I1.hok.fresh M.dbig)⟩
    · by_cases hb : b = e
      · have q' : G'.get? b = some o := q
        rw [hb, ge] at q'; cases q'
      · exact (gk b hb).symm.trans q
    · rw [upd_ne (Ne.symm M.dne)]
      exact I1.hok.fresh M.new
/-- raise C(e) -/
def tRaiseErr (C : Addr) (fn : Str) (W : WX) (ta : TA) : TS := fun _ σ H => tMkErr C fn ta σ H fun cls d H' => W cls d σ H'
theorem ps_raiseErr {x : Str} {a : Expr} {ta : TA} {W : WX} {p pos pos2 : Pos} {k : Nat} (hc : X.calm = true) (T : ErX.ErrT X.prog X.K X.mg C fI an fn) (hr : Room k X.A) (hm : X.mg x = some (.ref C)) (tk : Takes X W) (ha : PA X [a] ta) (hg : Gl X x := by rfl) (hdb : (x == ("__debug__" : Str)) = false := by decide)
    (he : starEach (a :: []) X.env = (false, eval a X.env) :: starEach [] X.env := by rfl) (hpl : (backTo pos (starEach [] X.env)).any (·.1) = false := by rfl) :
    PS X (.Raise (some (.Call (.Name x p) [a] [] pos)) none pos2) (tRaiseErr C fn W ta) := ps_raise hc tk (pmk_err T hr hm ha hg hdb he hpl)
end
/-! calls of defs that may raise: what is raised is wished for at the caller's slots -/
section
variable {X : Cx} {CX : CXT} {k : Nat} {f C : Addr} {fd : FuncData} {ps : List Str} {sp : Sp} {dvs : List V} {ds : List Value} {E : L2.St → XK} {x m : Str} {p pos apos : Pos} {e o : Expr} {es : List Expr} {ta : TE} {t : TA}
def tMethSD (C : Addr) (m : Str) (sp : Sp) (dvs : List V) (E : L2.St → XK) (ta : TE) (t : TA) : TE := fun σ H Q => ta σ H fun x H1 => ∃ a dx fs, x = .ref a ∧ H1 a = some (.ins C dx fs) ∧ fs.lookup m = none ∧
  t σ H1 fun vs H2 => sp (x :: (vs ++ dvs)) H2 Q (E σ)
def tMakeSD (C : Addr) (sp : Sp) (dvs : List V) (E : L2.St → XK) (t : TA) : TE := fun σ H Q => t σ H fun vs H1 => ∀ x dx, H1 x = none → H1 dx = none → dx ≠ x →
  sp (.ref x :: (vs ++ dvs)) (upd (upd H1 dx (.own x)) x (.ins C dx [])) (fun v H2 => v = .non ∧ Q (.ref x) H2) (E σ)
theorem pe_callSD0 (F : FnOk X.prog X.w X.K X.mg X.base CX k f fd ps sp) (hr : Room k X.A) (hg : Gl X x) (hm : X.mg x = some (.ref f)) (hk : PySem.W.keepIn X.K (.ref f) = true) (hb : Binds X.K fd ps ds) (hd : Vals dvs ds) (hx : ∀ σ, PassesAt CX X σ (E σ))
    (hdb : (x == ("__debug__" : Str)) = false := by decide) : PE X (.Call (.Name x p) [] [] pos) (tCallSD sp dvs E tNil) := by
  refine ⟨fun pins s σ H Q I h => ?_⟩
  refine wpAny_Call_Name_kw (ld_glob I hg hm ?_ hdb)
  exact PySem.W.callWith_K0 I.kIn hk (run_fnSD (us := []) F hr hb hd (hx σ) I .nil h)
theorem pe_methSD {pl : Sem Bool} (he : PE X o ta) (c : Cls X.K C) (hm : Meth X.K C m f) (F : FnOk X.prog X.w X.K X.mg X.base CX k f fd ps sp) (hr : Room k X.A) (hb : Binds X.K fd ps ds) (hd : Vals dvs ds) (hx : ∀ σ, PassesAt CX X σ (E σ)) (ha : PA X (e :: es) t)
    (hst : starEach (e :: es) X.env = (false, eval e X.env) :: starEach es X.env := by rfl) (hpl : (backTo pos (starEach es X.env)).any (·.1) = false := by rfl)
    (ht : eval (.Call (.Attribute o m apos) (e :: es) [] pos) X.env = (do
      let ov ← eval o X.env
      standAt apos.atName
      let (f, first) ← holding [ov] (getMethod ov m pl)
      callWith pos f first (backTo pos (starEach (e :: es) X.env)) (backToKw pos (keywordEach [] X.env))) := by rfl) :
    PE X (.Call (.Attribute o m apos) (e :: es) [] pos) (tMethSD C m sp dvs E ta t) := by
  refine ⟨fun pins s σ H Q I h => ?_⟩
  refine PySem.W.methodCall_KW (pl := pl) (thn (he.run pins s σ H _ I h) fun u s1 ⟨x, H1, I1, rx, a, dx, fs, ex, ea, l, q⟩ => ?_) ht
  subst ex
  obtain rfl : u = Value.ref a := rx
  refine getmeth_ok I1 ea c hm l ?_
  refine PySem.W.callWith_K (first := [.ref a]) (h₀ := X.base) I.ok.mod.kin hm.kp (thn (ha.run pos pins s1 σ H1 _ I1 q) fun us s2 ⟨vs, H2, I2, r, q2⟩ => ⟨I2.kIn, ?_⟩) hst hpl
  exact run_fnSD (us := .ref a :: us) (vs := .ref a :: vs) F hr hb hd (hx σ) I2 (.cons rfl r) q2
theorem pe_methSD0 {pl : Sem Bool} (he : PE X o ta) (c : Cls X.K C) (hm : Meth X.K C m f) (F : FnOk X.prog X.w X.K X.mg X.base CX k f fd ps sp) (hr : Room k X.A) (hb : Binds X.K fd ps ds) (hd : Vals dvs ds) (hx : ∀ σ, PassesAt CX X σ (E σ))
    (ht : eval (.Call (.Attribute o m apos) [] [] pos) X.env = (do
      let ov ← eval o X.env
      standAt apos.atName
      let (f, first) ← holding [ov] (getMethod ov m pl)
      callWith pos f first (backTo pos (starEach [] X.env)) (backToKw pos (keywordEach [] X.env))) := by rfl) :
    PE X (.Call (.Attribute o m apos) [] [] pos) (tMethSD C m sp dvs E ta tNil) := by
  refine ⟨fun pins s σ H Q I h => ?_⟩
  refine PySem.W.methodCall_KW (pl := pl) (thn (he.run pins s σ H _ I h) fun u s1 ⟨x, H1, I1, rx, a, dx, fs, ex, ea, l, q⟩ => ?_) ht
  subst ex
  obtain rfl : u = Value.ref a := rx
  refine getmeth_ok I1 ea c hm l ?_
  exact PySem.W.callWith_K0 (first := [.ref a]) I1.kIn hm.kp (run_fnSD (us := [.ref a]) (vs := [.ref a]) F hr hb hd (hx σ) I1 (.cons rfl .nil) q)
theorem run_makeSD {pins : List (Addr × Obj)} {σ : L2.St} {H : Hp} {s : Shared} {Q : VK} {us : List Value} {vs : List V} (M : Mk X.K C f) (F : FnOk X.prog X.w X.K X.mg X.base CX k f fd ps sp) (hr : Room (k + 1) X.A) (hb : Binds X.K fd ps ds) (hd : Vals dvs ds)
    (hx : PassesAt CX X σ (E σ)) (I : L2.Inv X pins σ H s) (r : Vals vs us)
    (h : ∀ x dx, H x = none → H dx = none → dx ≠ x → sp (.ref x :: (vs ++ dvs)) (upd (upd H dx (.own x)) x (.ins C dx [])) (fun v H2 => v = .non ∧ Q (.ref x) H2) (E σ)) :
    wpAny (model X.prog X.w) X.A (call (.ref C) us) (EP X pins σ Q) X.xe s := by
  have hq := h (s.heap.objs.size + 1) s.heap.objs.size (I.hok.fresh (Nat.le_succ _)) (I.hok.fresh (Nat.le_refl _)) (Nat.ne_of_lt (Nat.lt_succ_self _))
  have I2 := Inv.made (C := C) I
  have r2 : Vals (V.ref (s.heap.objs.size + 1) :: (vs ++ dvs)) (Value.ref (s.heap.objs.size + 1) :: (us ++ ds)) := .cons rfl (r.append hd)
  have hl : (Value.ref (s.heap.objs.size + 1) :: us ++ ds).length = ps.length := by
    have e := r2.length
    rw [F.len _ _ _ _ hq] at e
    exact e.symm
  refine wpAny_call (make_map (f := f) I.kIn M.makes M.init (beq_iff_eq.mp M.fn) (codeAny_mono (F.run _ X.stack _ _ ⟨Value.ref (s.heap.objs.size + 1) :: us, []⟩ (Value.ref (s.heap.objs.size + 1) :: (us ++ ds)) _ _ (E σ) (hr.make C us [])
    (I2.env0.make C us []) (hb _ (Value.ref (s.heap.objs.size + 1) :: us) I2.kIn hl) r2 hq) fun r s' hq' => ?_))
  cases r with
  | error e => exact hx pins _ _ e s' I2 hq'
  | ok fl =>
    cases fl with
    | ret u =>
      obtain ⟨v, H', I3, rv, ev, q3⟩ := I2.after hq'
      subst ev
      exact ⟨rv, ⟨V.ref (s.heap.objs.size + 1), H', I3, rfl, q3⟩⟩
    | next => exact False.elim hq'
    | brk => exact False.elim hq'
    | cont => exact False.elim hq'
theorem pe_makeSD (M : Mk X.K C f) (F : FnOk X.prog X.w X.K X.mg X.base CX k f fd ps sp) (hr : Room (k + 1) X.A) (hg : Gl X x) (hm : X.mg x = some (.ref C)) (hb : Binds X.K fd ps ds) (hd : Vals dvs ds) (hx : ∀ σ, PassesAt CX X σ (E σ))
    (ha : PA X (e :: es) t) (hdb : (x == ("__debug__" : Str)) = false := by decide) (he : starEach (e :: es) X.env = (false, eval e X.env) :: starEach es X.env := by rfl) (hpl : (backTo pos (starEach es X.env)).any (·.1) = false := by rfl) :
    PE X (.Call (.Name x p) (e :: es) [] pos) (tMakeSD C sp dvs E t) := by
  refine ⟨fun pins s σ H Q I h => ?_⟩
  refine wpAny_Call_Name_kw (ld_glob I hg hm ?_ hdb)
  refine PySem.W.callWith_K (h₀ := X.base) I.ok.mod.kin M.kp (thn (ha.run pos pins s σ H _ I h) fun us s1 ⟨vs, H1, I1, r, q⟩ => ⟨I1.kIn, ?_⟩) he hpl
  exact run_makeSD M F hr hb hd (hx σ) I1 r q
/-! readings -/
variable {σ : L2.St} {H : Hp} {Q : VK} {D : Ends}
theorem go_callSD (h : t σ H fun vs H1 => sp (vs ++ dvs) H1 Q (E σ)) : tCallSD sp dvs E t σ H Q := h
theorem go_methSD (h : ta σ H fun x H1 => ∃ a dx fs, x = .ref a ∧ H1 a = some (.ins C dx fs) ∧ fs.lookup m = none ∧ t σ H1 fun vs H2 => sp (x :: (vs ++ dvs)) H2 Q (E σ)) : tMethSD C m sp dvs E ta t σ H Q := h
theorem go_makeSD (h : t σ H fun vs H1 => ∀ x dx, H1 x = none → H1 dx = none → dx ≠ x →
  sp (.ref x :: (vs ++ dvs)) (upd (upd H1 dx (.own x)) x (.ins C dx [])) (fun v H2 => v = .non ∧ Q (.ref x) H2) (E σ)) : tMakeSD C sp dvs E t σ H Q := h
theorem go_raise {W : WX} {fn : Str} (h : t σ H fun vs H1 => ∃ v, vs = [v] ∧ ∀ d, H1 d = none → W (.ref C) (some d) σ (upd H1 d (.xd [(fn, v)]))) : tRaiseErr C fn W t D σ H := h
end
/-! a def called within an except suite (it raises nothing itself) -/
structure RoomM (k : Nat) (A : Around) : Prop where
  dp : A.depth + 3 * k + 5 < recursionLimit
  un : A.units + 16 * k + 200 < cLine
theorem RoomM.mono {j k : Nat} {A : Around} (r : RoomM k A) (h : j ≤ k) : RoomM j A := ⟨by have := r.dp; omega, by have := r.un; omega⟩
theorem RoomM.deeper {k : Nat} {A : Around} (r : RoomM (k + 1) A) (env : Env) : RoomM k (A.deeper env) :=
  ⟨by have := r.dp; show A.depth + 1 + 3 * k + 5 < _; omega, by have := r.un; show A.units + 3 + 16 * k + 200 < _; omega⟩
theorem RoomM.depth {k : Nat} {A : Around} (r : RoomM k A) : A.depth < recursionLimit := by have := r.dp; omega
theorem roomM_mark {k : Nat} {A : Around} (r : Room k A) (h : Option Value) : RoomM k (A.mark h) := ⟨r.dp, r.un⟩
structure FnM (P : Program) (w : World) (K : PySem.W.Frag) (mg : Str → Option Value) (base : Heap) (k : Nat) (f : Addr) (fd : FuncData) (ps : List Str) (sp : Sp) : Prop where
  len : ∀ vs H Q E, sp vs H Q E → vs.length = ps.length
  run : ∀ (A : Around) (outer : List Env) (s : Shared) (H : Hp) (args : Args) (us : List Value) (vs : List V) (Q : VK), RoomM k A → Env0 P w K mg base A outer s H → BindsTo s fd args (ps.zip us) → Vals vs us → sp vs H Q E0 →
    codeAny (model P w) A (.call (.ref f) args) (CR CX0 outer P w H s Q E0) s
def cxM (P : Program) (w : World) (K : PySem.W.Frag) (mg : Str → Option Value) (base : Heap) (N : List Str) (qual : Str) (scope : Scope) (f : Addr) (cd : Value) (A : Around) (outer : List Env) (s : Shared) (H : Hp) : Cx :=
  { cxOf CX0 P w K mg base N qual scope f cd A outer s H E0 with calm := false }
theorem inv_startM {P : Program} {w : World} {K : PySem.W.Frag} {mg : Str → Option Value} {base : Heap} {N ps : List Str} {qual : Str} {scope : Scope} {f : Addr} {cd : Value} {A : Around} {outer : List Env} {s s1 : Shared} {H : Hp} {us : List Value} {vs : List V}
    (S : FnScope N ps scope) (e0 : Env0 P w K mg base A outer s H) (hl : vs.length = ps.length) (r : Vals vs us)
    (x : InCallC s s.heap.objs.size (bindL (envOfC qual scope s.heap.objs.size f cd).kindOf (ps.zip us) fun _ => none) (cellsFrom (s.heap.objs.size + 1) scope.names []) (bindC (envOfC qual scope s.heap.objs.size f cd).kindOf (ps.zip us) fun _ => none) s1) :
    L2.Inv (cxM P w K mg base N qual scope f cd A outer s H) [] (L2.start N vs) H s1 := by
  have hpl : ps.length ≤ N.length := by have := congrArg List.length S.pre; rw [List.length_take] at this; omega
  obtain ⟨h1, tk, rfl, hk⟩ := x.done
  have noA : ∀ b : Addr, b ∉ (cxM P w K mg base N qual scope f cd A outer s H).ex := fun b z => absurd (show b ∈ ([] : List Addr) from z) (by simp)
  refine ⟨⟨e0.mod, S.kind, rfl, rfl, Nat.le_refl _, fun y z c h1 h2 => ?_, fun y hy => ?_, fun y c _ h => ?_, (fun z => Bool.noConfusion (show false = true from z)), Around.frames_deeper e0.frames, .inr ⟨rfl, rfl⟩, fun b z => absurd z (noA b), e0.bs, e0.bsz, fun b _ _ => noA b, fun b z => absurd z (noA b), e0.funs, e0.frf⟩,
    rfl, e0.bare, Un.kept hk, ⟨_, x.toInCall.ns, fun i y v h1 h2 h3 => ?_⟩, fun y c h => ⟨_, x.cell y c h⟩, e0.hok.fresh (Nat.le_refl _), fun y c h => ?_, fun p hp => absurd (show p ∈ ([] : List (Addr × Obj)) from hp) (by simp), e0.hok.kept hk, ?_⟩
  · exact name_of_addr x.apart (PySem.mem_of_lookup h1) (PySem.mem_of_lookup h2)
  · have hy : scope.names.lookup y = some .cell ∨ scope.names.lookup y = some .free := hy
    rcases hy with hy | hy
    · exact cell_has hy
    · exact absurd rfl (S.nofree _ (PySem.mem_of_lookup hy))
  · exact Nat.le_of_lt (x.above y c (PySem.mem_of_lookup h))
  · have hi : i < vs.length := by
      unfold L2.start at h2
      by_cases hi : i < vs.length
      · exact hi
      · rw [List.getElem?_append_right (by simpa using hi)] at h2
        rw [List.getElem?_replicate] at h2
        split at h2 <;> cases h2
    have ha : vs[i]? = some v := by
      unfold L2.start at h2
      rw [List.getElem?_append_left (by simpa using hi), List.getElem?_map] at h2
      cases e : vs[i]? with
      | none => rw [e] at h2; cases h2
      | some a => rw [e] at h2; cases h2; rfl
    obtain ⟨u, hu, rv⟩ := r.get ha
    have hp : ps[i]? = some y := by
      rw [← S.pre, List.getElem?_take_of_lt (by omega)]; exact h1
    have ndP : ps.Nodup := by rw [← S.pre]; exact S.nd.sublist (List.take_sublist _ _)
    refine ⟨u, rv, ?_⟩
    rcases S.par y (List.mem_of_getElem? hp) with k | k
    · exact .inl ⟨k, bindL_get ndP hp hu k⟩
    · obtain ⟨c, e⟩ := cell_has (n := s.heap.objs.size + 1) k
      refine .inr ⟨.inl k, c, e, ?_⟩
      have q := x.cell y c e
      rw [bindC_get ndP hp hu (by show scope.names.lookup y ≠ _; rw [k]; decide)] at q
      exact q
  · exact e0.hok.fresh (Nat.le_of_lt (x.above y c (PySem.mem_of_lookup h)))
  · unfold L2.start
    show _ = N.length
    rw [List.length_append, List.length_map, List.length_replicate]
    omega
section
variable {P : Program} {w : World} {K : PySem.W.Frag} {mg : Str → Option Value} {base : Heap}
theorem Fun.okM {x qual : Str} {st : Stmt} {f : Addr} {fd : FuncData} {N ps : List Str} {k : Nat} {sp : Sp} (F : Fun K x qual st f fd) (S : FnScope N ps (defScope st)) (len : ∀ vs H Q E, sp vs H Q E → vs.length = ps.length)
    (hbody : ∀ (cdv : Value) (A : Around) (outer : List Env) (s : Shared) (H : Hp) (vs : List V) (Q : VK), RoomM k (A.deeper (envOfC qual (defScope st) s.heap.objs.size f cdv)) → sp vs H Q E0 →
      ∃ t, PSs (cxM P w K mg base N qual (defScope st) f cdv A outer s H) (defBody st) t ∧ t { nx := fun _ H' => Q .non H', rt := Q } (L2.start N vs) H) : FnM P w K mg base (k + 1) f fd ps sp := by
  obtain ⟨oc, od, kV, doc, pm, an, cdv, ct, osl, rfl, lk, hcd⟩ := F.ex
  refine ⟨len, fun A outer s H args us vs Q hr e0 hb r hsp => ?_⟩
  have hl := len _ _ _ _ hsp
  have KX : K.In s.heap := e0.mod.kin.keeps fun b o e => (e0.bs b o e).1
  have lim : s.heap.NoLimit := e0.mod.nolimit.keeps fun b o e => (e0.bs b o e).1
  have hkind : ∀ y ∈ ps.zip us, (defScope st).names.lookup y.1 = some .local ∨ ((defScope st).names.lookup y.1 = some .cell ∧ ((cellsFrom (s.heap.objs.size + 1) (defScope st).names []).lookup y.1).isSome = true) := fun ⟨n, v⟩ hy => by
    rcases S.par n (List.of_mem_zip hy).1 with q | q
    · exact .inl q
    · exact .inr ⟨q, PySem.W.cellsFrom_some _ _ _ (.inl q)⟩
  refine codeAny_call_function hr.depth (KX _ _ lk) rfl S.co S.gen rfl (PySem.W.codeRec_of KX hcd) (hb _ _ _ _ ?_)
  refine wpAny_newFunctionEnv_cells S.kind hkind fun env he s1 x => ?_
  subst he
  refine ⟨lim.keeps x.toInCall.keep, codeAny_func ?_⟩
  obtain ⟨t, ht, hq⟩ := hbody cdv A outer s H vs Q (hr.deeper _) hsp
  have I : L2.Inv (cxM P w K mg base N qual (defScope st) f cdv A outer s H) [] (L2.start N vs) H s1 := inv_startM S e0 hl r x
  refine wpAny_mono (ht.run [] s1 (L2.start N vs) H _ I hq) (fun fl s' hs => ?_) fun e s' hs => hs
  have fin : ∀ {σ' : L2.St} {H' : Hp} {v : V} {u : Value}, L2.Inv (cxM P w K mg base N qual (defScope st) f cdv A outer s H) [] σ' H' s' → RelV v u → Q v H' → CE outer P w H s Q u s' :=
    fun {σ' H' v u} J rv q => ⟨v, H', J.os, J.bare, J.base, J.hok, rv, q⟩
  cases fl with
  | ret u =>
    obtain ⟨v, σ', H', J, rv, q⟩ := hs
    exact fin J rv q
  | next =>
    obtain ⟨σ', H', J, q⟩ := hs
    exact fin (v := V.non) (u := Value.none) J rfl q
  | brk =>
    obtain ⟨_, _, _, q⟩ := hs
    exact False.elim q
  | cont =>
    obtain ⟨_, _, _, q⟩ := hs
    exact False.elim q
end
section
variable {X : Cx} {k : Nat} {f : Addr} {fd : FuncData} {ps : List Str} {sp : Sp} {x : Str} {q pos : Pos} {e : Expr} {es : List Expr} {t : TA}
theorem pe_callM (F : FnM X.prog X.w X.K X.mg X.base k f fd ps sp) (hr : RoomM k X.A) (hg : Gl X x) (hm : X.mg x = some (.ref f)) (hk : PySem.W.keepIn X.K (.ref f) = true) (hb : Binds X.K fd ps [])
    (ha : PA X (e :: es) t) (hdb : (x == ("__debug__" : Str)) = false := by decide) (he : starEach (e :: es) X.env = (false, eval e X.env) :: starEach es X.env := by rfl) (hpl : (backTo pos (starEach es X.env)).any (·.1) = false := by rfl) :
    PE X (.Call (.Name x q) (e :: es) [] pos) (tCall sp [] E0 t) := by
  refine ⟨fun pins s σ H Q I h => ?_⟩
  refine wpAny_Call_Name_kw (ld_glob I hg hm ?_ hdb)
  refine PySem.W.callWith_K (h₀ := X.base) I.ok.mod.kin hk (thn (ha.run pos pins s σ H _ I h) fun us s1 ⟨vs, H1, I1, r, q⟩ => ⟨I1.kIn, ?_⟩) he hpl
  have q : sp vs H1 Q E0 := by
    have z : sp (vs ++ []) H1 Q E0 := q
    rwa [List.append_nil] at z
  have hl : us.length = ps.length := by rw [← r.length]; exact F.len _ _ _ _ q
  have b := hb s1 us I1.kIn (by rw [List.append_nil]; exact hl)
  rw [List.append_nil] at b
  refine wpAny_call (codeAny_mono (F.run X.A X.stack s1 H1 ⟨us, []⟩ us vs Q hr I1.env0 b r q) fun r s' hq => ?_)
  cases r with
  | error e => exact False.elim hq
  | ok fl =>
    cases fl with
    | ret u => exact I1.after hq
    | next => exact False.elim hq
    | brk => exact False.elim hq
    | cont => exact False.elim hq
end
/-- what is raised is the clause's -/
theorem we_as {K : PySem.W.Frag} {c cls : Value} {i : Nat} {ts : Addr → Value → Option Addr → TS} {Wout : WX} {D : Ends} {σ : L2.St} {H : Hp} {d : Option Addr} (hc : PySem.W.exmOne K cls c = some true)
    (h : ∀ a, H a = none → ts a cls d { nx := fun σ' H' => D.nx (σ'.set i none) H', rt := D.rt, bk := fun σ' H' => D.bk (σ'.set i none) H', ct := fun σ' H' => D.ct (σ'.set i none) H' } (σ.set i (some (.ref a))) H) :
    WE (wAs K c i ts Wout D) σ cls d H := ⟨true, hc, fun _ => h, fun q => Bool.noConfusion q⟩
/-- e.f of a caught error whose dict tells f -/
theorem go_xf {a C : Addr} {cls : Value} {d : Option Addr} {f : Str} {te : TE} {σ : L2.St} {H : Hp} {Q : VK} (h : te σ H fun x H1 => x = .ref a ∧ cls = .ref C ∧ ∃ (dd : Addr) (fs : List (Str × V)) (v : V), d = some dd ∧ H1 dd = some (.xd fs) ∧ fs.lookup f = some v ∧ Q v H1) :
    tXf a cls d C f te σ H Q := h
end Gx
/-! isinstance of the error that a suite holds -/
namespace Gx
open PySem PySem.Spec PyProof.Rows L2
/-- what the class D must say, so that isinstance asks its instances rightly -/
structure ExD (K : PySem.W.Frag) (D : Addr) : Prop where
  cl : (PySem.W.clsIn K D).isSome = true
  hg : PySem.W.findIn K (.ref D) "__getattribute__" = some (some (.builtin "BaseException.__getattribute__"))
  hk : PySem.W.findIn K (.ref D) "__getattr__" = some none
  hs : PySem.W.subIn K (.ref D) (.type "BaseException") = some true
  ha : PySem.W.findIn K (.ref D) "__class__" = some (some (.builtin "object.__class__"))
  hn : PySem.W.specialIn K (.builtin "object.__class__") "__get__" = some (some (.builtin "getset_descriptor.__get__"))
  ht : PySem.W.takesIn K (.builtin "object.__class__") = some true
  hm : PySem.W.mroIn K D (.type "object") = some true
/-- what is asked of: one class, or a written tuple of classes -/
inductive AskX (K : PySem.W.Frag) (D : Addr) (H : Hp) (b : Bool) : V → Prop
  | one {c : V} {cv : Value} : (∀ u, RelV c u → u = cv) → PySem.W.kitOne K (.ref D) cv = some b → AskX K D H b c
  | tup {tp : Addr} {cs : List V} {cvs : List Value} : H tp = some (.tup cs) → (∀ us, Vals cs us → us = cvs) → PySem.W.kitAny K (.ref D) cvs = some b → AskX K D H b (.ref tp)
def rIsX (K : PySem.W.Frag) (cls : Value) (d : Option Addr) (a : Addr) : List V → Hp → VK → Prop := fun xs H Q => ∃ (D dd : Addr) (fs : List (Str × V)) (b : Bool) (c : V),
  xs = [.ref a, c] ∧ cls = .ref D ∧ d = some dd ∧ H dd = some (.xd fs) ∧ ExD K D ∧ AskX K D H b c ∧ Q (.bl b) H
theorem call_isX {X : Cx} {a : Addr} {oe : Obj} {cls : Value} {d : Option Addr} {pn : List (Addr × Obj)} (hz : Zc cls d oe) (hf : ∃ vs, oe.data = .fields vs) : CallR (X.suite a ((a, oe) :: pn)) (.builtin "isinstance") (rIsX X.K cls d a) := by
  intro pins s σ H xs us Q I r h
  obtain ⟨D, dd, fs, b, c, rfl, rfl, rfl, ed, C, ask, q⟩ := h
  cases r with
  | cons rx rr =>
    cases rr with
    | cons rt rr =>
      cases rr
      cases rx
      obtain ⟨hget, _⟩ := I.pin (a, oe) (List.mem_append.mpr (.inl List.mem_cons_self))
      obtain ⟨vs, hv⟩ := hf
      have hx : ObjOk X.prog X.w H s.heap dd (.xd fs) := I.hok dd _ ed
      obtain ⟨mA, hns, _⟩ := hx
      obtain ⟨od, _, _, hod, _⟩ := hns
      have J : PySem.W.InstAt s.heap a oe D (some od) := by
        obtain ⟨oc, odd, oda, osl⟩ := oe
        obtain ⟨h1, h2⟩ := hz
        dsimp only at h1 h2 hv
        subst h1 h2 hv
        exact ⟨hget, rfl, rfl, hod⟩
      have KX := PySem.W.kitx_exc (K := X.K) (C := D) (x := a) (ox := oe) (od := some od) C.cl C.hg C.hk C.hs C.ha C.hn C.ht C.hm
      cases ask with
      | one hcv e =>
        have ec := hcv _ rt
        subst ec
        exact PySem.W.kia_one KX I.kIn J e (fun z => nomatch z) fun tk => ⟨.bl b, H, I.kept (t' := tk) fun _ _ z => z, rfl, q⟩
      | tup ht hcs e =>
        cases rt
        have hx : ObjOk X.prog X.w H s.heap _ (.tup _) := I.hok _ _ ht
        obtain ⟨_, its, hv, hi⟩ := hx
        have ec := hcs _ hv
        subst ec
        obtain ⟨⟨oc', od', oda', osl'⟩, h1, h2, n, h3⟩ := hi
        dsimp only at h2 h3
        subst h2 h3
        exact PySem.W.kia_tup KX I.kIn J h1 e (fun z => nomatch z) fun tk => ⟨.bl b, H, I.kept (t' := tk) fun _ _ z => z, rfl, q⟩
/-- values of written class names -/
inductive ClsVs : List V → List Value → Prop
  | nil : ClsVs [] []
  | ref {a : Addr} {cs : List V} {cvs : List Value} : ClsVs cs cvs → ClsVs (.ref a :: cs) (.ref a :: cvs)
theorem ClsVs.only {cs : List V} {cvs : List Value} (h : ClsVs cs cvs) : ∀ us, Vals cs us → us = cvs := by
  induction h with
  | nil => intro us r; cases r; rfl
  | ref _ ih =>
    intro us r
    cases r with
    | cons rx rr =>
      cases rx
      rw [ih _ rr]
/-- one own class -/
theorem AskX.cls {K : PySem.W.Frag} {D C : Addr} {H : Hp} {b : Bool} (e : PySem.W.kitOne K (.ref D) (.ref C) = some b) : AskX K D H b (.ref C) := .one (cv := .ref C) (fun u r => by cases r; rfl) e
/-- one built-in class -/
theorem AskX.ty {K : PySem.W.Frag} {D : Addr} {T : String} {H : Hp} {b : Bool} (e : PySem.W.kitOne K (.ref D) (.type T) = some b) : AskX K D H b (.ty T) := .one (cv := .type T) (fun u r => by cases r; rfl) e
theorem go_isX {K : PySem.W.Frag} {D dd a : Addr} {fs : List (Str × V)} {b : Bool} {c : V} {H : Hp} {Q : VK} (ed : H dd = some (.xd fs)) (C : ExD K D) (ask : AskX K D H b c) (h : Q (.bl b) H) : rIsX K (.ref D) (some dd) a [.ref a, c] H Q :=
  ⟨D, dd, fs, b, c, rfl, rfl, rfl, ed, C, ask, h⟩
end Gx

set_option Elab.async false
set_option linter.all false
set_option maxRecDepth 100000
set_option maxHeartbeats 4000000
/-! Own lemmas: a list comprehension whose element may let an error out. -/
namespace Gx
open PySem PySem.Spec PyProof.Rows L2
theorem note_env {u : Value} {ce env : Env} (h : ce.frame = env.frame) : noteFrame u ce = noteFrame u env := by
  unfold PySem.noteFrame PySem.frameOf
  rw [h]
def hid (h : Heap) (C : Addr) : Heap := PySem.W.hideAll h [C]
theorem hid_get {h : Heap} {C b : Addr} {o : Obj} (e : h.get? b = some o) (n : b ≠ C) : (hid h C).get? b = some o := PySem.W.hideAll_get _ e (by simpa using n)
theorem of_hid {h : Heap} {C b : Addr} {o : Obj} (e : (hid h C).get? b = some o) : h.get? b = some o := PySem.W.of_hideAll _ e
theorem hid_self {h : Heap} {C : Addr} : (hid h C).get? C = none := PySem.W.hideAll_none _ (by simp)
theorem hid_none {h : Heap} {C b : Addr} (e : h.get? b = none) : (hid h C).get? b = none := by
  cases q : (hid h C).get? b with
  | none => rfl
  | some o => rw [of_hid q] at e; cases e
theorem hid_ne {h : Heap} {C b : Addr} {o : Obj} (e : (hid h C).get? b = some o) : b ≠ C := fun z => by
  rw [z, hid_self] at e
  cases e
theorem ff_but {base B h h' : Heap} {C : Addr} (sb : Heap.SameBut C h h') (hn : ∀ b, base.get? b = none → B.get? b = none) : ∀ {l : List Env}, C ∉ frs l → h.FunFrames base l → h'.FunFrames B l
  | [], _, _ => trivial
  | env :: l, nC, ⟨hk, ⟨L, o, hf, h1, ho, hd⟩, hr⟩ => by
    have e1 : frs (env :: l) = L :: frs l := by
      unfold frs
      rw [List.filterMap_cons, hf]
    rw [e1] at nC
    refine ⟨hk, ⟨L, o, hf, hn _ h1, ?_, hd⟩, ff_but sb hn (fun z => nC (List.mem_cons_of_mem _ z)) hr⟩
    rw [sb.2 L (fun z => nC (z ▸ List.mem_cons_self))]
    exact ho
section
variable {X : Cx} {pins : List (Addr × Obj)} {σ : L2.St} {H H' : Hp} {sO s2 : Shared} {B : Heap} {W : WX}
/-- an exception held at our frame, behind a call's work -/
theorem xe_held {a : Addr} {cls : Value} {d : Option Addr} (J : Inv X pins σ H sO) (hh : HandSPX.HeldZ B X.stack a (Zc cls d) X.env.locals s2.heap) (hB : HOk X.prog X.w H' B) (ub : UB (frs X.stack) H H' sO.heap B s2.heap)
    (na : H' a = none) (os : s2.os = sO.os) (ag : AllBare s2.gens) (hw : W cls d σ H') : XE X W (.ref a) s2 := by
  obtain ⟨N, n1, n2⟩ := restrict s2.heap fun c => (B.get? c).isSome || decide (c ∈ frs X.stack)
  have stay : B.StaysIn s2.heap := hh.1
  have inN : ∀ c u, B.get? c = some u → N.get? c = some u := fun c u q =>
    (n1 c (by simp [q])).trans (stay c u q)
  have frN : ∀ c, c ∈ frs X.stack → N.get? c = s2.heap.get? c := fun c q =>
    n1 c (by simp [q])
  have fromN : ∀ c u, N.get? c = some u → s2.heap.get? c = some u ∧ ((B.get? c).isSome = true ∨ c ∈ frs X.stack) := fun c u q => by
    by_cases k : ((B.get? c).isSome || decide (c ∈ frs X.stack)) = true
    · rw [n1 c k] at q
      exact ⟨q, by simpa [Bool.or_eq_true] using k⟩
    · rw [n2 c (by simpa using k)] at q
      cases q
  refine ⟨a, B, { sO with heap := N, gens := s2.gens, drawn := s2.drawn, toks := s2.toks }, pins, σ, H', cls, d, rfl, ?_, ?_,
    Heap.UpToSlots.of_keeps fun c u q => (fromN c u q).1, .inr (.inr hh), na, os, ag, hw⟩
  · refine J.call (ch := []) ⟨fun c u q n hc _ => inN c u (ub.keep c u q n hc), fun c u q n hc _ => ?_, fun c u q n _ => ub.free c u q n, fun c u q _ => ?_, ub.tups, ub.frzs, ub.tbls⟩
      (hB.kept inN) ag (fun _ z => nomatch z)
    · obtain ⟨sl, k⟩ := ub.slot c u q hc
      exact ⟨sl, (frN c hc).trans k⟩
    · by_cases hc : c ∈ frs X.stack
      · obtain ⟨sl, k⟩ := ub.slot c u q hc
        exact ⟨_, (frN c hc).trans k⟩
      · obtain ⟨v, k⟩ := ub.there c u q hc
        exact ⟨v, inN c v k⟩
  · intro c u q hc
    obtain ⟨k1, k2⟩ := fromN c u q
    rcases k2 with k2 | k2
    · obtain ⟨v, k3⟩ := Option.isSome_iff_exists.mp k2
      have k4 := stay c v k3
      rw [k1] at k4
      cases k4
      exact k3
    · exact absurd k2 hc
end
/-- the block's context, with what it owes for an error -/
abbrev blkE (X : Cx) (s : Shared) (H : Hp) (scope : Scope) (ce : Env) (fp : List Addr) : Cx :=
  { X.blk s H scope ce fp with xe := notedBy (model X.prog X.w) X.A ce (CompFails (model X.prog X.w) X.A X.xe ce) }
section
variable {X : Cx} {pins pins' : List (Addr × Obj)} {σ σ' : L2.St} {H H3 : Hp} {s s3 s' : Shared} {scope : Scope} {ce : Env} {fp : List Addr}
theorem ok_xe {y : Value → Shared → Prop} (k : X.Ok) : ({ X with xe := y } : Cx).Ok := { k with }
theorem inv_xe {y : Value → Shared → Prop} (I : Inv X pins σ H s) : Inv { X with xe := y } pins σ H s := ⟨ok_xe I.ok, I.os, I.bare, I.base, I.loc, I.cell, I.free, I.freeC, I.pin, I.hok, I.len⟩
/-- an error out of the block's element -/
theorem blk_pass {E : XK} (I3 : Inv X pins σ H3 s3) (f3 : ∀ b ∈ fp, FpOk X pins H3 b ∧ b < s3.heap.objs.size) (hC : ce.locals = s3.heap.objs.size) (hce : ce.frame = X.env.frame) (hs : X.stack = X.env :: X.outer)
    (hf : X.env.frame = some X.env.locals) (tk : Takes X (fun cls d _ H => E cls d H)) {u : Value} (I : Inv (blkE X s3 H3 scope ce fp) pins' σ' H s) (c : CX X.prog X.w X.stack H s E u s') :
    notedBy (model X.prog X.w) X.A ce (CompFails (model X.prog X.w) X.A X.xe ce) u s' := by
  obtain ⟨a, B, H', cls, d, rfl, fl, hok, ub, na, os, ag, hE⟩ := c
  have hfr : X.A.frames = some (X.env :: X.outer) := by rw [I3.ok.frames, hs]
  generalize hCe : ce.locals = C at *
  have nC : C ∉ frs X.stack := fun z => by
    rcases List.mem_cons.mp (I3.stkSub C z) with z | z
    · have := I3.lt
      rw [← z, hC] at this
      exact Nat.lt_irrefl _ this
    · exact I3.nofs (Nat.le_of_eq hC.symm) z
  have hHC : H C = none := by
    have := I.free
    rw [← hCe]
    exact this
  obtain ⟨m, hns, _⟩ := I.loc
  have hns : s.heap.Ns C m := by rw [← hCe]; exact hns
  obtain ⟨oC, es, ep, eC, dC, r1, r2⟩ := hns
  have eB : B.get? C = some oC := ub.keep C oC eC hHC nC
  have aC : a ≠ C := fun z => by
    have k := fl.2.1
    rw [z, eB] at k
    cases k
  have fl2 : HandSPX.FlyingZ (hid B C) (X.env :: X.outer) a (Zc cls d) s'.heap := by
    obtain ⟨f1, f2, f4, oe, vs, T, oT, ts, t1, t2, t3, t4, t5, t6⟩ := fl
    rw [hs] at f4
    exact ⟨fun b o q => f1 b o (of_hid q), hid_none f2, ff_but (C := C) (Heap.SameBut.refl C _) (fun b q => hid_none q) (by rw [← hs]; exact nC) f4, oe, vs, T, oT, ts, t1, t2, t3, t4, hid_none t5, t6⟩
  unfold notedBy
  rw [note_env hce]
  refine HandSPX.looks_onZ Zc.steady hfr hf fl2 fun h1 hh1 up1 => ?_
  obtain ⟨sl1, eC1⟩ := up1 C oC (fl.1 C oC eB) (fun vs z => by rw [dC] at z; cases z)
  refine ⟨m, by rw [hCe]; exact ⟨_, es, ep, eC1, dC, r1, r2⟩, fun h2 m2 _ sb => ?_⟩
  rw [hCe] at sb
  have hh2 : HandSPX.HeldZ (hid B C) (X.env :: X.outer) a (Zc cls d) X.env.locals h2 := by
    obtain ⟨f1, f2, f4, oe, vs, T, oT, ts, t1, t2, t3, t4, t5, t6, t7, t8, t9⟩ := hh1
    have nT : T ≠ C := fun z => by
      rw [z, eC1] at t7
      cases t7
      rw [dC] at t8
      cases t8
    exact ⟨fun b o q => (sb.2 b (hid_ne q)).trans (f1 b o q), f2, ff_but (C := C) sb (fun b q => q) (by rw [← hs]; exact nC) f4, oe, vs, T, oT, ts, (sb.2 a aC).trans t1, t2, t3, t4, t5, t6, (sb.2 T nT).trans t7, t8, t9⟩
  have keep2 := hh2
  obtain ⟨_, _, _, oe, vs, T, oT, ts, t1, t2, t3, t4, t5⟩ := keep2
  unfold PySem.passOn
  refine wpAny_bind (wpAny_field t1 t3 t4 ?_)
  rw [if_neg (by simp)]
  refine wpAny_bind ?_
  rw [hce, hf]
  refine HandSPX.setFlight_onZ hh2 fun h3 hh3 up3 => ?_
  refine wpAny_throw (tk _ _ ?_)
  have sO : Inv X pins σ H { s with heap := hid s.heap C } := by
    refine I3.call' (ch := fp) I.os ?_ (fun b o q => ?_) I.bare fun b hb => ⟨(f3 b hb).1.2.2.2.1, (f3 b hb).1.2.1, (f3 b hb).1.2.2.2.2.1, (f3 b hb).1.2.2.2.2.2⟩
    · have old : ∀ b o, s3.heap.get? b = some o → b ≠ C := fun b o q z => by
        have := Heap.lt_size q
        rw [z, hC] at this
        exact Nat.lt_irrefl _ this
      have U := I.base
      exact ⟨fun b o q n k1 k2 => hid_get (U.keep b o q n k1 k2) (old b o q), fun b o q n k1 k2 => let ⟨sl, k⟩ := U.slot b o q n k1 k2; ⟨sl, hid_get k (old b o q)⟩, U.free,
        fun b o q k => let ⟨v, k2⟩ := U.there b o q k; ⟨v, hid_get k2 (old b o q)⟩, U.tups, U.frzs, U.tbls⟩
    · refine (I.hok b o q).stay (fun c v hc k => hid_get k fun z => ?_) (fun _ k => k) fun _ _ k => k
      rcases hc with z2 | z2
      · rw [← z2, z, hHC] at q
        cases q
      · rw [z, hHC] at z2
        cases z2
  have hH'C : H' C = none := ub.free C oC eC hHC
  refine xe_held (B := hid B C) (H' := H') (s2 := { s' with heap := h3 }) sO (by rw [hs]; exact hh3) (fun b o q => ?_) ⟨fun b o q n k => hid_get (ub.keep b o (of_hid q) n k) (hid_ne q), fun b o q k => ?_, fun b o q n => ub.free b o (of_hid q) n, fun b o q k => ?_, ub.tups, ub.frzs, ub.tbls⟩ na os ag hE
  · refine (hok b o q).stay (fun c v hc k => hid_get k fun z => ?_) (fun _ k => k) fun _ _ k => k
    rcases hc with z2 | z2
    · rw [← z2, z, hH'C] at q
      cases q
    · rw [z, hH'C] at z2
      cases z2
  · obtain ⟨_, o2, e2, nf⟩ := I.stack.mem k
    rw [of_hid q] at e2
    cases e2
    obtain ⟨s1, k1⟩ := ub.slot b o (of_hid q) k
    obtain ⟨s4, k4⟩ := up1 b _ k1 nf
    have k5 : h2.get? b = some { o with slots := s4 } := (sb.2 b (hid_ne q)).trans k4
    obtain ⟨s6, k6⟩ := up3 b _ k5 nf
    exact ⟨s6, k6⟩
  · obtain ⟨v, k2⟩ := ub.there b o (of_hid q) k
    exact ⟨v, hid_get k2 (hid_ne q)⟩
theorem lc_err {elt tg iter : Expr} {ifs : List Expr} {own : List (Str × Nat)} {pos pos' : Pos} {wi : TI} {g : TG} {tt : TT} {te : TE} {E : XK} {Q : VK} {use : Option (Value → Sem Unit)} {Qf : Value → Shared → Prop}
    (hc : X.calm = true) (hN : X.N.Nodup) (I : Inv X pins σ H s) (hi : PI X tg iter wi) (ok : BlkOk X.N X.env.scope scope own) (hst : X.stack = X.env :: X.outer) (hfr : X.env.frame = some X.env.locals) (tk : Takes X (fun cls d _ H => E cls d H))
    (hg : ∀ (s : Shared) (H : Hp) (C : Addr) (cl : List (Str × Addr)) (fp : List Addr), PG (blkE X s H scope (compEnvC scope cl C X.env) fp) tg g)
    (ht : ∀ (s : Shared) (H : Hp) (C : Addr) (cl : List (Str × Addr)) (fp : List Addr), PTs (blkE X s H scope (compEnvC scope cl C X.env) fp) ifs tt)
    (he : ∀ (s : Shared) (H : Hp) (C : Addr) (cl : List (Str × Addr)) (fp : List Addr), (∀ σ, PassesAt (L2.CX X.prog X.w) (blkE X s H scope (compEnvC scope cl C X.env) fp) σ E) → PE (blkE X s H scope (compEnvC scope cl C X.env) fp) elt te)
    (hs : ∀ x, foldedSetIterable iter X.env x = pure x) (h : tLc wi g tt te (own.map (·.2)) σ H Q)
    (fine : ∀ D C s' m H', Inv X pins σ H' s' → Q (.ref D) H' → s'.heap.Ns C m → FpOk X pins H' C → ∀ ce : Env, ce.locals = C → compEnds (model X.prog X.w) X.A X.xe use Qf (.ref D) ce (.ok .next) s') :
    wpAny (model X.prog X.w) X.A (comprehension (.ListComp elt [⟨tg, iter, ifs, 0⟩] scope pos) scope X.env pos' (newList []) false (eval iter X.env) use) Qf X.xe s := by
  have frees : ∀ y ∈ scope.names, y.2 = .free → ∃ c, X.env.cells.lookup y.1 = some c := fun y hy z => by
    rcases ok.free y hy z with q | q
    · exact I.ok.has _ (.inl q)
    · exact I.ok.has _ (.inr q)
  refine comprehension_at (use := use) rfl hs (closure_ok frees) ok.kind
    (fun y hy z => by rw [ok.uniq y hy, z]) ?_
  refine thn (hi.run pins s σ H _ I h) fun src sa hsrc => ?_
  refine thn hsrc fun walker sb hw => ?_
  obtain ⟨it, fp, tn, J, H2, rfl, I2, T, at0, frs2, q⟩ := hw
  refine wpAny_newObj_type (newEnv_comp ?_) (Nat.zero_le _)
  generalize hD : sb.heap.objs.size = D
  have freeD : H2 D = none := I2.hok.fresh (Nat.le_of_eq hD)
  obtain ⟨W, ⟨m0, w0⟩, turn⟩ := q D freeD
  generalize hsc : ({ sb with heap := sb.heap.push { cls := .type "list", data := .seq ([] : List Value).toArray } } : Shared) = sc
  have Ic : Inv X pins σ (upd H2 D (.lst [])) sc := by
    subst hsc
    refine I2.laid (t' := sb.toks) (fun _ _ k => Heap.get?_push_of_some _ k) (Nat.le_of_eq hD) ?_
    refine ⟨Nat.zero_le _, [], 0, .nil, ?_⟩
    subst hD
    exact Heap.get?_push_size _ rfl
  have heapc : sc.heap = sb.heap.push { cls := .type "list", data := .seq ([] : List Value).toArray } := by subst hsc; rfl
  have small : ∀ b ∈ fp, b < sb.heap.objs.size := fun b hb =>
    let ⟨_, k, _⟩ := T.obj _ _ at0 b hb
    Heap.lt_size k
  have fc : ∀ b ∈ fp, FpOk X pins (upd H2 D (.lst [])) b ∧ b < sc.heap.objs.size := fun b hb => by
    have lt := small b hb
    refine ⟨⟨?_, (frs2 b hb).2⟩, ?_⟩
    · rw [upd_ne (fun z => by rw [z, ← hD] at lt; exact Nat.lt_irrefl _ lt)]
      exact (frs2 b hb).1
    · rw [heapc, Heap.size_push]
      exact Nat.lt_succ_of_lt lt
  have atc : tn 0 sc.heap := T.keep _ _ _ at0 fun b _ o k => by
    rw [heapc]
    exact Heap.get?_push_of_some _ k
  have Id := inv_xe (y := notedBy (model X.prog X.w) X.A (compEnvC scope (cellsFrom (sc.heap.objs.size + 1) scope.names (cloFrom X.env.cells scope.names [])) sc.heap.objs.size X.env)
    (CompFails (model X.prog X.w) X.A X.xe (compEnvC scope (cellsFrom (sc.heap.objs.size + 1) scope.names (cloFrom X.env.cells scope.names [])) sc.heap.objs.size X.env))) (block_start Ic ok hN fc)
  have pg := hg sc (upd H2 D (.lst [])) sc.heap.objs.size (cellsFrom (sc.heap.objs.size + 1) scope.names (cloFrom X.env.cells scope.names [])) fp
  have pt := ht sc (upd H2 D (.lst [])) sc.heap.objs.size (cellsFrom (sc.heap.objs.size + 1) scope.names (cloFrom X.env.cells scope.names [])) fp
  have pe := he sc (upd H2 D (.lst [])) sc.heap.objs.size (cellsFrom (sc.heap.objs.size + 1) scope.names (cloFrom X.env.cells scope.names [])) fp
    fun σ9 pins9 H9 s9 e9 s10 I9 c9 =>
      blk_pass (scope := scope) (fp := fp) (ce := compEnvC scope (cellsFrom (sc.heap.objs.size + 1) scope.names (cloFrom X.env.cells scope.names [])) sc.heap.objs.size X.env) Ic fc rfl rfl hst hfr tk I9 c9
  show codeAny _ _ (.compStart (.ListComp elt [⟨tg, iter, ifs, 0⟩] scope pos) 0 (.ref it) (.ref D) (compEnvC scope (cellsFrom (sc.heap.objs.size + 1) scope.names (cloFrom X.env.cells scope.names [])) sc.heap.objs.size X.env))
    (compEnds (model X.prog X.w) X.A X.xe use Qf (.ref D) (compEnvC scope (cellsFrom (sc.heap.objs.size + 1) scope.names (cloFrom X.env.cells scope.names [])) sc.heap.objs.size X.env)) { sc with heap := pushCells (sc.heap.push { cls := .type "dict", data := .dict #[] }) scope.names }
  have bare : ∀ b ∈ fp, (upd H2 D (.lst [])) b = none := fun b hb => (fc b hb).1.1
  generalize hce : compEnvC scope (cellsFrom (sc.heap.objs.size + 1) scope.names (cloFrom X.env.cells scope.names [])) sc.heap.objs.size X.env = ce at Id pg pt pe ⊢
  have locC : ce.locals = sc.heap.objs.size := by subst hce; rfl
  generalize hHc : upd H2 D (.lst []) = Hc at Ic Id pg pt pe w0 bare fc
  generalize hsd : ({ sc with heap := pushCells (sc.heap.push { cls := .type "dict", data := .dict #[] }) scope.names } : Shared) = sd at Id ⊢
  have atd : tn 0 sd.heap := T.keep _ _ _ atc fun b _ o k => by
    subst hsd
    exact pushCells_keeps _ _ _ _ (Heap.get?_push_of_some _ k)
  have still : ∀ {σ' : L2.St} {H' : Hp} {s' : Shared}, Inv (blkE X sc Hc scope ce fp) [] σ' H' s' → (∀ b ∈ fp, H' b = none) → ∀ b ∈ fp, FpOk (blkE X sc Hc scope ce fp) [] H' b := fun {σ' H' s'} K n b hb =>
    ⟨n b hb, (K.ok.exf b hb).1, K.ok.exfs b hb, .inl hb, fun x c k => (K.ok.exf b hb).2 x c k, fun p hp => absurd (show p ∈ ([] : List (Addr × Obj)) ++ [] from hp) (by simp)⟩
  have main : codeAny (model X.prog X.w) X.A (.compLoop (.ListComp elt [⟨tg, iter, ifs, 0⟩] scope pos) 0 (.ref it) (.ref D) ce) (compEnds (model X.prog X.w) X.A X.xe use Qf (.ref D) ce) sd := by
    refine compLoop_any (fun n t => ∃ i H', Inv (blkE X sc Hc scope ce fp) [] (wipe σ (own.map (·.2))) H' t ∧ tn i t.heap ∧ (∀ b ∈ fp, H' b = none) ∧ W i n H') ?_ m0 ⟨0, Hc, Id, atd, bare, w0⟩
    rintro n t5 ⟨i, H5, I5, at5, b5, w5⟩
    rcases turn i n H5 w5 with ⟨stop, hQ⟩ | ⟨go, Nx, hNx, step⟩
    · refine thnF (T.done (blkE X sc Hc scope ce fp) rfl rfl rfl hc i [] t5 _ H5 (fun _ _ => False) I5 (still I5 b5) at5 stop) fun r t6 hr => ?_
      obtain ⟨rfl, I6⟩ := hr
      have back : Inv X pins σ H5 t6 := Ic.call' (ch := fp) I6.os I6.base I6.hok I6.bare fun b hb =>
        let k := (fc b hb).1.2
        ⟨k.2.2.1, k.1, k.2.2.2.1, k.2.2.2.2⟩
      have noC : H5 ce.locals = none := I6.free
      obtain ⟨m, hn, _⟩ := I6.loc
      exact fine D ce.locals t6 m H5 back hQ hn (Ic.fpOk (Nat.le_of_eq locC.symm) noC) ce rfl
    · refine thnF (T.item (blkE X sc Hc scope ce fp) rfl rfl rfl hc i [] t5 _ H5 (fun _ _ => False) I5 (still I5 b5) at5 go) fun r t6 hr => ?_
      obtain ⟨u, rfl, h6⟩ := hr
      refine thnF h6 fun _ t7 h7 => ?_
      obtain ⟨x, H7, I7, r7, y7, at7, b7⟩ := h7
      have P7 := I7.pinned (still I7 b7) (T.obj _ _ at7)
      refine thn (pg.run _ t7 _ H7 x u _ P7 r7 (step x H7 y7)) fun _ t8 h8 => ?_
      obtain ⟨σ8, H8, I8, same8, q8⟩ := h8
      refine thn (pt.run _ t8 σ8 H8 _ I8 q8) fun b t9 h9 => ?_
      obtain ⟨H9, I9, q9⟩ := h9
      have close : ∀ {t : Shared} {H' : Hp}, Inv (blkE X sc Hc scope ce fp) ([] ++ pinsAt fp t7.heap) σ8 H' t → Nx H' → ∃ m, m < n ∧ ∃ i H', Inv (blkE X sc Hc scope ce fp) [] (wipe σ (own.map (·.2))) H' t ∧ tn i t.heap ∧ (∀ b ∈ fp, H' b = none) ∧ W i m H' := fun {t H'} K nx => by
        obtain ⟨m', lt', w'⟩ := hNx H' nx
        have pinned : ∀ b ∈ fp, ∀ o, t7.heap.get? b = some o → t.heap.get? b = some o ∧ H' b = none := fun b hb o k =>
          let ⟨z1, z2, _⟩ := K.pin (b, o) (List.mem_append_right _ (List.mem_append_right _ (mem_pinsAt hb k)))
          ⟨z1, z2⟩
        refine ⟨m', lt', i + 1, H', ?_, T.keep _ _ _ at7 fun b hb o k => (pinned b hb o k).1, ?_, w'⟩
        · refine (K.unpinned (pins := [])).weak (by rw [← same8, wipe_length]) fun j v k => ?_
          rw [← same8] at k
          exact (wipe_some k).1
        · intro b hb
          obtain ⟨o, k, _⟩ := T.obj _ _ at7 b hb
          exact (pinned b hb o k).2
      cases b with
      | false =>
        simp only [Bool.false_eq_true, if_false] at q9 ⊢
        exact close I9 q9
      | true =>
        simp only [if_true] at q9 ⊢
        refine thn (pe.run _ t9 σ8 H9 _ I9 q9) fun z t10 h10 => ?_
        obtain ⟨yv, H10, I10, r10, acc, eD, room, nx⟩ := h10
        exact app_ok (X := blkE X sc Hc scope ce fp) I10 eD room r10 fun t11 I11 => close I11 nx
  exact codeAny_compStart_list main (T.self X.A 0 _ _ _ atd main)
/-- as a value -/
theorem pe_lcE {elt tg iter : Expr} {ifs : List Expr} {own : List (Str × Nat)} {pos : Pos} {wi : TI} {g : TG} {tt : TT} {te : TE} {E : XK}
    (hc : X.calm = true) (hN : X.N.Nodup) (hi : PI X tg iter wi) (ok : BlkOk X.N X.env.scope scope own) (hst : X.stack = X.env :: X.outer) (hfr : X.env.frame = some X.env.locals) (tk : Takes X (fun cls d _ H => E cls d H))
    (hg : ∀ (s : Shared) (H : Hp) (C : Addr) (cl : List (Str × Addr)) (fp : List Addr), PG (blkE X s H scope (compEnvC scope cl C X.env) fp) tg g)
    (ht : ∀ (s : Shared) (H : Hp) (C : Addr) (cl : List (Str × Addr)) (fp : List Addr), PTs (blkE X s H scope (compEnvC scope cl C X.env) fp) ifs tt)
    (he : ∀ (s : Shared) (H : Hp) (C : Addr) (cl : List (Str × Addr)) (fp : List Addr), (∀ σ, PassesAt (L2.CX X.prog X.w) (blkE X s H scope (compEnvC scope cl C X.env) fp) σ E) → PE (blkE X s H scope (compEnvC scope cl C X.env) fp) elt te)
    (hs : ∀ x, foldedSetIterable iter X.env x = pure x := by intro _; rfl) : PE X (.ListComp elt [⟨tg, iter, ifs, 0⟩] scope pos) (tLc wi g tt te (own.map (·.2))) := by
  constructor
  intro pins s σ H Q I h
  rw [eval_ListComp]
  refine lc_err (use := none) hc hN I hi ok hst hfr tk hg ht he hs h fun D C s' m H' K q hn f ce hce => ?_
  subst hce
  refine ⟨m, hn, fun h'' sb => ?_⟩
  obtain ⟨g0, g1, g2, g3, g4, g5⟩ := f
  have K2 := K.turned (t' := s'.toks) (h' := h'') (fun b o ne k => (sb.2 b ne).trans k) g0 g1 g3 g4 g5
  exact ⟨.ref D, H', K2, rfl, q⟩
/-- name = [..] on one line, the name a local -/
theorem ps_setLcE {i : Nat} {y : Str} {py : Pos} {elt tg iter : Expr} {ifs : List Expr} {own : List (Str × Nat)} {pos spos : Pos} {wi : TI} {g : TG} {tt : TT} {te : TE} {E : XK}
    (hc : X.calm = true) (hN : X.N.Nodup) (hy : X.N[i]? = some y) (hyl : X.env.scope.names.lookup y = some .local)
    (hsw : swapsWith (.ListComp elt [⟨tg, iter, ifs, 0⟩] scope pos) (some (.Name y py)) spos.line X.env = pure true)
    (hi : PI X tg iter wi) (ok : BlkOk X.N X.env.scope scope own) (hst : X.stack = X.env :: X.outer) (hfr : X.env.frame = some X.env.locals) (tk : Takes X (fun cls d _ H => E cls d H))
    (hg : ∀ (s : Shared) (H : Hp) (C : Addr) (cl : List (Str × Addr)) (fp : List Addr), PG (blkE X s H scope (compEnvC scope cl C X.env) fp) tg g)
    (ht : ∀ (s : Shared) (H : Hp) (C : Addr) (cl : List (Str × Addr)) (fp : List Addr), PTs (blkE X s H scope (compEnvC scope cl C X.env) fp) ifs tt)
    (he : ∀ (s : Shared) (H : Hp) (C : Addr) (cl : List (Str × Addr)) (fp : List Addr), (∀ σ, PassesAt (L2.CX X.prog X.w) (blkE X s H scope (compEnvC scope cl C X.env) fp) σ E) → PE (blkE X s H scope (compEnvC scope cl C X.env) fp) elt te)
    (hs : ∀ x, foldedSetIterable iter X.env x = pure x := by intro _; rfl) : PS X (.Assign [.Name y py] (.ListComp elt [⟨tg, iter, ifs, 0⟩] scope pos) spos) (tAsg (tLc wi g tt te (own.map (·.2))) (gName i)) := by
  refine ⟨fun pins s σ H D I h => ?_⟩
  rw [exec_Assign_Name_used _ _ _ _ hsw]
  refine wpAny_bind (wpAny_standAt (wpAny_bind ?_))
  show wpAny _ X.A (do
    let _ ← comprehension (.ListComp elt [⟨tg, iter, ifs, 0⟩] scope pos) scope X.env (firstIterPos [⟨tg, iter, ifs, 0⟩] pos) (newList []) false (eval iter X.env) (some (assign (.Name y py) X.env))) _ _ s
  have h : tLc wi g tt te (own.map (·.2)) σ H (fun x H1 => gName i x σ H1 D.nx) := h
  refine wpAny_bind (thn (lc_err (use := some (assign (.Name y py) X.env)) (Qf := fun _ s' => SP X pins D .next s') hc hN I hi ok hst hfr tk hg ht he hs h fun L C s' m H' I' q hn f ce hce => ?_) fun _ s' hq => wpAny_pure (wpAny_pure hq))
  subst hce
  show wpAny _ _ (assign (.Name y py) X.env (.ref L)) _ _ _
  refine wpAny_assign_Name (store_ok2 (v := V.ref L) I' hN hy (.inl hyl) rfl (fun s2 I2 ⟨a, sb, ha⟩ => ?_) (.inr hyl))
  obtain ⟨g0, g1, g2, g3, g4, g5⟩ := f
  have away : ce.locals ≠ a := by
    rcases ha with z | z
    · rw [z]
      exact g1
    · exact fun e => g4 y a z e.symm
  refine ⟨m, hn.sameBut sb away, fun h3 sb3 => ?_⟩
  exact ⟨_, H', I2.turned (t' := s2.toks) (fun b o hb e => (sb3.2 b hb).trans e) g0 g1 g3 g4 g5, q⟩
end
section
variable {K : PySem.W.Frag} {σ : L2.St} {H H1 : Hp} {Q : VK} {te : TE} {vs : List Nat} {j : Nat}
/-- [e for x in xs], where each element that is made shows G -/
theorem lcGo {R : Addr → Hp → Prop} {a : Addr} (xs : List V) (G : Prop) {P : Hp → Nat → V → Prop} (hP : Stays P) (hs : SqL K H1 a xs) (hz : xs.length ≤ 100000) (hw : ∀ x, wipe ((wipe σ vs).set j x) vs = wipe σ vs)
    (he : ∀ (i : Nat) x H', xs[i]? = some x → Same H1 H' → (0 < i → G) → ∀ R : VK, (∀ y H'', G → Same H' H'' → P H'' i y → R y H'') → te ((wipe σ vs).set j (some x)) H' R)
    (q : ∀ D (ys : List V) H2, H1 D = none → Same H1 H2 → H2 D = some (.lst ys) → ys.length = xs.length → (0 < xs.length → G) → (∀ k y, ys[k]? = some y → P H2 k y) → R D H2) :
    ∃ b, V.ref a = .ref b ∧ (∃ xs, SqL K H1 b xs) ∧ ∀ D, H1 D = none → ∃ W : Nat → Nat → Hp → Prop, (∃ m, W 0 m (upd H1 D (.lst []))) ∧ ∀ i m H, W i m H →
      ((Itl K b).stop i H ∧ R D H) ∨ ((Itl K b).go i H ∧ ∃ Nx : Hp → Prop, (∀ H', Nx H' → ∃ m', m' < m ∧ W (i + 1) m' H') ∧ ∀ x H', (Itl K b).yld i H x H' → gName j x (wipe σ vs) H' fun σ2 H2 => wipe σ2 vs = wipe σ vs ∧ tYes σ2 H2 fun b H3 =>
        if b = true then te σ2 H3 fun y H4 => ∃ acc, H4 D = some (.lst acc) ∧ acc.length < sizeLine ∧ Nx (upd H4 D (.lst (acc ++ [y]))) else Nx H3) := by
  refine ⟨a, rfl, ⟨xs, hs⟩, fun D hD => ?_⟩
  refine lc_list (xs := xs) (fun i H' => (0 < i → G) ∧ Same H1 H' ∧ ∃ ys : List V, H' D = some (.lst ys) ∧ ys.length = i ∧ ∀ k y, ys[k]? = some y → P H' k y) ⟨fun h => absurd h (Nat.lt_irrefl 0), same_new hD, [], upd_same, rfl, fun k y h => by simp at h⟩ (fun i H _ p => same_sqL p.2.1 hs) (fun i x H hx p => ?_) fun H p => ?_
  · obtain ⟨g, s, ys, e, hl, hp⟩ := p
    refine ⟨hw _, ?_⟩
    refine go_yes ?_
    refine iteT ?_
    refine he i x H hx s g _ fun y H4 g4 s4 hy => ?_
    have hi := (List.getElem?_eq_some_iff.mp hx).1
    have e4 := s4 _ _ e
    refine ⟨ys, e4, szlt (by omega), fun _ => g4, same_mut (s.trans s4) hD, ys ++ [y], upd_same, by simp [hl], fun k z hz => ?_⟩
    refine hP.lst _ _ ys _ _ _ e4 ?_
    rcases Nat.lt_or_ge k ys.length with h | h
    · rw [List.getElem?_append_left h] at hz
      exact hP.same _ _ _ _ s4 (hp k z hz)
    · rw [List.getElem?_append_right h] at hz
      rcases Nat.eq_or_lt_of_le h with e2 | e2
      · rw [← e2, Nat.sub_self] at hz
        cases hz
        rw [← e2, hl]
        exact hy
      · rw [List.getElem?_eq_none (by simp; omega)] at hz
        cases hz
  · obtain ⟨g, s, ys, e, hl, hp⟩ := p
    exact q D ys H hD s e hl g hp
end
theorem at_get0 {xs : List V} {x : V} (h : xs[0]? = some x) : atI xs 0 = some x := atI_nat (j := 0) h
end Gx

set_option Elab.async false
set_option linter.all false
set_option maxRecDepth 100000
set_option maxHeartbeats 4000000
/-! properties, e.f += value, comparisons of None with texts -/
namespace Gx
open PySem PySem.Spec PyProof.Rows L2
section
variable {K : PySem.W.Frag} {H : Hp} {Q : VK} {σ : L2.St} {ta tv : TE} {D : Ends} {f : Str}
theorem go_prop {C : Addr} {sp : Sp} {dvs : List V} {E : XK} (h : ta σ H fun x H1 => ∃ a dx fs, x = .ref a ∧ H1 a = some (.ins C dx fs) ∧ sp (.ref a :: dvs) H1 Q E) : tProp C sp dvs E ta σ H Q := h
def qFA (K : PySem.W.Frag) (tv : TE) (rd : V → V → Hp → VK → Prop) (f : Str) (D : Ends) (σ : L2.St) (x : V) (H1 : Hp) : Prop := ∃ a C dx fs v, x = .ref a ∧ H1 a = some (.ins C dx fs) ∧ Cls K C ∧ NoAttr K C f ∧ fs.lookup f = some v ∧
  tv σ H1 fun y H2 => rd v y H2 fun z H3 => ∃ dx' fs', H3 a = some (.ins C dx' fs') ∧ fs'.length < 1000 ∧ D.nx σ (upd H3 a (.ins C dx' (putF f z fs')))
theorem go_faug {rd : V → V → Hp → VK → Prop} (h : ta σ H fun x H1 => qFA K tv rd f D σ x H1) : sFldAug K ta tv rd f D σ H := h
theorem go_faI {a C dx : Addr} {fs : List (Str × V)} {i j : Int} (e : H a = some (.ins C dx fs)) (c : Cls K C) (n : NoAttr K C f) (l : fs.lookup f = some (.int i)) (ln : fs.length < 1000) (h : D.nx σ (upd H a (.ins C dx (putF f (.int (i + j)) fs)))) : qFA K (tC (.int j)) rAdd f D σ (.ref a) H :=
  ⟨a, C, dx, fs, _, rfl, e, c, n, l, ⟨i, j, rfl, rfl, dx, fs, e, ln, h⟩⟩
theorem go_neNS {x : Str} (h : Q (.bl true) H) : rNe .non (.str x) H Q := ⟨rfl, by simpa using h⟩
theorem go_eqNS {x : Str} (h : Q (.bl false) H) : rEq .non (.str x) H Q := ⟨rfl, by simpa using h⟩
end
end Gx

set_option Elab.async false
set_option linter.all false
set_option maxRecDepth 100000
set_option maxHeartbeats 4000000
/-! comprehensions over range with any invariant; made elements told as data -/
namespace Gx
open PySem PySem.Spec PyProof.Rows L2
section
variable {K : PySem.W.Frag} {σ : L2.St} {H H1 : Hp} {Q : VK} {te : TE} {vs : List Nat} {j : Nat}
/-- [e for x in range(n)], behind the reading of n: any invariant -/
theorem lcRI {R : Addr → Hp → Prop} {n : Int} (hn : -(2 ^ 62) ≤ n ∧ n < 2 ^ 62) (hw : ∀ x, wipe ((wipe σ vs).set j x) vs = wipe σ vs)
    (h : ∀ D, H1 D = none → ∃ W : Nat → Hp → Prop, W 0 (upd H1 D (.lst [])) ∧
      (∀ (i : Nat) H', (i : Int) < n → W i H' → te ((wipe σ vs).set j (some (.int i))) H' fun y H4 => ∃ acc, H4 D = some (.lst acc) ∧ acc.length < sizeLine ∧ W (i + 1) (upd H4 D (.lst (acc ++ [y])))) ∧ ∀ H', W n.toNat H' → R D H') :
    ∃ k : Int, [V.int n] = [.int k] ∧ -(2 ^ 62) ≤ k ∧ k < 2 ^ 62 ∧ ∀ D, H1 D = none → ∃ W : Nat → Nat → Hp → Prop, (∃ m, W 0 m (upd H1 D (.lst []))) ∧ ∀ i m H, W i m H →
      ((Itr 0 k.toNat).stop i H ∧ R D H) ∨ ((Itr 0 k.toNat).go i H ∧ ∃ Nx : Hp → Prop, (∀ H', Nx H' → ∃ m', m' < m ∧ W (i + 1) m' H') ∧ ∀ x H', (Itr 0 k.toNat).yld i H x H' → gName j x (wipe σ vs) H' fun σ2 H2 => wipe σ2 vs = wipe σ vs ∧ tYes σ2 H2 fun b H3 =>
        if b = true then te σ2 H3 fun y H4 => ∃ acc, H4 D = some (.lst acc) ∧ acc.length < sizeLine ∧ Nx (upd H4 D (.lst (acc ++ [y]))) else Nx H3) := by
  refine ⟨n, rfl, hn.1, hn.2, fun D hD => ?_⟩
  obtain ⟨W, w0, ws, wd⟩ := h D hD
  refine lc_range (lo := 0) (n := n.toNat) W w0 (fun i H hi p => ?_) wd
  refine ⟨hw _, ?_⟩
  refine go_yes ?_
  refine iteT ?_
  rw [Int.zero_add]
  exact ws i H (by omega) p
theorem dpAll_snoc {ds : List PyData} {vs : List V} {v : V} {d : PyData} (h : DpAll K H vs ds) (hd : Dp K H v d) : DpAll K H (vs ++ [v]) (ds ++ [d]) := dpAll_append h (.cons hd .nil)
theorem noLAll_app : ∀ {a b : List PyData}, noLAll a = true → noLAll b = true → noLAll (a ++ b) = true
  | [], _, _, hb => hb
  | x :: a, b, ha, hb => by
    rw [List.cons_append]
    have h : (noL x && noLAll a) = true := ha
    show (noL x && noLAll (a ++ b)) = true
    rw [Bool.and_eq_true] at h ⊢
    exact ⟨h.1, noLAll_app h.2 hb⟩
theorem get_snoc {α : Type} {G : Nat → α → Prop} {ds : List α} {d : α} (h : ∀ i d, ds[i]? = some d → G i d) (hd : G ds.length d) : ∀ i x, (ds ++ [d])[i]? = some x → G i x := fun i x hx => by
  rcases Nat.lt_or_ge i ds.length with z | z
  · rw [List.getElem?_append_left z] at hx
    exact h i x hx
  · rw [List.getElem?_append_right z] at hx
    rcases Nat.eq_or_lt_of_le z with e | e
    · rw [← e, Nat.sub_self] at hx
      cases hx
      exact e ▸ hd
    · rw [List.getElem?_eq_none (by simp; omega)] at hx
      cases hx
/-- the same, its elements told as data; a pool turns -/
theorem lcPD {R : Addr → Hp → Prop} {n : Int} {p : Pl} {b : Int} (G : Nat → PyData → Prop) (hp : Pool H1 p b) (hz : n ≤ 100000) (hn : -(2 ^ 62) ≤ n) (hw : ∀ x, wipe ((wipe σ vs).set j x) vs = wipe σ vs)
    (he : ∀ (i : Nat) H', (i : Int) < n → Turn p b H1 H' → ∀ R : VK, (∀ y H'' d, Turn p b H' H'' → G i d → noL d = true → Dp K H'' y d → R y H'') → te ((wipe σ vs).set j (some (.int i))) H' R)
    (q : ∀ D (ys : List V) (ds : List PyData) H2, H1 D = none → Turn p b H1 H2 → H2 D = some (.lst ys) → ds.length = n.toNat → DpAll K H2 ys ds → (∀ i d, ds[i]? = some d → G i d) → noLAll ds = true → R D H2) :
    ∃ k : Int, [V.int n] = [.int k] ∧ -(2 ^ 62) ≤ k ∧ k < 2 ^ 62 ∧ ∀ D, H1 D = none → ∃ W : Nat → Nat → Hp → Prop, (∃ m, W 0 m (upd H1 D (.lst []))) ∧ ∀ i m H, W i m H →
      ((Itr 0 k.toNat).stop i H ∧ R D H) ∨ ((Itr 0 k.toNat).go i H ∧ ∃ Nx : Hp → Prop, (∀ H', Nx H' → ∃ m', m' < m ∧ W (i + 1) m' H') ∧ ∀ x H', (Itr 0 k.toNat).yld i H x H' → gName j x (wipe σ vs) H' fun σ2 H2 => wipe σ2 vs = wipe σ vs ∧ tYes σ2 H2 fun b H3 =>
        if b = true then te σ2 H3 fun y H4 => ∃ acc, H4 D = some (.lst acc) ∧ acc.length < sizeLine ∧ Nx (upd H4 D (.lst (acc ++ [y]))) else Nx H3) := by
  refine lcRI ⟨hn, by omega⟩ hw fun D hD => ?_
  have nD : D ≠ p.a := hp.nea hD
  refine ⟨fun i H' => Turn p b H1 H' ∧ ∃ (ys : List V) (ds : List PyData), H' D = some (.lst ys) ∧ ds.length = i ∧ DpAll K H' ys ds ∧ (∀ i d, ds[i]? = some d → G i d) ∧ noLAll ds = true, ⟨(Turn.refl hp).new hD, [], [], upd_same, rfl, .nil, (fun i d h => by cases h), rfl⟩, ?_, ?_⟩
  · rintro i H' hi ⟨t, ys, ds, e, hl, hd, hg, hno⟩
    refine he i H' hi t _ fun y H4 d t4 gd nd dd => ?_
    have e4 := t4.but D _ nD e
    have d4 : DpAll K H4 ys ds := dpAll_but (l := p.a) t.pool.there.choose_spec t4.but ds ys hno hd
    refine ⟨ys, e4, szlt (by rw [dpAll_len hd]; omega), Turn.mut hp hD (t.trans t4), ys ++ [y], ds ++ [d], upd_same, by simp [hl], ?_, get_snoc hg (by rw [hl]; exact gd), noLAll_app hno (by show (noL d && true) = true; rw [nd]; rfl)⟩
    exact dpAll_snoc (dpAll_put e4 ds ys hno d4) (dp_put e4 d y nd dd)
  · rintro H' ⟨t, ys, ds, e, hl, hd, hg, hno⟩
    exact q D ys ds H' hD t e hl hd hg hno
/-- [e for x in a list], any target, any invariant -/
theorem lcLW {R : Addr → Hp → Prop} {g : TG} {a : Addr} (xs : List V) (hs : SqL K H1 a xs)
    (h : ∀ D, H1 D = none → ∃ W : Nat → Hp → Prop, W 0 (upd H1 D (.lst [])) ∧ (∀ i H', W i H' → SqL K H' a xs) ∧
      (∀ (i : Nat) x H', xs[i]? = some x → W i H' → g x (wipe σ vs) H' fun σ2 H2 => wipe σ2 vs = wipe σ vs ∧ tYes σ2 H2 fun b H3 => if b = true then te σ2 H3 fun y H4 => ∃ acc, H4 D = some (.lst acc) ∧ acc.length < sizeLine ∧ W (i + 1) (upd H4 D (.lst (acc ++ [y]))) else W (i + 1) H3) ∧ ∀ H', W xs.length H' → R D H') :
    ∃ b, V.ref a = .ref b ∧ (∃ xs, SqL K H1 b xs) ∧ ∀ D, H1 D = none → ∃ W : Nat → Nat → Hp → Prop, (∃ m, W 0 m (upd H1 D (.lst []))) ∧ ∀ i m H, W i m H →
      ((Itl K b).stop i H ∧ R D H) ∨ ((Itl K b).go i H ∧ ∃ Nx : Hp → Prop, (∀ H', Nx H' → ∃ m', m' < m ∧ W (i + 1) m' H') ∧ ∀ x H', (Itl K b).yld i H x H' → g x (wipe σ vs) H' fun σ2 H2 => wipe σ2 vs = wipe σ vs ∧ tYes σ2 H2 fun b H3 =>
        if b = true then te σ2 H3 fun y H4 => ∃ acc, H4 D = some (.lst acc) ∧ acc.length < sizeLine ∧ Nx (upd H4 D (.lst (acc ++ [y]))) else Nx H3) := by
  refine ⟨a, rfl, ⟨xs, hs⟩, fun D hD => ?_⟩
  obtain ⟨W, w0, wl, ws, wd⟩ := h D hD
  refine lc_list (xs := xs) W w0 (fun i H _ p => wl i H p) ws wd
/-- [e for x in a tuple], any target, any invariant -/
theorem lcTW {R : Addr → Hp → Prop} {g : TG} {a : Addr} (xs : List V) (hs : SqT K H1 a xs)
    (h : ∀ D, H1 D = none → ∃ W : Nat → Hp → Prop, W 0 (upd H1 D (.lst [])) ∧ (∀ i H', W i H' → SqT K H' a xs) ∧
      (∀ (i : Nat) x H', xs[i]? = some x → W i H' → g x (wipe σ vs) H' fun σ2 H2 => wipe σ2 vs = wipe σ vs ∧ tYes σ2 H2 fun b H3 => if b = true then te σ2 H3 fun y H4 => ∃ acc, H4 D = some (.lst acc) ∧ acc.length < sizeLine ∧ W (i + 1) (upd H4 D (.lst (acc ++ [y]))) else W (i + 1) H3) ∧ ∀ H', W xs.length H' → R D H') :
    ∃ b, V.ref a = .ref b ∧ (∃ xs, SqT K H1 b xs) ∧ ∀ D, H1 D = none → ∃ W : Nat → Nat → Hp → Prop, (∃ m, W 0 m (upd H1 D (.lst []))) ∧ ∀ i m H, W i m H →
      ((Itt K b).stop i H ∧ R D H) ∨ ((Itt K b).go i H ∧ ∃ Nx : Hp → Prop, (∀ H', Nx H' → ∃ m', m' < m ∧ W (i + 1) m' H') ∧ ∀ x H', (Itt K b).yld i H x H' → g x (wipe σ vs) H' fun σ2 H2 => wipe σ2 vs = wipe σ vs ∧ tYes σ2 H2 fun b H3 =>
        if b = true then te σ2 H3 fun y H4 => ∃ acc, H4 D = some (.lst acc) ∧ acc.length < sizeLine ∧ Nx (upd H4 D (.lst (acc ++ [y]))) else Nx H3) := by
  refine ⟨a, rfl, ⟨xs, hs⟩, fun D hD => ?_⟩
  obtain ⟨W, w0, wl, ws, wd⟩ := h D hD
  refine lc_tup (xs := xs) W w0 (fun i H _ p => wl i H p) ws wd
theorem sqL_butI {c C dx a : Addr} {fs : List (Str × V)} {xs : List V} (hc : H c = some (.ins C dx fs)) (B : But c H H1) (h : SqL K H a xs) : SqL K H1 a xs := by
  rcases h with (h | ⟨o, h⟩) | h
  · exact .inl (.inl (B _ _ (fun z => by rw [z, hc] at h; cases h) h))
  · exact .inl (.inr ⟨o, B _ _ (fun z => by rw [z, hc] at h; cases h) h⟩)
  · exact .inr h
theorem sqT_butI {c C dx a : Addr} {fs : List (Str × V)} {xs : List V} (hc : H c = some (.ins C dx fs)) (B : But c H H1) (h : SqT K H a xs) : SqT K H1 a xs := by
  rcases h with (h | ⟨o, h⟩) | h
  · exact .inl (.inl (B _ _ (fun z => by rw [z, hc] at h; cases h) h))
  · exact .inl (.inr ⟨o, B _ _ (fun z => by rw [z, hc] at h; cases h) h⟩)
  · exact .inr h
mutual
/-- data outlast a write at an instance -/
theorem dp_butI {c C dx : Addr} {fs : List (Str × V)} (hc : H c = some (.ins C dx fs)) (B : But c H H1) : ∀ (d : PyData) (v : V), Dp K H v d → Dp K H1 v d
  | .none, _, h => by cases h; exact .non
  | .bool _, _, h => by cases h; exact .bl _
  | .int _, _, h => by cases h; exact .int _
  | .str _, _, h => by cases h; exact .str _
  | .list ds, _, h => by cases h with | lst e a => exact .lst (sqL_butI hc B e) (dpAll_butI hc B ds _ a)
  | .tuple ds, _, h => by cases h with | tup e a => exact .tup (sqT_butI hc B e) (dpAll_butI hc B ds _ a)
  | .dict _, _, h => by cases h
theorem dpAll_butI {c C dx : Addr} {fs : List (Str × V)} (hc : H c = some (.ins C dx fs)) (B : But c H H1) : ∀ (ds : List PyData) (vs : List V), DpAll K H vs ds → DpAll K H1 vs ds
  | [], _, h => by cases h; exact .nil
  | d :: ds, _, h => by cases h with | cons e a => exact .cons (dp_butI hc B d _ e) (dpAll_butI hc B ds _ a)
end
theorem dp_lst {v : V} {ds : List PyData} (h : Dp K H v (.list ds)) : ∃ a xs, v = .ref a ∧ SqL K H a xs ∧ DpAll K H xs ds := by
  cases h with | lst e a => exact ⟨_, _, rfl, e, a⟩
/-- told by a map -/
theorem map_of {α : Type} {f : α → PyData} {P : α → Prop} : ∀ {ds : List PyData}, (∀ (i : Nat) d, ds[i]? = some d → ∃ p, d = f p ∧ P p) → ∃ c : List α, ds = c.map f ∧ ∀ p ∈ c, P p
  | [], _ => ⟨[], rfl, fun _ h => nomatch h⟩
  | d :: ds, h => by
    obtain ⟨p, e, hp⟩ := h 0 d rfl
    obtain ⟨c, e2, h2⟩ := map_of (f := f) (P := P) (ds := ds) fun i d hd => h (i + 1) d hd
    refine ⟨p :: c, by rw [e, e2, List.map_cons], fun z hz => ?_⟩
    rcases List.mem_cons.mp hz with rfl | hz
    · exact hp
    · exact h2 z hz
theorem dpAll_ints {ns : List Int} {xs : List V} (h : DpAll K H xs (ns.map PyData.int)) : xs = ns.map V.int := by
  induction ns generalizing xs with
  | nil => cases h; rfl
  | cons n r ih => cases h with | cons e a => cases e; rw [ih a]; rfl
theorem dpAll_of : ∀ {ds : List PyData} {vs : List V}, vs.length = ds.length → (∀ (i : Nat) d, ds[i]? = some d → ∃ v, vs[i]? = some v ∧ Dp K H v d) → DpAll K H vs ds
  | [], [], _, _ => .nil
  | [], _ :: _, h, _ => nomatch h
  | _ :: _, [], h, _ => nomatch h
  | d :: ds, v :: vs, h, g => by
    obtain ⟨w, e, hw⟩ := g 0 d rfl
    cases e
    exact .cons hw (dpAll_of (Nat.succ.inj h) fun i d hd => g (i + 1) d hd)
/-- what was there before a fresh instance was written -/
theorem same_butF {c : Addr} {H2 : Hp} (s : Same H H1) (n : H c = none) (B : But c H1 H2) : Same H H2 := fun b o e => B b o (fun z => by rw [z, n] at e; cases e) (s b o e)
theorem go_extend {l b : Addr} {xs zs : List V} (e : H l = some (.lst xs)) (hb : H b = some (.lst zs)) (hz : xs.length + zs.length ≤ 100000) (h : Q .non (upd H l (.lst (xs ++ zs)))) : rExtend (.ref l) [.ref b] H Q := ⟨l, b, xs, zs, rfl, rfl, e, hb, sz hz, h⟩
end
end Gx

local macro_rules | `(tactic| walk_at "side") => `(tactic| first | decide | omega | assumption | exact Or.inl ⟨by decide, by decide⟩ | exact Or.inr ⟨by decide, by decide⟩ | exact Or.inl ⟨by omega, by omega⟩ | exact Or.inr ⟨by omega, by omega⟩ | (refine ⟨?_, ?_⟩ <;> first | decide | omega | assumption))
local macro_rules | `(tactic| walk_at "go1") => `(tactic| first
  | with_reducible refine Gx.go_seq ?_
  | with_reducible refine Gx.go_asg ?_
  | with_reducible refine Gx.go_name ?_
  | with_reducible refine Gx.go_var rfl ?_
  | with_reducible refine Gx.go_c ?_
  | with_reducible refine Gx.go_op ?_
  | with_reducible refine Gx.go_rI0 ?_
  | ((with_reducible refine Gx.go_rI ?k1 ?k2); (case k1 => walk_at "side"))
  | with_reducible refine Gx.go_test ?_
  | with_reducible refine Gx.go_if ?_
  | with_reducible refine Gx.go_cons ?_
  | with_reducible refine Gx.go_nil ?_
  | with_reducible refine Gx.go_CB ?_
  | with_reducible refine Gx.go_call ?_
  | with_reducible refine Gx.go_eqI ?_
  | with_reducible refine Gx.go_neI ?_
  | with_reducible refine Gx.go_eqS ?_
  | with_reducible refine Gx.go_neS ?_
  | with_reducible refine Gx.go_eqB ?_
  | with_reducible refine Gx.go_neB ?_
  | with_reducible refine Gx.go_eqN ?_
  | with_reducible refine Gx.ite_dt ?_
  | with_reducible refine Gx.go_ret ?_
  | with_reducible refine Gx.go_retN ?_
  | with_reducible refine Gx.go_next ?_
  | with_reducible refine Gx.go_drop ?_
  | with_reducible refine Gx.go_un ?_
  | with_reducible refine Gx.go_rU ?_
  | with_reducible refine Gx.go_and ?_
  | with_reducible refine Gx.go_or ?_
  | with_reducible refine Gx.go_not ?_
  | with_reducible refine Gx.go_andV ?_
  | with_reducible refine Gx.go_orV ?_
  | with_reducible refine Gx.go_notV ?_
  | with_reducible refine Gx.go_blA ?_
  | with_reducible refine L2.iteT ?_
  | with_reducible refine L2.iteF ?_
  | with_reducible refine Gx.ite_nt ?_
  | with_reducible refine Gx.ite_nf ?_
  | with_reducible refine Gx.go_ifE ?_
  | with_reducible refine Gx.go_chain ?_
  | with_reducible refine Gx.go_B ?_
  | with_reducible refine Gx.go_int1 ?_
  | with_reducible refine Gx.go_intB ?_
  | with_reducible refine Gx.go_lst ?_
  | with_reducible refine Gx.go_tup ?_
  | with_reducible refine Gx.go_sl ?_
  | with_reducible refine Gx.go_noPart ?_
  | with_reducible refine Gx.go_part ?_
  | with_reducible refine Gx.go_partI ?_
  | with_reducible refine Gx.isi_int_int ?_
  | with_reducible refine Gx.isi_int_bool ?_
  | with_reducible refine Gx.isi_int_str ?_
  | with_reducible refine Gx.isi_int_list ?_
  | with_reducible refine Gx.isi_int_tuple ?_
  | with_reducible refine Gx.isi_bool_int ?_
  | with_reducible refine Gx.isi_bool_bool ?_
  | with_reducible refine Gx.isi_bool_str ?_
  | with_reducible refine Gx.isi_bool_list ?_
  | with_reducible refine Gx.isi_bool_tuple ?_
  | with_reducible refine Gx.isi_str_int ?_
  | with_reducible refine Gx.isi_str_bool ?_
  | with_reducible refine Gx.isi_str_str ?_
  | with_reducible refine Gx.isi_str_list ?_
  | with_reducible refine Gx.isi_str_tuple ?_
  | with_reducible refine Gx.isi_NoneType_int ?_
  | with_reducible refine Gx.isi_NoneType_bool ?_
  | with_reducible refine Gx.isi_NoneType_str ?_
  | with_reducible refine Gx.isi_NoneType_list ?_
  | with_reducible refine Gx.isi_NoneType_tuple ?_
  | with_reducible refine Gx.go_bool1 ?_
  | with_reducible refine Gx.go_boolB ?_
  | with_reducible refine Gx.go_abs ?_
  | with_reducible refine Gx.go_max2 ?_
  | with_reducible refine Gx.go_min2 ?_
  | with_reducible refine Gx.go_ord ?_
  | with_reducible refine Gx.go_isN0 ?_
  | with_reducible refine Gx.go_isNI ?_
  | with_reducible refine Gx.go_isNS ?_
  | with_reducible refine Gx.go_isNB ?_
  | with_reducible refine Gx.go_isNR ?_
  | with_reducible refine Gx.go_notN0 ?_
  | with_reducible refine Gx.go_notNI ?_
  | with_reducible refine Gx.go_notNS ?_
  | with_reducible refine Gx.go_notNB ?_
  | with_reducible refine Gx.go_notNR ?_
  | with_reducible refine Gx.go_ltS ?_
  | with_reducible refine Gx.go_leS ?_
  | with_reducible refine Gx.go_BM ?_
  | with_reducible refine Gx.go_BM0 ?_
  | with_reducible refine Gx.go_not_t ?_
  | with_reducible refine Gx.go_not_f ?_
  | with_reducible refine Gx.go_iList ?_
  | with_reducible refine Gx.go_iRng1 ?_
  | with_reducible refine Gx.go_iRng2 ?_
  | with_reducible refine Gx.go_lc ?_
  | with_reducible refine Gx.go_for ?_
  | with_reducible refine Gx.go_sub ?_
  | with_reducible refine Gx.go_setL2 (by with_unfolding_all rfl) ?_
  | with_reducible refine Gx.go_ixL2 (by with_unfolding_all rfl) ?_
  | with_reducible refine Gx.go_setL (by assumption) (by with_unfolding_all rfl) ?_
  | with_reducible refine Gx.go_ixL1 (by assumption) (by with_unfolding_all rfl) ?_
  | with_reducible refine Gx.go_ixT1 (by assumption) (by with_unfolding_all rfl) ?_
  | with_reducible refine Gx.go_M1 ?_
  | with_reducible refine Gx.go_M0 ?_
  | with_reducible refine Gx.go_isS ?_
  | with_reducible refine Gx.go_iStr ?_
  | with_reducible refine Gx.sq_list_int (by assumption) ?_
  | with_reducible refine Gx.sq_list_bool (by assumption) ?_
  | with_reducible refine Gx.sq_list_str (by assumption) ?_
  | with_reducible refine Gx.sq_list_list (by assumption) ?_
  | with_reducible refine Gx.sq_list_tuple (by assumption) ?_
  | with_reducible refine Gx.sq_tuple_int (by assumption) ?_
  | with_reducible refine Gx.sq_tuple_bool (by assumption) ?_
  | with_reducible refine Gx.sq_tuple_str (by assumption) ?_
  | with_reducible refine Gx.sq_tuple_list (by assumption) ?_
  | with_reducible refine Gx.sq_tuple_tuple (by assumption) ?_
  | with_reducible refine Gx.go_fld ?_
  | with_reducible refine Gx.go_rnum (by assumption) (by assumption) (by assumption) ?_
  | with_reducible refine Gx.go_rden (by assumption) (by assumption) (by assumption) ?_
  | with_reducible refine Gx.go_make ?_
  | with_reducible refine Gx.go_meth ?_
  | with_reducible refine Gx.go_sfld ?_
  | with_reducible refine Gx.go_own (by assumption) (by assumption) ?_
  | with_reducible refine Gx.go_uOwn (by assumption) ?_
  | with_reducible refine Gx.go_gcons ?_
  | with_reducible refine Gx.go_gnil ?_
  | with_reducible refine Gx.go_brk ?_
  | with_reducible refine Gx.go_cont ?_)
local macro_rules | `(tactic| walk_at "go") => `(tactic| repeat walk_at "go1")
local macro_rules | `(tactic| walk_at "br") => `(tactic| first
  | with_reducible refine Gx.ite_d ?_ ?_
  | with_reducible refine Gx.ite_nd ?_ ?_
  | with_reducible refine Gx.ite_b ?_ ?_)
local macro_rules | `(tactic| walk_at "go1") => `(tactic| first
  | with_reducible refine Gx.go_iRng3 ?_
  | with_reducible refine Gx.go_revL ?_)
local macro_rules | `(tactic| walk_at "go1") => `(tactic| first
  | with_reducible refine Gx.go_tTr ?_
  | with_reducible refine Gx.go_dget ?_
  | with_reducible refine Gx.go_dput ?_
  | with_reducible refine Gx.go_iTup ?_
  | with_reducible refine Gx.go_dnew ?_
  | with_reducible refine Gx.go_ixT (by assumption) (by with_unfolding_all rfl) ?_
  | with_reducible refine Gx.go_ixT (by assumption) Gx.at_0 ?_
  | with_reducible refine Gx.go_ixT (by assumption) Gx.at_1 ?_
  | with_reducible refine Gx.ite_ndt ?_
  | with_reducible refine Gx.ite_df (by decide +kernel) ?_
  | with_reducible refine Gx.ite_ndf (by decide +kernel) ?_)
local macro_rules | `(tactic| walk_at "go1") => `(tactic| first
  | with_reducible refine Gx.ite_ndtI ?_
  | with_reducible refine Gx.go_tTM ?_
  | with_reducible refine Gx.go_star ?_
  | with_reducible refine Gx.go_strStr ?_)
local macro_rules | `(tactic| walk_at "go1") => `(tactic| first
  | with_reducible refine Gx.go_inC ?_
  | with_reducible refine Gx.go_niC ?_)
local macro_rules | `(tactic| walk_at "go1") => `(tactic| first
  | with_reducible refine Gx.go_raise ?_
  | with_reducible refine Gx.go_callSD ?_
  | with_reducible refine Gx.go_methSD ?_
  | with_reducible refine Gx.go_makeSD ?_
  | with_reducible refine Gx.go_xf ?_)
local macro_rules | `(tactic| walk_at "go1") => `(tactic| first
  | with_reducible refine Gx.go_prop ?_
  | with_reducible refine Gx.go_faug ?_
  | with_reducible refine Gx.go_neNS ?_
  | with_reducible refine Gx.go_eqNS ?_)
namespace K79
open PySem PySem.Spec PyProof.Rows L2 Gx
def top (i : Nat) : Stmt := PySem.Challenge.pw_sureplay_k79_programs_as_whole_numbers.main.body.getD i (.Pass ⟨0, 0, 0, 0⟩)
abbrev s_Program___init__ : Stmt := inClass (top 10) 0
abbrev s_Program___eq__ : Stmt := inClass (top 10) 1
abbrev s_program_numbers : Stmt := top 12
abbrev s_Numbers___init__ : Stmt := inClass (top 13) 0
abbrev s_Numbers_take : Stmt := inClass (top 13) 1
abbrev s_Numbers_take_code : Stmt := inClass (top 13) 2
abbrev s_read_program : Stmt := top 14
abbrev s__law_pool : Stmt := top 16
abbrev s__law_draw : Stmt := top 17
abbrev s__law_few : Stmt := top 19
abbrev s__law_number : Stmt := top 20
abbrev s__law_same : Stmt := top 21
abbrev s__law_names_of_code : Stmt := top 22
abbrev s__law_row : Stmt := top 25
abbrev s__law_numbers : Stmt := top 26
abbrev s__law_read : Stmt := top 27
abbrev s_law : Stmt := top 28
/-- where the defs and classes stand -/
structure Ad where
  f_Program___init__ : Addr
  d_Program___init__ : FuncData
  f_Program___eq__ : Addr
  d_Program___eq__ : FuncData
  f_program_numbers : Addr
  d_program_numbers : FuncData
  f_Numbers___init__ : Addr
  d_Numbers___init__ : FuncData
  f_Numbers_take : Addr
  d_Numbers_take : FuncData
  f_Numbers_take_code : Addr
  d_Numbers_take_code : FuncData
  f_read_program : Addr
  d_read_program : FuncData
  f__law_pool : Addr
  d__law_pool : FuncData
  f__law_draw : Addr
  d__law_draw : FuncData
  f__law_few : Addr
  d__law_few : FuncData
  f__law_number : Addr
  d__law_number : FuncData
  f__law_same : Addr
  d__law_same : FuncData
  f__law_names_of_code : Addr
  d__law_names_of_code : FuncData
  f__law_row : Addr
  d__law_row : FuncData
  f__law_numbers : Addr
  d__law_numbers : FuncData
  f__law_read : Addr
  d__law_read : FuncData
  f_law : Addr
  d_law : FuncData
  c_Program : Addr
  c_Numbers : Addr
  c_BadCode : Addr
  i_BadCode : Addr
  c_GameError : Addr
  k_NAMES : Addr
/-- what the top has left -/
structure Txt (P : Program) (K : PySem.W.Frag) (mg : Str → Option Value) (A : Ad) : Prop where
  F_Program___init__ : Fun K "__init__" "Program.__init__" s_Program___init__ A.f_Program___init__ A.d_Program___init__
  b_Program___init__ : Binds K A.d_Program___init__ ["self", "sizes", "moves", "rounds"] []
  mk_Program : Mk K A.c_Program A.f_Program___init__
  F_Program___eq__ : Fun K "__eq__" "Program.__eq__" s_Program___eq__ A.f_Program___eq__ A.d_Program___eq__
  b_Program___eq__ : Binds K A.d_Program___eq__ ["self", "other"] []
  me_Program___eq__ : Meth K A.c_Program "__eq__" A.f_Program___eq__
  F_program_numbers : Fun K "program_numbers" "program_numbers" s_program_numbers A.f_program_numbers A.d_program_numbers
  b_program_numbers : Binds K A.d_program_numbers ["program"] []
  m_program_numbers : mg "program_numbers" = some (.ref A.f_program_numbers)
  F_Numbers___init__ : Fun K "__init__" "Numbers.__init__" s_Numbers___init__ A.f_Numbers___init__ A.d_Numbers___init__
  b_Numbers___init__ : Binds K A.d_Numbers___init__ ["self", "numbers"] []
  mk_Numbers : Mk K A.c_Numbers A.f_Numbers___init__
  F_Numbers_take : Fun K "take" "Numbers.take" s_Numbers_take A.f_Numbers_take A.d_Numbers_take
  b_Numbers_take : Binds K A.d_Numbers_take ["self", "least", "most"] []
  me_Numbers_take : Meth K A.c_Numbers "take" A.f_Numbers_take
  F_Numbers_take_code : Fun K "take_code" "Numbers.take_code" s_Numbers_take_code A.f_Numbers_take_code A.d_Numbers_take_code
  b_Numbers_take_code : Binds K A.d_Numbers_take_code ["self"] []
  me_Numbers_take_code : Meth K A.c_Numbers "take_code" A.f_Numbers_take_code
  F_read_program : Fun K "read_program" "read_program" s_read_program A.f_read_program A.d_read_program
  b_read_program : Binds K A.d_read_program ["numbers"] []
  m_read_program : mg "read_program" = some (.ref A.f_read_program)
  F__law_pool : Fun K "_law_pool" "_law_pool" s__law_pool A.f__law_pool A.d__law_pool
  b__law_pool : Binds K A.d__law_pool ["_law_script", "_law_budget"] []
  m__law_pool : mg "_law_pool" = some (.ref A.f__law_pool)
  F__law_draw : Fun K "_law_draw" "_law_draw" s__law_draw A.f__law_draw A.d__law_draw
  b__law_draw : Binds K A.d__law_draw ["_law_pool_here", "_law_size"] []
  m__law_draw : mg "_law_draw" = some (.ref A.f__law_draw)
  F__law_few : Fun K "_law_few" "_law_few" s__law_few A.f__law_few A.d__law_few
  b__law_few : Binds K A.d__law_few ["_law_pool_here", "_law_most"] []
  m__law_few : mg "_law_few" = some (.ref A.f__law_few)
  F__law_number : Fun K "_law_number" "_law_number" s__law_number A.f__law_number A.d__law_number
  b__law_number : Binds K A.d__law_number ["_law_pool_here"] []
  m__law_number : mg "_law_number" = some (.ref A.f__law_number)
  F__law_same : Fun K "_law_same" "_law_same" s__law_same A.f__law_same A.d__law_same
  b__law_same : Binds K A.d__law_same ["_law_actual", "_law_due"] []
  m__law_same : mg "_law_same" = some (.ref A.f__law_same)
  F__law_names_of_code : Fun K "_law_names_of_code" "_law_names_of_code" s__law_names_of_code A.f__law_names_of_code A.d__law_names_of_code
  b__law_names_of_code : Binds K A.d__law_names_of_code [] []
  m__law_names_of_code : mg "_law_names_of_code" = some (.ref A.f__law_names_of_code)
  F__law_row : Fun K "_law_row" "_law_row" s__law_row A.f__law_row A.d__law_row
  b__law_row : Binds K A.d__law_row ["_law_pool_here"] []
  m__law_row : mg "_law_row" = some (.ref A.f__law_row)
  F__law_numbers : Fun K "_law_numbers" "_law_numbers" s__law_numbers A.f__law_numbers A.d__law_numbers
  b__law_numbers : Binds K A.d__law_numbers ["_law_row_here"] []
  m__law_numbers : mg "_law_numbers" = some (.ref A.f__law_numbers)
  F__law_read : Fun K "_law_read" "_law_read" s__law_read A.f__law_read A.d__law_read
  b__law_read : Binds K A.d__law_read ["_law_numbers_here"] []
  m__law_read : mg "_law_read" = some (.ref A.f__law_read)
  F_law : Fun K "law" "law" s_law A.f_law A.d_law
  b_law : Binds K A.d_law ["_law_script"] []
  m_law : mg "law" = some (.ref A.f_law)
  m_Program : mg "Program" = some (.ref A.c_Program)
  cl_Program : Cls K A.c_Program
  na_Program_sizes : NoAttr K A.c_Program "sizes"
  na_Program_moves : NoAttr K A.c_Program "moves"
  na_Program_rounds : NoAttr K A.c_Program "rounds"
  ic_Program : C8.InsC K A.c_Program
  so_Program : PySem.W.selfFirst K A.c_Program = true
  nf_Program : PySem.W.notFirst K A.c_Program (.ref A.c_Program) = true
  m_Numbers : mg "Numbers" = some (.ref A.c_Numbers)
  cl_Numbers : Cls K A.c_Numbers
  na_Numbers_numbers : NoAttr K A.c_Numbers "numbers"
  na_Numbers_at : NoAttr K A.c_Numbers "at"
  m_BadCode : mg "BadCode" = some (.ref A.c_BadCode)
  er_BadCode : ErX.ErrT P K mg A.c_BadCode A.i_BadCode "at" "at"
  xf_BadCode : XfC K A.c_BadCode
  te_BadCode : PySem.W.exmOne K (.ref A.c_BadCode) (.ref A.c_BadCode) = some true
  xd_BadCode : ExD K A.c_BadCode
  m_GameError : mg "GameError" = some (.ref A.c_GameError)
  ki_ge : PySem.W.kitOne K (.ref A.c_BadCode) (.ref A.c_GameError) = some true
  n_tuple : mg "tuple" = none
  n_isinstance : mg "isinstance" = none
  n_len : mg "len" = none
  n_list : mg "list" = none
  n_range : mg "range" = none
  n_int : mg "int" = none
  n_min : mg "min" = none
  n_bool : mg "bool" = none
  n_str : mg "str" = none
  v_GREATEST : ∃ t, mg "GREATEST" = some (.int 65535 t)
  m_NAMES : mg "NAMES" = some (.ref A.k_NAMES)
  kl_NAMES : ∃ ob, K.lookup A.k_NAMES = some ob ∧ ob.cls = .type "tuple" ∧ ob.dict = none
  kt_NAMES : ∀ H : Hp, SqT K H A.k_NAMES [(.str "push"), (.str "load"), (.str "store"), (.str "sign"), (.str "jump"), (.str "skip"), (.str "lot"), (.str "end"), (.str "ask"), (.str "show"), (.str "pay"), (.str "take"), (.str "view"), (.str "long"), (.str "unit"), (.str "back")]
  v_MOST_MOVES : ∃ t, mg "MOST_MOVES" = some (.int 8 t)
  v_MOST_BRANCHINGS : ∃ t, mg "MOST_BRANCHINGS" = some (.int 24 t)
  v_MOST_VARIABLES : ∃ t, mg "MOST_VARIABLES" = some (.int 12 t)
  v_MOST_ROUNDS : ∃ t, mg "MOST_ROUNDS" = some (.int 8 t)
theorem sc_Program___init__ : FnScope ["self", "sizes", "moves", "rounds", "code"] ["self", "sizes", "moves", "rounds"] (defScope s_Program___init__) := ⟨rfl, rfl, rfl, by decide +kernel, rfl, by decide +kernel, by decide +kernel⟩
theorem sc_Program___eq__ : FnScope ["self", "other"] ["self", "other"] (defScope s_Program___eq__) := ⟨rfl, rfl, rfl, by decide +kernel, rfl, by decide +kernel, by decide +kernel⟩
theorem sc_program_numbers : FnScope ["program", "numbers", "player", "count", "code", "name", "argument"] ["program"] (defScope s_program_numbers) := ⟨rfl, rfl, rfl, by decide +kernel, rfl, by decide +kernel, by decide +kernel⟩
theorem sc_Numbers___init__ : FnScope ["self", "numbers"] ["self", "numbers"] (defScope s_Numbers___init__) := ⟨rfl, rfl, rfl, by decide +kernel, rfl, by decide +kernel, by decide +kernel⟩
theorem sc_Numbers_take : FnScope ["self", "least", "most"] ["self", "least", "most"] (defScope s_Numbers_take) := ⟨rfl, rfl, rfl, by decide +kernel, rfl, by decide +kernel, by decide +kernel⟩
theorem sc_Numbers_take_code : FnScope ["self", "code", "_", "name"] ["self"] (defScope s_Numbers_take_code) := ⟨rfl, rfl, rfl, by decide +kernel, rfl, by decide +kernel, by decide +kernel⟩
theorem sc_read_program : FnScope ["numbers", "reader", "sizes", "moves", "_", "player", "rounds"] ["numbers"] (defScope s_read_program) := ⟨rfl, rfl, rfl, by decide +kernel, rfl, by decide +kernel, by decide +kernel⟩
theorem sc__law_pool : FnScope ["_law_script", "_law_budget"] ["_law_script", "_law_budget"] (defScope s__law_pool) := ⟨rfl, rfl, rfl, by decide +kernel, rfl, by decide +kernel, by decide +kernel⟩
theorem sc__law_draw : FnScope ["_law_pool_here", "_law_size", "_law_cell", "_law_value"] ["_law_pool_here", "_law_size"] (defScope s__law_draw) := ⟨rfl, rfl, rfl, by decide +kernel, rfl, by decide +kernel, by decide +kernel⟩
theorem sc__law_few : FnScope ["_law_pool_here", "_law_most", "_law_few_here"] ["_law_pool_here", "_law_most"] (defScope s__law_few) := ⟨rfl, rfl, rfl, by decide +kernel, rfl, by decide +kernel, by decide +kernel⟩
theorem sc__law_number : FnScope ["_law_pool_here"] ["_law_pool_here"] (defScope s__law_number) := ⟨rfl, rfl, rfl, by decide +kernel, rfl, by decide +kernel, by decide +kernel⟩
theorem sc__law_same : FnScope ["_law_actual", "_law_due", "_law_k"] ["_law_actual", "_law_due"] (defScope s__law_same) := ⟨rfl, rfl, rfl, by decide +kernel, rfl, by decide +kernel, by decide +kernel⟩
theorem sc__law_names_of_code : FnScope ["_law_text"] [] (defScope s__law_names_of_code) := ⟨rfl, rfl, rfl, by decide +kernel, rfl, by decide +kernel, by decide +kernel⟩
theorem sc__law_row : FnScope ["_law_pool_here", "_law_sizes", "_law_moves", "_law_rounds", "_law_k", "_law_names", "_law_code", "_law_at"] ["_law_pool_here"] (defScope s__law_row) := ⟨rfl, rfl, rfl, by decide +kernel, rfl, by decide +kernel, by decide +kernel⟩
theorem sc__law_numbers : FnScope ["_law_row_here", "_law_numbers_here", "_law_move", "_law_code", "_law_pair", "_law_size"] ["_law_row_here"] (defScope s__law_numbers) := ⟨rfl, rfl, rfl, by decide +kernel, rfl, by decide +kernel, by decide +kernel⟩
theorem sc__law_read : FnScope ["_law_numbers_here", "_law_passed", "_law_program", "e"] ["_law_numbers_here"] (defScope s__law_read) := ⟨rfl, rfl, rfl, by decide +kernel, rfl, by decide +kernel, by decide +kernel⟩
theorem sc_law : FnScope ["_law_script", "_law_pool_here", "_law_row_here", "_law_rows", "_law_numbers_here", "_law_made", "_law_size", "_law_place", "_law_wrong", "_law_spoilt_here", "_law_code"] ["_law_script"] (defScope s_law) := ⟨rfl, rfl, rfl, by decide +kernel, rfl, by decide +kernel, by decide +kernel⟩
def F_Numbers (x0 x1 : V) : List (Str × V) := [("numbers", x0), ("at", x1)]
theorem F_Numbers_numbers {x0 x1 : V} : (F_Numbers x0 x1).lookup ("numbers" : Str) = some x0 := by
  unfold F_Numbers;  rw [List.lookup_cons, beq_self_eq_true]
theorem go_F_Numbers_numbers {K : PySem.W.Frag} {H : Hp} {Q : VK} {a C dx : Addr} {x0 x1 : V} (e : H a = some (.ins C dx (F_Numbers x0 x1))) (c : Cls K C) (n : NoAttr K C "numbers") (h : Q x0 H) : qFld K "numbers" Q (.ref a) H := go_fldV e c n F_Numbers_numbers h
theorem F_Numbers_put_numbers {x0 x1 y : V} : putF "numbers" y (F_Numbers x0 x1) = F_Numbers y x1 := by
  unfold F_Numbers
  simp only [putF, if_true]
theorem F_Numbers_at {x0 x1 : V} : (F_Numbers x0 x1).lookup ("at" : Str) = some x1 := by
  unfold F_Numbers; rw [List.lookup_cons, show ((PySem.Str.ofString "at") == (PySem.Str.ofString "numbers")) = false by decide +kernel]; rw [List.lookup_cons, beq_self_eq_true]
theorem go_F_Numbers_at {K : PySem.W.Frag} {H : Hp} {Q : VK} {a C dx : Addr} {x0 x1 : V} (e : H a = some (.ins C dx (F_Numbers x0 x1))) (c : Cls K C) (n : NoAttr K C "at") (h : Q x1 H) : qFld K "at" Q (.ref a) H := go_fldV e c n F_Numbers_at h
theorem F_Numbers_put_at {x0 x1 y : V} : putF "at" y (F_Numbers x0 x1) = F_Numbers x0 y := by
  unfold F_Numbers
  simp only [putF, if_true, show ¬ ((PySem.Str.ofString "numbers") = (PySem.Str.ofString "at")) by decide +kernel, if_false]
theorem F_Numbers_made {x0 x1 : V} : (putF "at" x1 (putF "numbers" x0 [])) = F_Numbers x0 x1 := by
  unfold F_Numbers
  simp only [putF, show ¬ ((PySem.Str.ofString "numbers") = (PySem.Str.ofString "at")) by decide +kernel, if_false]
theorem F_Numbers_no___init__ {x0 x1 : V} : (F_Numbers x0 x1).lookup ("__init__" : Str) = none := by
  unfold F_Numbers; rw [List.lookup_cons, show ((PySem.Str.ofString "__init__") == (PySem.Str.ofString "numbers")) = false by decide +kernel]; rw [List.lookup_cons, show ((PySem.Str.ofString "__init__") == (PySem.Str.ofString "at")) = false by decide +kernel]; rfl
theorem F_Numbers_no_take {x0 x1 : V} : (F_Numbers x0 x1).lookup ("take" : Str) = none := by
  unfold F_Numbers; rw [List.lookup_cons, show ((PySem.Str.ofString "take") == (PySem.Str.ofString "numbers")) = false by decide +kernel]; rw [List.lookup_cons, show ((PySem.Str.ofString "take") == (PySem.Str.ofString "at")) = false by decide +kernel]; rfl
theorem F_Numbers_no_take_code {x0 x1 : V} : (F_Numbers x0 x1).lookup ("take_code" : Str) = none := by
  unfold F_Numbers; rw [List.lookup_cons, show ((PySem.Str.ofString "take_code") == (PySem.Str.ofString "numbers")) = false by decide +kernel]; rw [List.lookup_cons, show ((PySem.Str.ofString "take_code") == (PySem.Str.ofString "at")) = false by decide +kernel]; rfl
def F_Program (x0 x1 x2 : V) : List (Str × V) := [("sizes", x0), ("moves", x1), ("rounds", x2)]
theorem F_Program_sizes {x0 x1 x2 : V} : (F_Program x0 x1 x2).lookup ("sizes" : Str) = some x0 := by
  unfold F_Program;  rw [List.lookup_cons, beq_self_eq_true]
theorem go_F_Program_sizes {K : PySem.W.Frag} {H : Hp} {Q : VK} {a C dx : Addr} {x0 x1 x2 : V} (e : H a = some (.ins C dx (F_Program x0 x1 x2))) (c : Cls K C) (n : NoAttr K C "sizes") (h : Q x0 H) : qFld K "sizes" Q (.ref a) H := go_fldV e c n F_Program_sizes h
theorem F_Program_put_sizes {x0 x1 x2 y : V} : putF "sizes" y (F_Program x0 x1 x2) = F_Program y x1 x2 := by
  unfold F_Program
  simp only [putF, if_true]
theorem F_Program_moves {x0 x1 x2 : V} : (F_Program x0 x1 x2).lookup ("moves" : Str) = some x1 := by
  unfold F_Program; rw [List.lookup_cons, show ((PySem.Str.ofString "moves") == (PySem.Str.ofString "sizes")) = false by decide +kernel]; rw [List.lookup_cons, beq_self_eq_true]
theorem go_F_Program_moves {K : PySem.W.Frag} {H : Hp} {Q : VK} {a C dx : Addr} {x0 x1 x2 : V} (e : H a = some (.ins C dx (F_Program x0 x1 x2))) (c : Cls K C) (n : NoAttr K C "moves") (h : Q x1 H) : qFld K "moves" Q (.ref a) H := go_fldV e c n F_Program_moves h
theorem F_Program_put_moves {x0 x1 x2 y : V} : putF "moves" y (F_Program x0 x1 x2) = F_Program x0 y x2 := by
  unfold F_Program
  simp only [putF, if_true, show ¬ ((PySem.Str.ofString "sizes") = (PySem.Str.ofString "moves")) by decide +kernel, if_false]
theorem F_Program_rounds {x0 x1 x2 : V} : (F_Program x0 x1 x2).lookup ("rounds" : Str) = some x2 := by
  unfold F_Program; rw [List.lookup_cons, show ((PySem.Str.ofString "rounds") == (PySem.Str.ofString "sizes")) = false by decide +kernel]; rw [List.lookup_cons, show ((PySem.Str.ofString "rounds") == (PySem.Str.ofString "moves")) = false by decide +kernel]; rw [List.lookup_cons, beq_self_eq_true]
theorem go_F_Program_rounds {K : PySem.W.Frag} {H : Hp} {Q : VK} {a C dx : Addr} {x0 x1 x2 : V} (e : H a = some (.ins C dx (F_Program x0 x1 x2))) (c : Cls K C) (n : NoAttr K C "rounds") (h : Q x2 H) : qFld K "rounds" Q (.ref a) H := go_fldV e c n F_Program_rounds h
theorem F_Program_put_rounds {x0 x1 x2 y : V} : putF "rounds" y (F_Program x0 x1 x2) = F_Program x0 x1 y := by
  unfold F_Program
  simp only [putF, if_true, show ¬ ((PySem.Str.ofString "sizes") = (PySem.Str.ofString "rounds")) by decide +kernel, show ¬ ((PySem.Str.ofString "moves") = (PySem.Str.ofString "rounds")) by decide +kernel, if_false]
theorem F_Program_made {x0 x1 x2 : V} : (putF "rounds" x2 (putF "moves" x1 (putF "sizes" x0 []))) = F_Program x0 x1 x2 := by
  unfold F_Program
  simp only [putF, show ¬ ((PySem.Str.ofString "sizes") = (PySem.Str.ofString "moves")) by decide +kernel, show ¬ ((PySem.Str.ofString "sizes") = (PySem.Str.ofString "rounds")) by decide +kernel, show ¬ ((PySem.Str.ofString "moves") = (PySem.Str.ofString "rounds")) by decide +kernel, if_false]
theorem F_Program_no___init__ {x0 x1 x2 : V} : (F_Program x0 x1 x2).lookup ("__init__" : Str) = none := by
  unfold F_Program; rw [List.lookup_cons, show ((PySem.Str.ofString "__init__") == (PySem.Str.ofString "sizes")) = false by decide +kernel]; rw [List.lookup_cons, show ((PySem.Str.ofString "__init__") == (PySem.Str.ofString "moves")) = false by decide +kernel]; rw [List.lookup_cons, show ((PySem.Str.ofString "__init__") == (PySem.Str.ofString "rounds")) = false by decide +kernel]; rfl
theorem F_Program_no___eq__ {x0 x1 x2 : V} : (F_Program x0 x1 x2).lookup ("__eq__" : Str) = none := by
  unfold F_Program; rw [List.lookup_cons, show ((PySem.Str.ofString "__eq__") == (PySem.Str.ofString "sizes")) = false by decide +kernel]; rw [List.lookup_cons, show ((PySem.Str.ofString "__eq__") == (PySem.Str.ofString "moves")) = false by decide +kernel]; rw [List.lookup_cons, show ((PySem.Str.ofString "__eq__") == (PySem.Str.ofString "rounds")) = false by decide +kernel]; rfl

/-- a reader of numbers in ranges -/
inductive Rd (α : Type) where
  | ret (a : α) : Rd α
  | ask (lo hi : Int) (k : Int → Rd α) : Rd α
def Rd.run {α : Type} : Rd α → List Int → Nat → Except Nat (α × Nat)
  | .ret a, _, i => .ok (a, i)
  | .ask lo hi k, ns, i => match ns[i]? with
    | some v => if lo ≤ v ∧ v ≤ hi then (k v).run ns (i + 1) else .error i
    | none => .error i
def Rd.bind {α β : Type} : Rd α → (α → Rd β) → Rd β
  | .ret a, f => f a
  | .ask lo hi k, f => .ask lo hi fun v => (k v).bind f
def many {α : Type} (p : Rd α) : Nat → Rd (List α)
  | 0 => .ret []
  | n + 1 => (many p n).bind fun xs => p.bind fun x => .ret (xs ++ [x])
theorem ask_ok {α : Type} {lo hi : Int} {k : Int → Rd α} {ns : List Int} {i : Nat} {v : Int} (h : ns[i]? = some v) (h1 : lo ≤ v) (h2 : v ≤ hi) : (Rd.ask lo hi k).run ns i = (k v).run ns (i + 1) := by
  rw [Rd.run, h]
  exact if_pos (And.intro h1 h2)
theorem ask_err {α : Type} {lo hi : Int} {k : Int → Rd α} {ns : List Int} {i : Nat} (h : ∀ v, ns[i]? = some v → ¬ (lo ≤ v ∧ v ≤ hi)) : (Rd.ask lo hi k).run ns i = .error i := by
  unfold Rd.run
  cases e : ns[i]? with
  | none => rfl
  | some v => exact if_neg (h v e)
theorem bind_ok {α β : Type} {f : α → Rd β} {ns : List Int} : ∀ {p : Rd α} {i j : Nat} {a : α}, p.run ns i = .ok (a, j) → (p.bind f).run ns i = (f a).run ns j
  | .ret b, i, j, a, h => by cases h; rfl
  | .ask lo hi k, i, j, a, h => by
    unfold Rd.run at h
    unfold Rd.bind
    cases e : ns[i]? with
    | none => rw [e] at h; cases h
    | some v =>
      rw [e] at h
      by_cases c : lo ≤ v ∧ v ≤ hi
      · rw [ask_ok e c.1 c.2]
        have h : (if lo ≤ v ∧ v ≤ hi then (k v).run ns (i + 1) else .error i) = .ok (a, j) := h
        rw [if_pos c] at h
        exact bind_ok h
      · have h : (if lo ≤ v ∧ v ≤ hi then (k v).run ns (i + 1) else .error i) = .ok (a, j) := h
        rw [if_neg c] at h
        cases h
theorem bind_err {α β : Type} {f : α → Rd β} {ns : List Int} : ∀ {p : Rd α} {i j : Nat}, p.run ns i = .error j → (p.bind f).run ns i = .error j
  | .ret b, i, j, h => by cases h
  | .ask lo hi k, i, j, h => by
    unfold Rd.run at h
    unfold Rd.bind
    cases e : ns[i]? with
    | none =>
      rw [e] at h
      rw [ask_err (by rw [e]; intro v z; cases z)]
      cases h
      rfl
    | some v =>
      rw [e] at h
      have h : (if lo ≤ v ∧ v ≤ hi then (k v).run ns (i + 1) else .error i) = .error j := h
      by_cases c : lo ≤ v ∧ v ≤ hi
      · rw [if_pos c] at h
        rw [ask_ok e c.1 c.2]
        exact bind_err h
      · rw [if_neg c] at h
        rw [ask_err (fun w z => by rw [e] at z; cases z; exact c)]
        cases h
        rfl
theorem many_succ {α : Type} {p : Rd α} {n i j k : Nat} {ns : List Int} {xs : List α} {x : α} (h : (many p n).run ns i = .ok (xs, j)) (h2 : p.run ns j = .ok (x, k)) : (many p (n + 1)).run ns i = .ok (xs ++ [x], k) := by
  show ((many p n).bind _).run ns i = _
  rw [bind_ok h, bind_ok h2]
  rfl
theorem many_err {α : Type} {p : Rd α} {n i j e : Nat} {ns : List Int} {xs : List α} (h : (many p n).run ns i = .ok (xs, j)) (h2 : p.run ns j = .error e) : ∀ m, n < m → (many p m).run ns i = .error e := by
  intro m hm
  obtain ⟨d, rfl⟩ : ∃ d, m = n + 1 + d := ⟨m - n - 1, by omega⟩
  clear hm
  induction d with
  | zero =>
    show ((many p n).bind _).run ns i = _
    rw [bind_ok h, bind_err h2]
  | succ d ih =>
    show ((many p (n + 1 + d)).bind _).run ns i = _
    rw [bind_err ih]
/-- a reader passes these rows (value, least, most) and comes to a -/
inductive Tr {α : Type} : Rd α → List (Int × Int × Int) → α → Prop
  | ret (a : α) : Tr (.ret a) [] a
  | ask {lo hi v : Int} {k : Int → Rd α} {rows : List (Int × Int × Int)} {a : α} (h1 : lo ≤ v) (h2 : v ≤ hi) (h : Tr (k v) rows a) : Tr (.ask lo hi k) ((v, lo, hi) :: rows) a
theorem Tr.bind {α β : Type} {f : α → Rd β} {p : Rd α} {r1 r2 : List (Int × Int × Int)} {a : α} {b : β} (h : Tr p r1 a) (h2 : Tr (f a) r2 b) : Tr (p.bind f) (r1 ++ r2) b := by
  induction h with
  | ret a => exact h2
  | ask h1 h2' _ ih => exact .ask h1 h2' (ih h2)
theorem Tr.many {α β : Type} {p : Rd α} {f : β → List (Int × Int × Int)} {g : β → α} (l : List β) : (∀ x ∈ l, Tr p (f x) (g x)) → Tr (many p l.length) (l.flatMap f) (l.map g) := by
  induction l using snocRec with
  | nil => intro _; exact .ret []
  | append_singleton l x ih =>
    intro h
    have h1 := ih fun y hy => h y (List.mem_append_left _ hy)
    have h2 := h x (by simp)
    rw [List.length_append, List.flatMap_append, List.map_append]
    show Tr ((K79.many p l.length).bind _) _ _
    refine h1.bind ?_
    rw [show [x].flatMap f = f x ++ [] by simp]
    exact h2.bind (.ret _)
theorem Tr.run_ok {α : Type} {p : Rd α} {rows : List (Int × Int × Int)} {a : α} (h : Tr p rows a) : ∀ pre post : List Int, p.run (pre ++ rows.map (·.1) ++ post) pre.length = .ok (a, pre.length + rows.length) := by
  induction h with
  | ret a => intro pre post; rfl
  | @ask lo hi v k rows a h1 h2 _ ih =>
    intro pre post
    have e : (pre ++ ((v, lo, hi) :: rows).map (·.1) ++ post)[pre.length]? = some v := by simp
    rw [ask_ok e h1 h2]
    have := ih (pre ++ [v]) post
    rw [List.length_append, List.length_singleton] at this
    rw [show pre ++ ((v, lo, hi) :: rows).map (·.1) ++ post = pre ++ [v] ++ rows.map (·.1) ++ post by simp, this, List.length_cons]
    exact congrArg (fun n => Except.ok (a, n)) (by omega)
theorem Tr.run_pre {α : Type} {p : Rd α} {rows : List (Int × Int × Int)} {a : α} (h : Tr p rows a) : ∀ (pre : List Int) (k : Nat), k < rows.length → p.run (pre ++ (rows.map (·.1)).take k) pre.length = .error (pre.length + k) := by
  induction h with
  | ret a => intro pre k hk; exact absurd hk (Nat.not_lt_zero k)
  | @ask lo hi v k rows a h1 h2 _ ih =>
    intro pre n hn
    cases n with
    | zero =>
      rw [ask_err]
      · rfl
      · intro w hw
        simp at hw
    | succ n =>
      have e : (pre ++ (((v, lo, hi) :: rows).map (·.1)).take (n + 1))[pre.length]? = some v := by simp
      rw [ask_ok e h1 h2]
      have := ih (pre ++ [v]) n (by rw [List.length_cons] at hn; omega)
      rw [List.length_append, List.length_singleton] at this
      rw [show pre ++ (((v, lo, hi) :: rows).map (·.1)).take (n + 1) = pre ++ [v] ++ (rows.map (·.1)).take n by simp, this]
      exact congrArg Except.error (by omega)
theorem Tr.run_set {α : Type} {p : Rd α} {rows : List (Int × Int × Int)} {a : α} (h : Tr p rows a) : ∀ (pre post : List Int) (k : Nat) (r : Int × Int × Int) (w : Int), rows[k]? = some r → ¬ (r.2.1 ≤ w ∧ w ≤ r.2.2) → p.run (pre ++ (rows.map (·.1)).take k ++ [w] ++ post) pre.length = .error (pre.length + k) := by
  induction h with
  | ret a => intro pre post k r w hk; cases hk
  | @ask lo hi v k rows a h1 h2 _ ih =>
    intro pre post n r w hn hw
    cases n with
    | zero =>
      cases hn
      rw [ask_err]
      · rfl
      · intro u hu
        simp at hu
        rw [← hu]
        exact hw
    | succ n =>
      have e : (pre ++ (((v, lo, hi) :: rows).map (·.1)).take (n + 1) ++ [w] ++ post)[pre.length]? = some v := by simp
      rw [ask_ok e h1 h2]
      have := ih (pre ++ [v]) post n r w hn hw
      rw [List.length_append, List.length_singleton] at this
      rw [show pre ++ (((v, lo, hi) :: rows).map (·.1)).take (n + 1) ++ [w] ++ post = pre ++ [v] ++ (rows.map (·.1)).take n ++ [w] ++ post by simp, this]
      exact congrArg Except.error (by omega)
/-! ### programs -/
def namesC : List Str := ["push", "load", "store", "sign", "jump", "skip", "lot", "end", "ask", "show", "pay", "take", "view", "long", "unit", "back"]
def pD (p : Str × Int) : PyData := .tuple [.str p.1, .int p.2]
def mD (p : Int × Int) : PyData := .tuple [.int p.1, .int p.2]
abbrev Code := List (Str × Int)
structure Prog where
  ss : List Int
  ms : List (Int × Int)
  rs : List Code
def ssD (r : Prog) : PyData := .tuple (r.ss.map .int)
def msD (r : Prog) : PyData := .tuple (r.ms.map mD)
def cD (c : Code) : PyData := .tuple (c.map pD)
def rsD (r : Prog) : PyData := .tuple (r.rs.map cD)
def rdPair : Rd (Str × Int) := .ask 0 15 fun a => .ask 0 65535 fun b => .ret (namesC.getD a.toNat "", b)
def rdCode : Rd Code := .ask 0 65535 fun n => many rdPair n.toNat
def rdMove : Rd (Int × Int) := .ask 1 2 fun a => .ask 1 8 fun b => .ret (a, b)
def rdSize : Rd Int := .ask 1 65535 .ret
def rdProg : Rd Prog := .ask 0 12 fun n => (many rdSize n.toNat).bind fun ss => .ask 0 24 fun m => (many rdMove m.toNat).bind fun ms => .ask 0 8 fun r => (many rdCode r.toNat).bind fun rs => .ret ⟨ss, ms, rs⟩
/-- what read_program reads -/
def readP (ns : List Int) : Except Nat Prog := match rdProg.run ns 0 with
  | .ok (r, k) => if k < ns.length then .error k else .ok r
  | .error e => .error e
abbrev Rw := Int × Int × Int
def rowP (p : Str × Int) : List Rw := [((namesC.idxOf p.1 : Nat), 0, 15), (p.2, 0, 65535)]
def rowC (c : Code) : List Rw := ((c.length : Nat), 0, 65535) :: c.flatMap rowP
def rowM (p : Int × Int) : List Rw := [(p.1, 1, 2), (p.2, 1, 8)]
def rowS (s : Int) : List Rw := [(s, 1, 65535)]
def nR (n : Nat) (hi : Int) : Rw := ((n : Int), 0, hi)
def rowsOf (r : Prog) : List Rw := nR r.ss.length 12 :: (r.ss.flatMap rowS ++ (nR r.ms.length 24 :: (r.ms.flatMap rowM ++ (nR r.rs.length 8 :: (r.rs.flatMap rowC ++ [])))))
def PairOk (p : Str × Int) : Prop := p.1 ∈ namesC ∧ 0 ≤ p.2 ∧ p.2 ≤ 65535
structure ProgOk (r : Prog) : Prop where
  s1 : r.ss.length ≤ 12
  s2 : ∀ s ∈ r.ss, 1 ≤ s ∧ s ≤ 65535
  m1 : r.ms.length ≤ 24
  m2 : ∀ p ∈ r.ms, (1 ≤ p.1 ∧ p.1 ≤ 2) ∧ 1 ≤ p.2 ∧ p.2 ≤ 8
  r1 : r.rs.length ≤ 8
  r2 : ∀ c ∈ r.rs, c.length ≤ 10 ∧ ∀ p ∈ c, PairOk p
theorem idx_lt {x : Str} (h : x ∈ namesC) : namesC.idxOf x < 16 := List.idxOf_lt_length_iff.mpr h
theorem idx_get {x : Str} (h : x ∈ namesC) : namesC.getD (namesC.idxOf x) "" = x := by
  have h1 := idx_lt h
  rw [List.getD_eq_getElem?_getD, List.getElem?_eq_getElem (show namesC.idxOf x < namesC.length from h1)]
  exact List.getElem_idxOf (show namesC.idxOf x < namesC.length from h1)
theorem tr_pair {p : Str × Int} (h : PairOk p) : Tr rdPair (rowP p) p := by
  have h1 := idx_lt h.1
  refine .ask (by omega) (by omega) (.ask h.2.1 h.2.2 ?_)
  have e : (namesC.getD ((namesC.idxOf p.1 : Nat) : Int).toNat "", p.2) = p := by
    rw [Int.toNat_natCast, idx_get h.1]
  rw [e]
  exact .ret p
theorem tr_code {c : Code} (h : c.length ≤ 10 ∧ ∀ p ∈ c, PairOk p) : Tr rdCode (rowC c) c := by
  refine .ask (by omega) (by omega) ?_
  have := Tr.many (p := rdPair) (f := rowP) (g := id) c fun p hp => tr_pair (h.2 p hp)
  rw [List.map_id] at this
  exact this
theorem tr_prog {r : Prog} (h : ProgOk r) : Tr rdProg (rowsOf r) r := by
  have h1 := h.s1
  have h2 := h.m1
  have h3 := h.r1
  have t1 := Tr.many (p := rdSize) (f := rowS) (g := id) r.ss fun p hp => .ask (h.s2 p hp).1 (h.s2 p hp).2 (.ret p)
  have t2 := Tr.many (p := rdMove) (f := rowM) (g := id) r.ms fun p hp => .ask (h.m2 p hp).1.1 (h.m2 p hp).1.2 (.ask (h.m2 p hp).2.1 (h.m2 p hp).2.2 (.ret p))
  have t3 := Tr.many (p := rdCode) (f := rowC) (g := id) r.rs fun p hp => tr_code (h.r2 p hp)
  rw [List.map_id] at t1 t2 t3
  exact .ask (v := (r.ss.length : Int)) (by omega) (by omega) (t1.bind (.ask (v := (r.ms.length : Int)) (by omega) (by omega) (t2.bind (.ask (v := (r.rs.length : Int)) (by omega) (by omega) (t3.bind (.ret r))))))
def numsOf (r : Prog) : List Int := (rowsOf r).map (·.1)
theorem read_ok {r : Prog} (h : ProgOk r) : readP (numsOf r) = .ok r := by
  have e := (tr_prog h).run_ok [] []
  rw [List.nil_append, List.append_nil] at e
  have e2 : rdProg.run (numsOf r) 0 = .ok (r, 0 + (rowsOf r).length) := e
  unfold readP
  rw [e2]
  refine if_neg ?_
  unfold numsOf
  rw [List.length_map]
  omega
theorem read_more {r : Prog} (h : ProgOk r) (x : Int) : readP (numsOf r ++ [x]) = .error (numsOf r).length := by
  have e := (tr_prog h).run_ok [] [x]
  rw [List.nil_append] at e
  have e2 : rdProg.run (numsOf r ++ [x]) 0 = .ok (r, 0 + (rowsOf r).length) := e
  unfold readP
  rw [e2]
  have l : (numsOf r).length = (rowsOf r).length := List.length_map ..
  refine (if_pos (by rw [List.length_append, l]; simp)).trans ?_
  rw [l, Nat.zero_add]
theorem read_pre {r : Prog} (h : ProgOk r) {k : Nat} (hk : k < (numsOf r).length) : readP ((numsOf r).take k) = .error k := by
  have e := (tr_prog h).run_pre [] k (by unfold numsOf at hk; rw [List.length_map] at hk; exact hk)
  rw [List.nil_append] at e
  have e2 : rdProg.run ((numsOf r).take k) 0 = .error (0 + k) := e
  unfold readP
  rw [e2, Nat.zero_add]
theorem read_set {r : Prog} (h : ProgOk r) {k : Nat} {q : Rw} (hk : (rowsOf r)[k]? = some q) {w : Int} (hw : ¬ (q.2.1 ≤ w ∧ w ≤ q.2.2)) (post : List Int) : readP ((numsOf r).take k ++ [w] ++ post) = .error k := by
  have e := (tr_prog h).run_set [] post k q w hk hw
  rw [List.nil_append] at e
  have e2 : rdProg.run ((numsOf r).take k ++ [w] ++ post) 0 = .error (0 + k) := e
  unfold readP
  rw [e2, Nat.zero_add]
theorem row_range {r : Prog} {q : Rw} (h : q ∈ rowsOf r) : 0 ≤ q.2.1 ∧ q.2.2 ≤ 65535 := by
  have hp : ∀ p, ∀ q ∈ rowP p, 0 ≤ q.2.1 ∧ q.2.2 ≤ 65535 := fun p q h => by
    rcases List.mem_cons.mp h with rfl | h
    · exact ⟨Int.le_refl 0, show (15 : Int) ≤ 65535 by decide⟩
    · rw [List.mem_singleton.mp h]; exact ⟨Int.le_refl 0, Int.le_refl _⟩
  unfold rowsOf at h
  simp only [List.mem_cons, List.mem_append, List.mem_flatMap, List.not_mem_nil, or_false] at h
  rcases h with rfl | ⟨s, _, h⟩ | rfl | ⟨s, _, h⟩ | rfl | ⟨s, _, h⟩
  · exact ⟨Int.le_refl 0, show (12 : Int) ≤ 65535 by decide⟩
  · rw [List.mem_singleton.mp h]; exact ⟨show (0 : Int) ≤ 1 by decide, Int.le_refl _⟩
  · exact ⟨Int.le_refl 0, show (24 : Int) ≤ 65535 by decide⟩
  · rcases List.mem_cons.mp h with rfl | h
    · exact ⟨show (0 : Int) ≤ 1 by decide, show (2 : Int) ≤ 65535 by decide⟩
    · rw [List.mem_singleton.mp h]; exact ⟨show (0 : Int) ≤ 1 by decide, show (8 : Int) ≤ 65535 by decide⟩
  · exact ⟨Int.le_refl 0, show (8 : Int) ≤ 65535 by decide⟩
  · rcases List.mem_cons.mp h with rfl | h
    · exact ⟨Int.le_refl 0, Int.le_refl _⟩
    · obtain ⟨p, _, h⟩ := List.mem_flatMap.mp h
      exact hp p q h

theorem dp1 {K : PySem.W.Frag} {H : Hp} {xs : List V} {a : PyData} (h : DpAll K H xs [a]) : ∃ x, xs = [x] ∧ Dp K H x a := by
  cases h with | cons h1 h2 => cases h2; exact ⟨_, rfl, h1⟩
theorem dp2 {K : PySem.W.Frag} {H : Hp} {xs : List V} {a b : PyData} (h : DpAll K H xs [a, b]) : ∃ x y, xs = [x, y] ∧ Dp K H x a ∧ Dp K H y b := by
  cases h with | cons h1 h2 => cases h2 with | cons h3 h4 => cases h4; exact ⟨_, _, rfl, h1, h3⟩
theorem dp3 {K : PySem.W.Frag} {H : Hp} {xs : List V} {a b c : PyData} (h : DpAll K H xs [a, b, c]) : ∃ x y z, xs = [x, y, z] ∧ Dp K H x a ∧ Dp K H y b ∧ Dp K H z c := by
  cases h with | cons h1 h2 => cases h2 with | cons h3 h4 => cases h4 with | cons h5 h6 => cases h6; exact ⟨_, _, _, rfl, h1, h3, h5⟩
theorem dp4 {K : PySem.W.Frag} {H : Hp} {xs : List V} {a b c d : PyData} (h : DpAll K H xs [a, b, c, d]) : ∃ x y z w, xs = [x, y, z, w] ∧ Dp K H x a ∧ Dp K H y b ∧ Dp K H z c ∧ Dp K H w d := by
  cases h with | cons h1 h2 => cases h2 with | cons h3 h4 => cases h4 with | cons h5 h6 => cases h6 with | cons h7 h8 => cases h8; exact ⟨_, _, _, _, rfl, h1, h3, h5, h7⟩
theorem dpS {K : PySem.W.Frag} {H : Hp} {x : V} {z : Str} (h : Dp K H x (.str z)) : x = .str z := by cases h; rfl
theorem dpI {K : PySem.W.Frag} {H : Hp} {x : V} {z : Int} (h : Dp K H x (.int z)) : x = .int z := by cases h; rfl

/-- a place in a list of numbers -/
structure NmAt (C : Addr) (H : Hp) (r l : Addr) (ns : List Int) (i : Nat) : Prop where
  ob : ∃ dx, H r = some (.ins C dx (F_Numbers (.ref l) (.int (i : Nat))))
  li : H l = some (.lst (ns.map V.int))
theorem NmAt.same {C : Addr} {H H' : Hp} {r l : Addr} {ns : List Int} {i : Nat} (h : NmAt C H r l ns i) (s : Same H H') : NmAt C H' r l ns i := ⟨let ⟨dx, e⟩ := h.ob; ⟨dx, s _ _ e⟩, s _ _ h.li⟩
/-- another list is written -/
theorem NmAt.put {C : Addr} {H : Hp} {r l D : Addr} {ns : List Int} {i : Nat} {xs ys : List V} (h : NmAt C H r l ns i) (n : D ≠ l) (e : H D = some (.lst xs)) : NmAt C (upd H D (.lst ys)) r l ns i := by
  obtain ⟨dx, o⟩ := h.ob
  exact ⟨⟨dx, by rw [upd_ne (fun z => by rw [z, e] at o; cases o)]; exact o⟩, by rw [upd_ne n.symm]; exact h.li⟩
structure PgAt (K : PySem.W.Frag) (C : Addr) (H : Hp) (x : Addr) (r : Prog) : Prop where
  ob : ∃ dx s m q, H x = some (.ins C dx (F_Program (.ref s) (.ref m) (.ref q))) ∧ Dp K H (.ref s) (ssD r) ∧ Dp K H (.ref m) (msD r) ∧ Dp K H (.ref q) (rsD r)
theorem PgAt.same {K : PySem.W.Frag} {C : Addr} {H H' : Hp} {x : Addr} {r : Prog} (h : PgAt K C H x r) (s : Same H H') : PgAt K C H' x r := by
  obtain ⟨dx, a, b, c, e, h1, h2, h3⟩ := h.ob
  exact ⟨dx, a, b, c, s _ _ e, dp_same s _ _ h1, dp_same s _ _ h2, dp_same s _ _ h3⟩
/-- the made list is written at the end -/
theorem but_put {r D : Addr} {H H1 : Hp} {xs : List V} (hD : H D = none) (b : But r H H1) : But r H (upd H1 D (.lst xs)) := fun c o n e => by
  rw [upd_ne (ne_of_none e hD)]
  exact b c o n e
theorem pg_noL (p : Str × Int) : noL (pD p) = true := rfl
theorem noL_map {α : Type} {f : α → PyData} (hf : ∀ x, noL (f x) = true) (l : List α) : noLAll (l.map f) = true := noL_all fun d hd => by
  obtain ⟨x, _, rfl⟩ := List.mem_map.mp hd
  exact hf x
def rwD (q : Rw) : PyData := .tuple [.int q.1, .int q.2.1, .int q.2.2]
theorem noL_rw (q : Rw) : noL (rwD q) = true := rfl
theorem noL_c (c : Code) : noL (cD c) = true := noL_map pg_noL c
theorem noL_ss (r : Prog) : noL (ssD r) = true := noL_map (fun _ => rfl) _
theorem noL_ms (r : Prog) : noL (msD r) = true := noL_map (fun _ => rfl) _
theorem noL_rs (r : Prog) : noL (rsD r) = true := noL_map noL_c _
theorem small_map {α : Type} {f : α → PyData} (hf : ∀ x, small (f x) = true) : ∀ l : List α, smallAll (l.map f) = true
  | [] => rfl
  | x :: l => by
    show (small (f x) && smallAll (l.map f)) = true
    rw [hf x, small_map hf l]
    rfl
theorem flat_S (l : List Int) : l.flatMap rowS = l.map fun s => (s, 1, 65535) := by
  induction l with
  | nil => rfl
  | cons x l ih => rw [List.flatMap_cons, ih]; rfl
theorem sum_const {α : Type} {f : α → Nat} (n : Nat) : ∀ l : List α, (∀ x, f x = n) → (l.map f).sum = n * l.length
  | [], _ => rfl
  | x :: l, h => by
    rw [List.map_cons, List.sum_cons, h x, sum_const n l h, List.length_cons, Nat.mul_add, Nat.mul_one, Nat.add_comm]
theorem sum_le {α : Type} {f : α → Nat} (n : Nat) : ∀ l : List α, (∀ x ∈ l, f x ≤ n) → (l.map f).sum ≤ n * l.length
  | [], _ => Nat.le_refl _
  | x :: l, h => by
    have h1 := h x List.mem_cons_self
    have h2 := sum_le n l fun y hy => h y (List.mem_cons_of_mem _ hy)
    rw [List.map_cons, List.sum_cons, List.length_cons, Nat.mul_add, Nat.mul_one]
    omega
theorem dp_intsA {K : PySem.W.Frag} {H : Hp} (l : List Int) : DpAll K H (l.map V.int) (l.map PyData.int) := dp_ints l
theorem rows_len {r : Prog} (h : ProgOk r) : (rowsOf r).length ≤ 250 ∧ 0 < (rowsOf r).length := by
  have b1 := h.s1
  have b2 := h.m1
  have b3 := h.r1
  have e1 : (r.ss.flatMap rowS).length = 1 * r.ss.length := by rw [List.length_flatMap]; exact sum_const (f := fun a => (rowS a).length) 1 _ (fun _ => rfl)
  have e2 : (r.ms.flatMap rowM).length = 2 * r.ms.length := by rw [List.length_flatMap]; exact sum_const (f := fun a => (rowM a).length) 2 _ (fun _ => rfl)
  have e3 : (r.rs.flatMap rowC).length ≤ 21 * r.rs.length := by
    rw [List.length_flatMap]
    refine sum_le 21 _ fun c hc => ?_
    have := (h.r2 c hc).1
    show (nR c.length 65535 :: c.flatMap rowP).length ≤ 21
    rw [List.length_cons, List.length_flatMap, sum_const (f := fun a => (rowP a).length) 2 _ (fun _ => rfl)]
    omega
  unfold rowsOf
  simp only [List.length_cons, List.length_append, List.length_nil]
  omega
theorem names_at {v : Int} (h0 : 0 ≤ v) (h1 : v ≤ 15) : atI (namesC.map V.str) v = some (.str (namesC.getD v.toNat "")) := by
  obtain ⟨n, rfl⟩ : ∃ n : Nat, v = (n : Int) := ⟨v.toNat, by omega⟩
  have hn : n < namesC.length := by show n < 16; omega
  refine at_nat ?_
  rw [List.getElem?_map, Int.toNat_natCast, List.getD_eq_getElem?_getD, List.getElem?_eq_getElem hn]
  rfl
theorem dDeepAll_le {n : Nat} : ∀ {ds : List PyData}, (∀ d ∈ ds, dDeep d ≤ n) → dDeepAll ds ≤ n
  | [], _ => Nat.zero_le _
  | d :: ds, h => by
    show max (dDeep d) (dDeepAll ds) ≤ n
    exact Nat.max_le.mpr ⟨h d List.mem_cons_self, dDeepAll_le fun x hx => h x (List.mem_cons_of_mem _ hx)⟩
theorem deepMap {α : Type} {f : α → PyData} {n : Nat} (l : List α) (h : ∀ x, dDeep (f x) ≤ n) : dDeepAll (l.map f) ≤ n := dDeepAll_le fun d hd => by
  obtain ⟨x, _, rfl⟩ := List.mem_map.mp hd
  exact h x
theorem canLay_map {α : Type} {f : α → PyData} : ∀ l : List α, (∀ x ∈ l, PyData.canLay0 (f x) = true) → PyData.canLayAll0 (l.map f) = true
  | [], _ => rfl
  | x :: l, h => by
    rw [List.map_cons]
    simp only [PyData.canLayAll0, h x List.mem_cons_self, canLay_map l fun y hy => h y (List.mem_cons_of_mem _ hy), Bool.and_self]
theorem depth_map {α : Type} {f : α → PyData} {n : Nat} : ∀ l : List α, (∀ x ∈ l, PyData.depth (f x) ≤ n) → PyData.depthAll (l.map f) ≤ n
  | [], _ => Nat.zero_le _
  | x :: l, h => by
    rw [List.map_cons]
    unfold PyData.depthAll
    exact Nat.max_le.mpr ⟨h x List.mem_cons_self, depth_map l fun y hy => h y (List.mem_cons_of_mem _ hy)⟩
theorem shaped_map {α : Type} {f : α → PyData} {l : List α} (h1 : ∀ x ∈ l, PyData.canLay0 (f x) = true) (h2 : ∀ x ∈ l, PyData.depth (f x) ≤ 60) : SeqAt.shaped (.tuple (l.map f)) = true := by
  unfold SeqAt.shaped
  rw [Bool.and_eq_true, decide_eq_true_eq]
  refine ⟨?_, ?_⟩
  · simp only [PyData.canLay0]
    exact canLay_map l h1
  · unfold PyData.depth
    have := depth_map l h2
    omega
theorem names_ok : namesC.all PyData.strOk = true := by decide +kernel
theorem lay_p {p : Str × Int} (h : p.1 ∈ namesC) : PyData.canLay0 (pD p) = true := by
  have := List.all_eq_true.mp names_ok _ h
  simp only [pD, PyData.canLay0, PyData.canLayAll0, this, Bool.and_self]
theorem dep_p (p : Str × Int) : PyData.depth (pD p) ≤ 1 := by
  simp only [pD, PyData.depth, PyData.depthAll]
  decide
theorem shaped_ss {r : Prog} (h : ProgOk r) : SeqAt.shaped (ssD r) = true := shaped_map (fun _ _ => by simp only [PyData.canLay0]) fun _ _ => by simp only [PyData.depth]; decide
theorem shaped_ms {r : Prog} (h : ProgOk r) : SeqAt.shaped (msD r) = true := shaped_map (fun _ _ => by simp only [mD, PyData.canLay0, PyData.canLayAll0, Bool.and_self]) fun _ _ => by simp only [mD, PyData.depth, PyData.depthAll]; decide
theorem shaped_rs {r : Prog} (h : ProgOk r) : SeqAt.shaped (rsD r) = true := shaped_map (fun c hc => by
    simp only [cD, PyData.canLay0]
    exact canLay_map c fun p hp => lay_p ((h.r2 c hc).2 p hp).1) fun c hc => by
    unfold cD PyData.depth
    have := depth_map (f := pD) (n := 1) c fun p _ => dep_p p
    omega
theorem smallMap {α : Type} {f : α → PyData} : ∀ l : List α, (∀ x ∈ l, small (f x) = true) → smallAll (l.map f) = true
  | [], _ => rfl
  | x :: l, h => by
    show (small (f x) && smallAll (l.map f)) = true
    rw [h x List.mem_cons_self, smallMap l fun y hy => h y (List.mem_cons_of_mem _ hy)]
    rfl
theorem smallT {ds : List PyData} (h : ds.length ≤ 100000) (h2 : smallAll ds = true) : small (.tuple ds) = true := by
  show (decide (ds.length ≤ 100000) && smallAll ds) = true
  rw [decide_eq_true h, h2]
  rfl
theorem smallL {ds : List PyData} (h : ds.length ≤ 100000) (h2 : smallAll ds = true) : small (.list ds) = true := by
  show (decide (ds.length ≤ 100000) && smallAll ds) = true
  rw [decide_eq_true h, h2]
  rfl
theorem small_ints {l : List Int} (h : l.length ≤ 100000) : small (.list (l.map .int)) = true := smallL (by rw [List.length_map]; exact h) (smallMap _ fun _ _ => rfl)
theorem small_3 {r : Prog} (h : ProgOk r) : smallAll [ssD r, msD r, rsD r] = true := by
  have b1 := h.s1
  have b2 := h.m1
  have b3 := h.r1
  have e1 : small (ssD r) = true := smallT (by rw [List.length_map]; omega) (smallMap _ fun _ _ => rfl)
  have e2 : small (msD r) = true := smallT (by rw [List.length_map]; omega) (smallMap _ fun _ _ => rfl)
  have e3 : small (rsD r) = true := smallT (by rw [List.length_map]; omega) (smallMap _ fun c hc => smallT (by rw [List.length_map]; have := (h.r2 c hc).1; omega) (smallMap _ fun _ _ => rfl))
  show (small (ssD r) && (small (msD r) && (small (rsD r) && true))) = true
  rw [e1, e2, e3]
  rfl
theorem small_row {r : Prog} (h : ProgOk r) : small (.list [ssD r, msD r, rsD r]) = true := smallL (by show 3 ≤ 100000; decide) (small_3 h)
theorem small_read {r : Prog} (h : ProgOk r) : small (.tuple [.str "read", .list [ssD r, msD r, rsD r], .bool true]) = true := smallT (by show 3 ≤ 100000; decide) (by
  show (true && (small (.list [ssD r, msD r, rsD r]) && (true && true))) = true
  rw [small_row h]
  rfl)
theorem deep_ints (l : List Int) : dDeep (.list (l.map .int)) ≤ 5 := by
  show dDeepAll _ + 1 ≤ 5
  have := deepMap (f := PyData.int) (n := 0) l fun _ => Nat.le_refl _
  omega
theorem deep_ref (i : Int) : dDeep (.tuple [.str "refused", .int i, .bool true]) ≤ 5 := by
  show 0 + 1 ≤ 5
  decide
theorem small_ref (i : Int) : small (.tuple [.str "refused", .int i, .bool true]) = true := rfl
theorem deep_3 (r : Prog) : dDeepAll [ssD r, msD r, rsD r] ≤ 3 := by
  refine dDeepAll_le fun d hd => ?_
  simp only [List.mem_cons, List.not_mem_nil, or_false] at hd
  rcases hd with rfl | rfl | rfl
  · show dDeepAll _ + 1 ≤ 3
    have := deepMap (f := PyData.int) (n := 0) r.ss fun _ => Nat.le_refl _
    omega
  · show dDeepAll _ + 1 ≤ 3
    have := deepMap (f := mD) (n := 1) r.ms fun _ => Nat.le_refl _
    omega
  · show dDeepAll _ + 1 ≤ 3
    have := deepMap (f := cD) (n := 2) r.rs fun c => by
      show dDeepAll _ + 1 ≤ 2
      have := deepMap (f := pD) (n := 1) c fun _ => Nat.le_refl _
      omega
    omega
theorem deep_row (r : Prog) : dDeep (.list [ssD r, msD r, rsD r]) ≤ 5 := by
  show dDeepAll _ + 1 ≤ 5
  have := deep_3 r
  omega
theorem deep_read (r : Prog) : dDeep (.tuple [.str "read", .list [ssD r, msD r, rsD r], .bool true]) ≤ 5 := by
  show max 0 (max (dDeepAll _ + 1) (max 0 0)) + 1 ≤ 5
  have := deep_3 r
  omega
theorem names_mem {v : Int} (h0 : 0 ≤ v) (h1 : v ≤ 15) : namesC.getD v.toNat "" ∈ namesC := by
  have hn : v.toNat < namesC.length := by show v.toNat < 16; omega
  rw [List.getD_eq_getElem?_getD, List.getElem?_eq_getElem hn]
  exact List.getElem_mem hn
theorem names_spl : TL.spl [32] 0 [] (Str.ofString "push load store sign jump skip lot end ask show pay take view long unit back").cps.toList = namesC.map fun k => k.cps.toList := by decide +kernel
theorem names_split : ((TL.spl [32] 0 [] (Str.ofString "push load store sign jump skip lot end ask show pay take view long unit back").cps.toList).map fun w => V.str (S w)) = namesC.map V.str := by
  rw [names_spl, List.map_map]
  rfl
theorem go_splitX {H : Hp} {Q : VK} {x : Str} (hl : x.length ≤ 90000) {c : Nat} (hc : c < 256) (h : ∀ p, H p = none → Q (.ref p) (upd H p (.lst ((TL.spl [c] 0 [] x.cps.toList).map fun w => V.str (S w))))) : qSplit (.str x) [.str (S [c])] H Q :=
  go_split (a := x.cps.toList) (by rw [← len_toList]; exact hl) hc h

end K79
local macro_rules | `(tactic| walk_at "go1") => `(tactic| first
  | with_reducible refine K79.go_F_Numbers_numbers (by assumption) (by assumption) (by assumption) ?_
  | with_reducible refine K79.go_F_Numbers_at (by assumption) (by assumption) (by assumption) ?_
  | with_reducible refine K79.go_F_Program_sizes (by assumption) (by assumption) (by assumption) ?_
  | with_reducible refine K79.go_F_Program_moves (by assumption) (by assumption) (by assumption) ?_
  | with_reducible refine K79.go_F_Program_rounds (by assumption) (by assumption) (by assumption) ?_)
namespace K79
open PySem PySem.Spec PyProof.Rows L2 Gx
section
variable {P : Program} {w : World} {K : PySem.W.Frag} {mg : Str → Option Value} {base : Heap} {A : Ad}
def sp_Program___init__ (K : PySem.W.Frag) (C : Addr) : Sp := fun vs H Q _ => ∃ (p dx : Addr) (s m q : V) (r : Prog), vs = [.ref p, s, m, q] ∧ H p = some (.ins C dx []) ∧ Dp K H s (.list (r.ss.map .int)) ∧ Dp K H m (.list (r.ms.map mD)) ∧ Dp K H q (.list (r.rs.map fun c => .list (c.map pD))) ∧ r.rs.length ≤ 100000 ∧ ∀ (H' : Hp), PgAt K C H' p r → But p H H' → Q .non H'
theorem G_Program___init__ (T : Txt P K mg A) : FnOk P w K mg base CX0 1 A.f_Program___init__ A.d_Program___init__ ["self", "sizes", "moves", "rounds"] (sp_Program___init__ K A.c_Program) := by
  refine (T.F_Program___init__.ok (k := 0) sc_Program___init__ (fun vs H Q E h => ?_) (fun cdv Ar outer s H vs Q E hr h => ?_))
  · obtain ⟨p, dx, s, m, q, r, rfl, _⟩ := h
    rfl
  · obtain ⟨p, dx, s, m, q, r, rfl, hp, hs, hm, hq, hz, fin⟩ := h
    have cl := T.cl_Program
    have na_sizes := T.na_Program_sizes
    have na_moves := T.na_Program_moves
    have na_rounds := T.na_Program_rounds

    obtain ⟨sa, sx, rfl, es, ds⟩ := dp_lst hs
    refine ⟨_, (pss_cons (ps_fld (pv 0) (pe_callTy k_tupF (by rfl) T.n_tuple (by decide +kernel) (pa_cons (pv 1) pa_nil)) rfl)
      (pss_cons (ps_fld (pv 0) (pe_callTy k_tupF (by rfl) T.n_tuple (by decide +kernel) (pa_cons (pv 2) pa_nil)) rfl)
      (pss_one (ps_fld (pv 0) (pe_callTy k_tupF (by rfl) T.n_tuple (by decide +kernel) (pa_cons (pe_lc (own := [("code", 4)]) (g := gName 4) (tt := tYes) rfl sc_Program___init__.nd (pi_list (pv 3)) (blkOk_by (N := ["self", "sizes", "moves", "rounds", "code"]) (sc := defScope s_Program___init__) (by decide +kernel)) (fun _ _ _ _ _ => (pg_name (i := 4) sc_Program___init__.nd rfl (Or.inl rfl))) (fun _ _ _ _ _ => by exact pts_nil) (fun _ _ _ _ _ => by exact (pe_callTy (k_tupFK (K := K) rfl) (by rfl) T.n_tuple (by decide +kernel) (pa_cons (pv 4) pa_nil)))) pa_nil)) rfl)))), ?_⟩
    try dsimp only [cxOf, Cx.nox, Cx.wish]
    walk_at "go"
    refine ⟨sa, sx, rfl, es, fun l H1 hl s1 k1 => ?_⟩
    walk_at "go"
    have hp1 := s1 _ _ hp
    refine go_sfldV hp1 cl na_sizes (by show 0 < 1000; decide) ?_
    walk_at "go"
    have b1 : But p H (upd H1 p (.ins A.c_Program dx (putF "sizes" (.ref l) []))) := (Same.but s1).trans (But.refl _ _).upd
    have d1 : Dp K (upd H1 p (.ins A.c_Program dx (putF "sizes" (.ref l) []))) (.ref l) (ssD r) := dp_butI hp1 (But.refl _ _).upd _ _ (.tup k1.sq (dpAll_same s1 _ _ ds))
    have m1 := dp_butI hp b1 _ _ hm
    have q1 := dp_butI hp b1 _ _ hq
    have p1 : upd H1 p (.ins A.c_Program dx (putF "sizes" (.ref l) [])) p = some (.ins A.c_Program dx (putF "sizes" (.ref l) [])) := upd_same
    generalize upd H1 p (.ins A.c_Program dx (putF "sizes" (.ref l) [])) = H2 at *
    obtain ⟨ma, mx, rfl, em, dm⟩ := dp_lst m1
    refine ⟨ma, mx, rfl, em, fun l2 H3 hl2 s3 k3 => ?_⟩
    walk_at "go"
    have p3 := s3 _ _ p1
    refine go_sfldV p3 cl na_moves (by show 1 < 1000; decide) ?_
    walk_at "go"
    have b3 : But p H2 (upd H3 p (.ins A.c_Program dx (putF "moves" (.ref l2) (putF "sizes" (.ref l) [])))) := (Same.but s3).trans (But.refl _ _).upd
    have d2 := dp_butI p1 b3 _ _ d1
    have d3 : Dp K (upd H3 p (.ins A.c_Program dx (putF "moves" (.ref l2) (putF "sizes" (.ref l) [])))) (.ref l2) (msD r) := dp_butI p3 (But.refl _ _).upd _ _ (.tup k3.sq (dpAll_same s3 _ _ dm))
    have q3 := dp_butI p1 b3 _ _ q1
    have p4 : upd H3 p (.ins A.c_Program dx (putF "moves" (.ref l2) (putF "sizes" (.ref l) []))) p = some (.ins A.c_Program dx (putF "moves" (.ref l2) (putF "sizes" (.ref l) []))) := upd_same
    generalize upd H3 p (.ins A.c_Program dx (putF "moves" (.ref l2) (putF "sizes" (.ref l) []))) = H4 at *
    obtain ⟨qa, qx, rfl, eq, dq⟩ := dp_lst q3
    have b14 := b1.trans b3
    have lq : qx.length = r.rs.length := by rw [dpAll_len dq, List.length_map]
    refine lcLW qx eq fun D hD => ?_
    refine ⟨fun i H' => Same H4 H' ∧ ∃ ys : List V, H' D = some (.lst ys) ∧ ys.length = i ∧ DpAll K H' ys ((r.rs.take i).map cD), ⟨same_new hD, [], upd_same, rfl, .nil⟩, fun i H' h => same_sqL h.1 eq, ?_, ?_⟩
    · rintro i x H5 hx ⟨s5, ys, e5, hl5, h5⟩
      have hi : i < r.rs.length := by
        have := (List.getElem?_eq_some_iff.mp hx).1
        omega
      have er := List.getElem?_eq_getElem hi
      generalize r.rs[i] = c at er
      obtain ⟨v, ev, dv⟩ := dpAll_get (dpAll_same s5 _ _ dq) (i := i) (d := .list (c.map pD)) (by rw [List.getElem?_map, er]; rfl)
      rw [hx] at ev
      cases ev
      obtain ⟨ca, cx, rfl, ec, dc⟩ := dp_lst dv
      refine go_name ⟨rfl, ?_⟩
      refine go_yes ?_
      refine iteT ?_
      walk_at "go"
      refine ⟨ca, cx, rfl, ec, fun l6 H6 hl6 s6 k6 => ?_⟩
      refine ⟨ys, s6 _ _ e5, szlt (by omega), same_mut (s5.trans s6) hD, ys ++ [.ref l6], upd_same, by simp [hl5], ?_⟩
      rw [take_snoc er, List.map_append]
      exact dpAll_put (s6 _ _ e5) _ _ (noLAll_app (noL_map noL_c _) (by show (noL (cD c) && true) = true; rw [noL_c]; rfl)) (dpAll_snoc (dpAll_same s6 _ _ h5) (.tup k6.sq (dpAll_same s6 _ _ dc)))
    · rintro H5 ⟨s5, ys, e5, hl5, h5⟩
      rw [lq, List.take_length] at h5
      walk_at "go"
      refine ⟨D, ys, rfl, .of e5, fun l7 H7 hl7 s7 k7 => ?_⟩
      walk_at "go"
      have p7 := s7 _ _ (s5 _ _ p4)
      refine go_sfldV p7 cl na_rounds (by show 2 < 1000; decide) ?_
      rw [F_Program_made]
      have s47 := s5.trans s7
      have b7 : But p H7 (upd H7 p (.ins A.c_Program dx (F_Program (.ref l) (.ref l2) (.ref l7)))) := (But.refl _ _).upd
      refine fin _ ⟨dx, l, l2, l7, upd_same, ?_, ?_, ?_⟩ ((b14.trans (Same.but s47)).trans b7)
      · exact dp_butI p7 b7 _ _ (dp_same s47 _ _ d2)
      · exact dp_butI p7 b7 _ _ (dp_same s47 _ _ d3)
      · exact dp_butI p7 b7 _ _ (.tup k7.sq (dpAll_same s7 _ _ h5))
end
end K79

namespace K79
open PySem PySem.Spec PyProof.Rows L2 Gx
section
variable {P : Program} {w : World} {K : PySem.W.Frag} {mg : Str → Option Value} {base : Heap} {A : Ad}
def sp_Program___eq__ (K : PySem.W.Frag) (C : Addr) : Sp := fun vs H Q _ => ∃ (x y : Addr) (r : Prog), vs = [.ref x, .ref y] ∧ PgAt K C H x r ∧ PgAt K C H y r ∧ SeqAt.shaped (ssD r) = true ∧ SeqAt.shaped (msD r) = true ∧ SeqAt.shaped (rsD r) = true ∧ Q (.bl true) H
theorem G_Program___eq__ (T : Txt P K mg A) : FnOk P w K mg base CX0 1 A.f_Program___eq__ A.d_Program___eq__ ["self", "other"] (sp_Program___eq__ K A.c_Program) := by
  refine (T.F_Program___eq__.ok (k := 0) sc_Program___eq__ (fun vs H Q E h => ?_) (fun cdv Ar outer s H vs Q E hr h => ?_))
  · obtain ⟨x, y, r, rfl, _⟩ := h
    rfl
  · obtain ⟨x, y, r, rfl, hx, hy, z1, z2, z3, q⟩ := h
    obtain ⟨dx, s1, m1, r1, ox, a1, a2, a3⟩ := hx.ob
    obtain ⟨dy, s2, m2, r2, oy, b1, b2, b3⟩ := hy.ob
    have cl := T.cl_Program
    have na_sizes := T.na_Program_sizes
    have na_moves := T.na_Program_moves
    have na_rounds := T.na_Program_rounds

    refine ⟨_, (pss_one (ps_ret (pe_and (pe_callB (C8.call_isC T.ic_Program) (by rfl) T.n_isinstance (by decide +kernel) (pa_cons (pv 1) (pa_cons (pe_glob (v := .ref A.c_Program) rfl T.m_Program rfl) pa_nil))) (pe_and (pe_cmpR (op_eqD hr.units) (pe_fld (pv 0) rfl) (pe_fld (pv 1) rfl) (nomark _)) (pe_and (pe_cmpR (op_eqD hr.units) (pe_fld (pv 0) rfl) (pe_fld (pv 1) rfl) (nomark _)) (pe_one (pe_cmpR (op_eqD hr.units) (pe_fld (pv 0) rfl) (pe_fld (pv 1) rfl) (nomark _)))))))), ?_⟩
    try dsimp only [cxOf, Cx.nox, Cx.wish]
    walk_at "go"
    refine ⟨y, dy, _, rfl, oy, ?_⟩
    walk_at "go"
    refine go_eqD a1 b1 z1 ?_
    walk_at "go"
    refine go_eqD a2 b2 z2 ?_
    walk_at "go"
    exact go_eqD a3 b3 z3 q
end
end K79

namespace K79
open PySem PySem.Spec PyProof.Rows L2 Gx
section
variable {P : Program} {w : World} {K : PySem.W.Frag} {mg : Str → Option Value} {base : Heap} {A : Ad}
def sp_program_numbers (K : PySem.W.Frag) (C : Addr) : Sp := fun vs H Q _ => ∃ (x : Addr) (r : Prog), vs = [.ref x] ∧ PgAt K C H x r ∧ ProgOk r ∧ ∀ D H', H D = none → Same H H' → H' D = some (.lst ((numsOf r).map V.int)) → Q (.ref D) H'
theorem G_program_numbers (T : Txt P K mg A) : FnOk P w K mg base CX0 1 A.f_program_numbers A.d_program_numbers ["program"] (sp_program_numbers K A.c_Program) := by
  refine (T.F_program_numbers.ok (k := 0) sc_program_numbers (fun vs H Q E h => ?_) (fun cdv Ar outer s H vs Q E hr h => ?_))
  · obtain ⟨x, r, rfl, _⟩ := h
    rfl
  · obtain ⟨x, r, rfl, hx, hok, q⟩ := h
    have cl := T.cl_Program
    have na_sizes := T.na_Program_sizes
    have na_moves := T.na_Program_moves
    have na_rounds := T.na_Program_rounds

    obtain ⟨dx, s, m, rr, ox, hs, hm, hr2⟩ := hx.ob
    obtain ⟨_, sx, es, hs1, hs2⟩ := dp_tup hs
    cases es
    obtain ⟨_, mx, em, hm1, hm2⟩ := dp_tup hm
    cases em
    obtain ⟨_, rx, er, hr3, hr4⟩ := dp_tup hr2
    cases er
    have l1 : sx.length = r.ss.length := by rw [dpAll_len hs2, List.length_map]
    have l2 : mx.length = r.ms.length := by rw [dpAll_len hm2, List.length_map]
    have l3 : rx.length = r.rs.length := by rw [dpAll_len hr4, List.length_map]
    have b1 := hok.s1
    have b2 := hok.m1
    have b3 := hok.r1
    cases dpAll_ints hs2
    refine ⟨_, (pss_cons (ps_set (i := 1) sc_program_numbers.nd rfl (Or.inl rfl) (pe_lst (pa_cons (pe_callB k_len (by rfl) T.n_len (by decide +kernel) (pa_cons (pe_fld (pv 0) rfl) pa_nil)) (StX.pa_star (pe_fld (pv 0) rfl) (pa_cons (pe_callB k_len (by rfl) T.n_len (by decide +kernel) (pa_cons (pe_fld (pv 0) rfl) pa_nil)) pa_nil)))))
      (pss_cons (ps_for PassesOwn.never rfl (pi_tup (pe_fld (pv 0) rfl)) (pg_tup rfl (pgs_cons (pg_name (i := 2) sc_program_numbers.nd rfl (Or.inl rfl)) (pgs_cons (pg_name (i := 3) sc_program_numbers.nd rfl (Or.inl rfl)) pgs_nil)))
        (pss_one (ps_expr (pe_bm PySem.F.plainAttrs_list PySem.F.slot_list_extend PySem.F.type_list_extend mt_extend (pv 1) (pa_cons (pe_lst (pa_cons (pv 2) (pa_cons (pv 3) pa_nil))) pa_nil)))))
      (pss_cons (ps_expr (pe_bm PySem.F.plainAttrs_list PySem.F.slot_list_append PySem.F.type_list_append mt_append (pv 1) (pa_cons (pe_callB k_len (by rfl) T.n_len (by decide +kernel) (pa_cons (pe_fld (pv 0) rfl) pa_nil)) pa_nil)))
      (pss_cons (ps_for PassesOwn.never rfl (pi_tup (pe_fld (pv 0) rfl)) (pg_name (i := 4) sc_program_numbers.nd rfl (Or.inl rfl))
        (pss_cons (ps_expr (pe_bm PySem.F.plainAttrs_list PySem.F.slot_list_append PySem.F.type_list_append mt_append (pv 1) (pa_cons (pe_callB k_len (by rfl) T.n_len (by decide +kernel) (pa_cons (pv 4) pa_nil)) pa_nil)))
      (pss_one (ps_for PassesOwn.never rfl (pi_tup (pv 4)) (pg_tup rfl (pgs_cons (pg_name (i := 5) sc_program_numbers.nd rfl (Or.inl rfl)) (pgs_cons (pg_name (i := 6) sc_program_numbers.nd rfl (Or.inl rfl)) pgs_nil)))
        (pss_one (ps_expr (pe_bm PySem.F.plainAttrs_list PySem.F.slot_list_extend PySem.F.type_list_extend mt_extend (pv 1) (pa_cons (pe_lst (pa_cons (pe_tupM PySem.F.plainAttrs_tuple PySem.F.slot_tuple_index PySem.F.type_tuple_index m_tup_index (pe_glob (v := .ref A.k_NAMES) rfl T.m_NAMES rfl) (pa_cons (pv 5) pa_nil)) (pa_cons (pv 6) pa_nil))) pa_nil))))))))
      (pss_one (ps_ret (pv 1))))))), ?_⟩
    try dsimp only [cxOf, Cx.nox, Cx.wish]
    walk_at "go"
    refine go_lenT hs1 ?_
    walk_at "go"
    refine ⟨_, _, rfl, .inl hs1, ?_⟩
    walk_at "go"
    refine go_lenT hm1 ?_
    walk_at "go"
    rw [l1, l2]
    refine ⟨sz (by simp; omega), fun D hD => ?_⟩
    have ox1 := same_new (o := HO.lst (V.int (r.ss.length : Nat) :: (r.ss.map V.int ++ [V.int (r.ms.length : Nat)]))) hD _ _ ox
    walk_at "go"
    have hD1 : upd H D (.lst (V.int (r.ss.length : Nat) :: (r.ss.map V.int ++ [V.int (r.ms.length : Nat)]))) D = some (.lst (((nR r.ss.length 12 :: (r.ss.flatMap rowS ++ [nR r.ms.length 24])).map (·.1)).map V.int)) := by
      rw [upd_same, List.map_cons, List.map_append, flat_S]
      simp [nR]
    have s1 : Same H (upd H D (.lst (V.int (r.ss.length : Nat) :: (r.ss.map V.int ++ [V.int (r.ms.length : Nat)])))) := same_new hD
    have lB : ((nR r.ss.length 12 :: (r.ss.flatMap rowS ++ [nR r.ms.length 24])).map (·.1)).length ≤ 14 := by
      rw [List.length_map, List.length_cons, List.length_append, List.length_flatMap]
      have : (r.ss.map fun a => (rowS a).length).sum = 1 * r.ss.length := sum_const 1 r.ss (fun _ => rfl)
      rw [this]
      simp
      omega
    have eB : (nR r.ss.length 12 :: (r.ss.flatMap rowS ++ [nR r.ms.length 24])).map (·.1) ++ (r.ms.flatMap rowM).map (·.1) ++ [(r.rs.length : Int)] ++ (r.rs.flatMap rowC).map (·.1) = numsOf r := by
      unfold numsOf rowsOf
      simp [nR]
    generalize upd H D (.lst (V.int (r.ss.length : Nat) :: (r.ss.map V.int ++ [V.int (r.ms.length : Nat)]))) = H1 at *
    generalize (nR r.ss.length 12 :: (r.ss.flatMap rowS ++ [nR r.ms.length 24])).map (·.1) = B1 at *
    refine foT mx (fun i σ' H' => ∃ v1 v2 v3 v4 v5, σ' = [some (.ref x), some (.ref D), v1, v2, v3, v4, v5] ∧ H' D = some (.lst ((B1 ++ ((r.ms.take i).flatMap rowM).map (·.1)).map V.int)) ∧ Same H H') ⟨_, _, _, _, _, rfl, by simpa using hD1, s1⟩ (fun i σ' H' _ h => by obtain ⟨_, _, _, _, _, _, _, s⟩ := h; exact same_sqT s hm1) ?_ ?_
    · rintro i v σ' H2 hv ⟨v1, v2, v3, v4, v5, rfl, hD2, s2⟩
      have hi : i < r.ms.length := by
        have := (List.getElem?_eq_some_iff.mp hv).1
        omega
      have er := List.getElem?_eq_getElem hi
      generalize r.ms[i] = p at er
      obtain ⟨w, ew, dw⟩ := dpAll_get (dpAll_same s2 _ _ hm2) (i := i) (d := mD p) (by rw [List.getElem?_map, er]; rfl)
      rw [hv] at ew
      cases ew
      obtain ⟨pa, px, rfl, ep, dp⟩ := dp_tup dw
      obtain ⟨y1, y2, rfl, d1, d2⟩ := dp2 dp
      cases dpI d1
      cases dpI d2
      refine go_gtup ep rfl ?_
      walk_at "go"
      refine ⟨.inl ⟨rfl, _, .inl (.inl hD2)⟩, ?_⟩
      walk_at "go"
      refine ⟨by show 2 ≤ sizeLine; decide, fun t nt => ?_⟩
      walk_at "go"
      have e3 := same_new (o := .lst [.int p.1, .int p.2]) nt _ _ hD2
      have hlen : ((r.ms.take i).flatMap rowM).length ≤ 48 := by
        rw [List.length_flatMap, sum_const (f := fun a => (rowM a).length) 2 _ (fun _ => rfl)]
        have := List.length_take_le i r.ms
        omega
      refine go_extend e3 upd_same (by rw [List.length_map, List.length_append, List.length_map]; show _ + 2 ≤ _; omega) ?_
      walk_at "go"
      refine ⟨_, _, _, _, _, rfl, ?_, same_mut (s2.trans (same_new nt)) hD⟩
      rw [upd_same, take_snoc er, List.flatMap_append, List.map_append, List.map_append, List.map_append, List.map_append]
      simp [rowM]
    rintro σ' H2 ⟨v1, v2, v3, v4, v5, rfl, hD2, s2⟩
    rw [l2, List.take_length] at hD2
    have ox2 := s2 _ _ ox
    walk_at "go"
    refine ⟨.inl ⟨rfl, _, .inl (.inl hD2)⟩, ?_⟩
    walk_at "go"
    refine go_lenT (same_sqT s2 hr3) ?_
    rw [l3]
    walk_at "go"
    have hlen : (r.ms.flatMap rowM).length ≤ 48 := by
      rw [List.length_flatMap, sum_const (f := fun a => (rowM a).length) 2 _ (fun _ => rfl)]
      omega
    refine go_append hD2 (szlt (by rw [List.length_map, List.length_append, List.length_map]; omega)) ?_
    have ox3 : upd H2 D (.lst ((B1 ++ (r.ms.flatMap rowM).map (·.1)).map V.int ++ [V.int (r.rs.length : Nat)])) x = some (.ins A.c_Program dx (F_Program (.ref s) (.ref m) (.ref rr))) := same_mut s2 hD _ _ ox
    walk_at "go"
    have hD3 : upd H2 D (.lst ((B1 ++ (r.ms.flatMap rowM).map (·.1)).map V.int ++ [V.int (r.rs.length : Nat)])) D = some (.lst ((B1 ++ (r.ms.flatMap rowM).map (·.1) ++ [(r.rs.length : Int)]).map V.int)) := by
      rw [upd_same]
      simp
    have s3 : Same H (upd H2 D (.lst ((B1 ++ (r.ms.flatMap rowM).map (·.1)).map V.int ++ [V.int (r.rs.length : Nat)]))) := same_mut s2 hD
    have lB2 : (B1 ++ (r.ms.flatMap rowM).map (·.1) ++ [(r.rs.length : Int)]).length ≤ 100 := by
      rw [List.length_append, List.length_append, List.length_map]
      show _ + _ + 1 ≤ _
      omega
    generalize upd H2 D (.lst ((B1 ++ (r.ms.flatMap rowM).map (·.1)).map V.int ++ [V.int (r.rs.length : Nat)])) = H3 at *
    generalize B1 ++ (r.ms.flatMap rowM).map (·.1) ++ [(r.rs.length : Int)] = B2 at *
    have lenC : ∀ i, ((r.rs.take i).flatMap rowC).length ≤ 1000 := fun i => by
      rw [List.length_flatMap]
      refine Nat.le_trans (sum_le 21 _ fun c hc => ?_) ?_
      · have := (hok.r2 c (List.mem_of_mem_take hc)).1
        show (nR c.length 65535 :: c.flatMap rowP).length ≤ 21
        rw [List.length_cons, List.length_flatMap, sum_const (f := fun a => (rowP a).length) 2 _ (fun _ => rfl)]
        omega
      · have := List.length_take_le' i r.rs
        omega
    refine foT rx (fun i σ' H' => ∃ v1 v2 v3 v4 v5, σ' = [some (.ref x), some (.ref D), v1, v2, v3, v4, v5] ∧ H' D = some (.lst ((B2 ++ ((r.rs.take i).flatMap rowC).map (·.1)).map V.int)) ∧ Same H H') ⟨_, _, _, _, _, rfl, by simpa using hD3, s3⟩ (fun i σ' H' _ h => by obtain ⟨_, _, _, _, _, _, _, s⟩ := h; exact same_sqT s hr3) ?_ ?_
    · rintro i v σ' H4 hv ⟨v1, v2, v3, v4, v5, rfl, hD4, s4⟩
      have hi : i < r.rs.length := by
        have := (List.getElem?_eq_some_iff.mp hv).1
        omega
      have er := List.getElem?_eq_getElem hi
      have hc := hok.r2 _ (List.getElem_mem hi)
      have lC := lenC i
      generalize r.rs[i] = c at er hc
      obtain ⟨w, ew, dw⟩ := dpAll_get (dpAll_same s4 _ _ hr4) (i := i) (d := cD c) (by rw [List.getElem?_map, er]; rfl)
      rw [hv] at ew
      cases ew
      obtain ⟨ca, cx, rfl, ec, dc⟩ := dp_tup dw
      have lc : cx.length = c.length := by rw [dpAll_len dc, List.length_map]
      walk_at "go"
      refine ⟨.inl ⟨rfl, _, .inl (.inl hD4)⟩, ?_⟩
      walk_at "go"
      refine go_lenT ec ?_
      rw [lc]
      walk_at "go"
      refine go_append hD4 (szlt (by rw [List.length_map, List.length_append, List.length_map]; omega)) ?_
      walk_at "go"
      generalize hB : B2 ++ ((r.rs.take i).flatMap rowC).map (·.1) = B3 at hD4 ⊢
      have lB3 : B3.length ≤ 1100 := by
        rw [← hB, List.length_append, List.length_map]
        omega
      have hD5 : upd H4 D (.lst (B3.map V.int ++ [V.int (c.length : Nat)])) D = some (.lst ((B3 ++ [(c.length : Int)]).map V.int)) := by
        rw [upd_same]
        simp
      have ec5 := dp_put (zs := B3.map V.int ++ [V.int (c.length : Nat)]) hD4 (cD c) _ (noL_c c) (.tup ec dc)
      obtain ⟨_, cx', e', ec, dc⟩ := dp_tup ec5
      cases e'
      have lc : cx'.length = c.length := by rw [dpAll_len dc, List.length_map]
      have s5 : Same H (upd H4 D (.lst (B3.map V.int ++ [V.int (c.length : Nat)]))) := same_mut s4 hD
      generalize upd H4 D (.lst (B3.map V.int ++ [V.int (c.length : Nat)])) = H5 at *
      refine foT cx' (fun k σ' H' => ∃ v1 v2 v4 v5, σ' = [some (.ref x), some (.ref D), v1, v2, some (.ref ca), v4, v5] ∧ H' D = some (.lst ((B3 ++ [(c.length : Int)] ++ ((c.take k).flatMap rowP).map (·.1)).map V.int)) ∧ Same H H' ∧ SqT K H' ca cx' ∧ DpAll K H' cx' (c.map pD)) ⟨_, _, _, _, rfl, by simpa using hD5, s5, ec, dc⟩ (fun k σ' H' _ h => by obtain ⟨_, _, _, _, _, _, _, s, _⟩ := h; exact s) ?_ ?_
      · rintro k v σ' H6 hv6 ⟨w1, w2, w4, w5, rfl, hD6, s6, ec6, dc6⟩
        have hk : k < c.length := by
          have := (List.getElem?_eq_some_iff.mp hv6).1
          omega
        have ek := List.getElem?_eq_getElem hk
        have hp := hc.2 _ (List.getElem_mem hk)
        generalize c[k] = p at ek hp
        obtain ⟨w, ew, dw⟩ := dpAll_get dc6 (i := k) (d := pD p) (by rw [List.getElem?_map, ek]; rfl)
        rw [hv6] at ew
        cases ew
        obtain ⟨pa, px, rfl, ep, dp⟩ := dp_tup dw
        obtain ⟨y1, y2, rfl, d1, d2⟩ := dp2 dp
        cases dpS d1
        cases dpI d2
        refine go_gtup ep rfl ?_
        walk_at "go"
        refine ⟨.inl ⟨rfl, _, .inl (.inl hD6)⟩, ?_⟩
        walk_at "go"
        refine ⟨⟨_, rfl, .inr T.kl_NAMES⟩, ?_⟩
        walk_at "go"
        refine go_tidx (T.kt_NAMES _) hp.1 ?_
        walk_at "go"
        refine ⟨by show 2 ≤ sizeLine; decide, fun t nt => ?_⟩
        walk_at "go"
        have s67 := same_new (o := .lst [.int ((namesC.idxOf p.1 : Nat) : Int), .int p.2]) nt
        have e7 := s67 _ _ hD6
        have hlen : ((c.take k).flatMap rowP).length ≤ 20 := by
          rw [List.length_flatMap, sum_const (f := fun a => (rowP a).length) 2 _ (fun _ => rfl)]
          have := List.length_take_le k c
          omega
        refine go_extend e7 upd_same (by rw [List.length_map, List.length_append, List.length_map, List.length_append]; show _ + 1 + _ + 2 ≤ _; omega) ?_
        walk_at "go"
        have dT := dp_put (zs := (B3 ++ [(c.length : Int)] ++ ((c.take k).flatMap rowP).map (·.1)).map V.int ++ [.int ((namesC.idxOf p.1 : Nat) : Int), .int p.2]) e7 (cD c) _ (noL_c c) (dp_same s67 _ _ (.tup ec6 dc6))
        refine ⟨_, _, _, _, rfl, ?_, same_mut (s6.trans s67) hD, ?_, ?_⟩
        · rw [upd_same, take_snoc ek, List.flatMap_append]
          simp [rowP]
        · exact sqT_put e7 (same_sqT s67 ec6)
        · exact dpAll_put e7 _ _ (noL_map pg_noL c) (dpAll_same s67 _ _ dc6)
      · rintro σ' H6 ⟨w1, w2, w4, w5, rfl, hD6, s6, ec6, dc6⟩
        rw [lc, List.take_length] at hD6
        walk_at "go"
        refine ⟨_, _, _, _, _, rfl, ?_, s6⟩
        rw [hD6, ← hB, take_snoc er, List.flatMap_append]
        simp [rowC]
    rintro σ' H4 ⟨v1, v2, v3, v4, v5, rfl, hD4, s4⟩
    rw [l3, List.take_length, eB] at hD4
    walk_at "go"
    exact q D H4 hD s4 hD4
end
end K79

namespace K79
open PySem PySem.Spec PyProof.Rows L2 Gx
section
variable {P : Program} {w : World} {K : PySem.W.Frag} {mg : Str → Option Value} {base : Heap} {A : Ad}
def sp_Numbers___init__ (K : PySem.W.Frag) (C : Addr) : Sp := fun vs H Q _ => ∃ (p dx a : Addr) (ns : List Int), vs = [.ref p, .ref a] ∧ H p = some (.ins C dx []) ∧ SqL K H a (ns.map V.int) ∧ ∀ (H' : Hp) (l : Addr), H l = none → NmAt C H' p l ns 0 → But p H H' → Q .non H'
theorem G_Numbers___init__ (T : Txt P K mg A) : FnOk P w K mg base CX0 1 A.f_Numbers___init__ A.d_Numbers___init__ ["self", "numbers"] (sp_Numbers___init__ K A.c_Numbers) := by
  refine (T.F_Numbers___init__.ok (k := 0) sc_Numbers___init__ (fun vs H Q E h => ?_) (fun cdv Ar outer s H vs Q E hr h => ?_))
  · obtain ⟨p, dx, a, ns, rfl, _⟩ := h
    rfl
  · obtain ⟨p, dx, a, ns, rfl, hp, ha, q⟩ := h
    have cl := T.cl_Numbers
    have na_numbers := T.na_Numbers_numbers
    have na_at := T.na_Numbers_at

    refine ⟨_, (pss_cons (ps_fld (pv 0) (pe_callTy k_list_of (by rfl) T.n_list (by decide +kernel) (pa_cons (pv 1) pa_nil)) rfl)
      (pss_one (ps_fld (pv 0) pe_int rfl))), ?_⟩
    try dsimp only [cxOf, Cx.nox, Cx.wish]
    walk_at "go"
    refine go_listOfL ha fun l hl => ?_
    walk_at "go"
    have lp : l ≠ p := (ne_of_none hp hl).symm
    refine go_sfldV (by rw [upd_ne lp.symm]; exact hp) cl na_numbers (by show 0 < 1000; decide) ?_
    walk_at "go"
    refine go_sfldV upd_same cl na_at (by show 1 < 1000; decide) ?_
    rw [F_Numbers_made]
    refine q _ l hl ⟨⟨dx, upd_same⟩, ?_⟩ (fun c o n e => ?_)
    · show upd _ p _ l = _
      repeat rw [upd_ne lp]
      exact upd_same
    · repeat rw [upd_ne n]
      rw [upd_ne (ne_of_none e hl)]
      exact e
end
end K79

namespace K79
open PySem PySem.Spec PyProof.Rows L2 Gx
section
variable {P : Program} {w : World} {K : PySem.W.Frag} {mg : Str → Option Value} {base : Heap} {A : Ad}
def sp__law_pool (K : PySem.W.Frag) : Sp := fun vs H Q _ => ∃ (a : Addr) (ns : List Int) (b : Int), vs = [.ref a, .int b] ∧ SqL K H a (ns.map V.int) ∧ ns.length ≤ 100000 ∧ ∀ (p : Pl) H', p.ns = ns → H p.a = none → H p.l = none → Same H H' → Pool H' p b → Q (.ref p.a) H'
theorem G__law_pool (T : Txt P K mg A) : FnOk P w K mg base CX0 1 A.f__law_pool A.d__law_pool ["_law_script", "_law_budget"] (sp__law_pool K) := by
  refine (T.F__law_pool.ok (k := 0) sc__law_pool (fun vs H Q E h => ?_) (fun cdv Ar outer s H vs Q E hr h => ?_))
  · obtain ⟨a, ns, b, rfl, _⟩ := h
    rfl
  · obtain ⟨a, ns, b, rfl, hs, hl, q⟩ := h
    refine ⟨_, (pss_one (ps_ret (pe_lst (pa_cons (pe_callTy k_list_of (by rfl) T.n_list (by decide +kernel) (pa_cons (pv 0) pa_nil)) (pa_cons pe_int (pa_cons pe_int (pa_cons pe_int (pa_cons pe_int (pa_cons (pv 1) pa_nil))))))))), ?_⟩
    try dsimp only [cxOf, Cx.nox, Cx.wish]
    walk_at "go"
    refine go_listOfL hs fun l hl => ?_
    walk_at "go"
    refine ⟨by show 6 ≤ sizeLine; decide, fun p hp => ?_⟩
    have n : l ≠ p := fun e => by rw [e, upd_same] at hp; cases hp
    exact q ⟨p, l, ns⟩ _ rfl (by rw [upd_ne n.symm] at hp; exact hp) hl ((same_new hl).trans (same_new hp)) ⟨⟨0, 0, 1, 0, upd_same, by decide, by decide, by decide⟩, by show upd _ p _ l = _; rw [upd_ne n, upd_same], n⟩
end
end K79

namespace K79
open PySem PySem.Spec PyProof.Rows L2 Gx
section
variable {P : Program} {w : World} {K : PySem.W.Frag} {mg : Str → Option Value} {base : Heap} {A : Ad}
def sp__law_draw (K : PySem.W.Frag) : Sp := fun vs H Q _ => ∃ (p : Pl) (b k : Int), vs = [.ref p.a, .int k] ∧ Pool H p b ∧ 0 < k ∧ k < 1073741824 ∧ ∀ v H', 0 ≤ v → v < k → Turn p b H H' → Q (.int v) H'
theorem G__law_draw (T : Txt P K mg A) : FnOk P w K mg base CX0 1 A.f__law_draw A.d__law_draw ["_law_pool_here", "_law_size"] (sp__law_draw K) := by
  refine (T.F__law_draw.ok (k := 0) sc__law_draw (fun vs H Q E h => ?_) (fun cdv Ar outer s H vs Q E hr h => ?_))
  · obtain ⟨p, b, k, rfl, _⟩ := h
    rfl
  · obtain ⟨p, b, k, rfl, hp, hk0, hk1, q⟩ := h
    obtain ⟨p1, p2, p3, p4, e, h1, h3, h3'⟩ := id hp.ex
    have hn := hp.ne
    have eli := hp.li
    refine ⟨_, (Evl.pss_cut (ps_if (PW.pt (pw_and (pt_cmpR op_le (pe_ix ix_list (pv 0) pe_int (fun _ _ => rfl)) pe_int (nomark _)) (pw_and (pt_cmpR op_le (pe_ix ix_list (pv 0) pe_int (fun _ _ => rfl)) pe_int (nomark _)) (pw_and1 (pt_cmpR op_lt (pe_ix ix_list (pv 0) pe_int (fun _ _ => rfl)) (pe_callB k_len (by rfl) T.n_len (by decide +kernel) (pa_cons (pe_ix ix_list (pv 0) pe_int (fun _ _ => rfl)) pa_nil)) (nomark _))))))
        (pss_cons (ps_set (i := 2) sc__law_draw.nd rfl (Or.inl rfl) (pe_ix ix_list (pe_ix ix_list (pv 0) pe_int (fun _ _ => rfl)) (pe_ix ix_list (pv 0) pe_int (fun _ _ => rfl)) (fun _ _ => rfl)))
      (pss_cons (ps_asg (pe_op op_add (pe_ix ix_list (pv 0) pe_int (fun _ _ => rfl)) pe_int) (pg_sub (pv 0) pe_int set_list))
      (pss_cons (ps_asg (pe_op op_mod (pe_callTy k_int1 (by rfl) T.n_int (by decide +kernel) (pa_cons (pe_op op_add (pe_op op_mul (pe_ix ix_list (pv 0) pe_int (fun _ _ => rfl)) pe_int) (pv 2)) pa_nil)) pe_int) (pg_sub (pv 0) pe_int set_list))
      (pss_cons (ps_asg pe_int (pg_sub (pv 0) pe_int set_list))
      (pss_one (ps_if (pt_cmpR op_ge (pv 2) (pe_op op_pow pe_int pe_int) (nomark _))
        (pss_one (ps_asg (pv 2) (pg_sub (pv 0) pe_int set_list)))
        pss_nil))))))
        pss_nil)
      (pss_cons (ps_if (pt_cmpR op_gt (pe_ix ix_list (pv 0) pe_int (fun _ _ => rfl)) pe_int (nomark _))
        (pss_cons (ps_set (i := 3) sc__law_draw.nd rfl (Or.inl rfl) (pe_op op_mod (pe_callTy k_int1 (by rfl) T.n_int (by decide +kernel) (pa_cons (pe_ix ix_list (pv 0) pe_int (fun _ _ => rfl)) pa_nil)) (pv 1)))
      (pss_cons (ps_asg (pe_op op_fdiv (pe_ix ix_list (pv 0) pe_int (fun _ _ => rfl)) (pv 1)) (pg_sub (pv 0) pe_int set_list))
      (pss_cons (ps_asg pe_int (pg_sub (pv 0) pe_int set_list))
      (pss_one (ps_ret (pv 3))))))
        pss_nil)
      (pss_cons (ps_asg (pe_op op_sub (pe_ix ix_list (pv 0) pe_int (fun _ _ => rfl)) pe_int) (pg_sub (pv 0) pe_int set_list))
      (pss_cons (ps_asg (pe_op op_mod (pe_callTy k_int1 (by rfl) T.n_int (by decide +kernel) (pa_cons (pe_op op_add (pe_op op_mul (pe_ix ix_list (pv 0) pe_int (fun _ _ => rfl)) pe_int) pe_int) pa_nil)) pe_int) (pg_sub (pv 0) pe_int set_list))
      (pss_one (ps_ret (pe_op op_mod (pe_op op_mod (pe_callTy k_int1 (by rfl) T.n_int (by decide +kernel) (pa_cons (pe_op op_add (pe_op op_mul (pe_ix ix_list (pv 0) pe_int (fun _ _ => rfl)) pe_int) pe_int) pa_nil)) pe_int) (pv 1)))))))), ?_⟩
    try dsimp only [cxOf, Cx.nox, Cx.wish]
    walk_at "go"
    refine go_cut (fun σ' H' => ∃ (x : Option V) (p1 p2 p3 p4 : Int), σ' = [some (.ref p.a), some (.int k), x, none] ∧ H' p.a = some (.lst [.ref p.l, .int p1, .int p2, .int p3, .int p4, .int b]) ∧ But p.a H H' ∧ 0 ≤ p1 ∧ 0 ≤ p3 ∧ p3 < 2147483647) ?_ ?_
    · walk_at "go"
      have skip : ∃ (x : Option V) (p1 p2 p3 p4 : Int), L2.start ["_law_pool_here", "_law_size", "_law_cell", "_law_value"] [.ref p.a, .int k] = [some (.ref p.a), some (.int k), x, none] ∧ H p.a = some (.lst [.ref p.l, .int p1, .int p2, .int p3, .int p4, .int b]) ∧ But p.a H H ∧ 0 ≤ p1 ∧ 0 ≤ p3 ∧ p3 < 2147483647 :=
        ⟨none, p1, p2, p3, p4, rfl, e, .refl _ _, h1, h3, h3'⟩
      walk_at "br"
      · intro _
        walk_at "go"
        walk_at "br"
        · intro _
          walk_at "go"
          refine go_lenL (.of eli) ?_
          walk_at "go"
          rw [List.length_map]
          walk_at "br"
          · intro h
            walk_at "go"
            refine go_ixL (.of eli) (at_int h1 h) ?_
            walk_at "go"
            generalize p.ns.getD p1.toNat 0 = c
            have hm := Int.emod_nonneg (p3 * 31 + c) (b := 2147483647) (by decide)
            have hm' := Int.emod_lt_of_pos (p3 * 31 + c) (b := 2147483647) (by decide)
            walk_at "br"
            · intro _
              walk_at "go"
              exact ⟨_, _, _, _, _, rfl, upd_same, (But.refl _ _).upd, by omega, hm, hm'⟩
            · intro _
              walk_at "go"
              exact ⟨_, _, _, _, _, rfl, upd_same, (But.refl _ _).upd, by omega, hm, hm'⟩
          · intro _
            walk_at "go"
            exact skip
        · intro _
          walk_at "go"
          exact skip
      · intro _
        walk_at "go"
        exact skip
    rintro σ2 H2 ⟨x, p1, p2, p3, p4, rfl, e2, b2, h1, h3, h3'⟩
    walk_at "go"
    have fin : ∀ (r1 r2 r3 r4 : Int), 0 ≤ r1 → 0 ≤ r3 → r3 < 2147483647 → Turn p b H (upd H2 p.a (.lst [.ref p.l, .int r1, .int r2, .int r3, .int r4, .int b])) := fun r1 r2 r3 r4 k1 k3 k4 =>
      ⟨⟨⟨r1, r2, r3, r4, upd_same, k1, k3, k4⟩, b2.upd _ _ hn hp.li, hn⟩, b2.upd⟩
    walk_at "br"
    · intro _
      walk_at "go"
      refine q _ _ (Int.emod_nonneg _ (by omega)) (Int.emod_lt_of_pos _ hk0) (fin p1 (p2 / k) p3 0 h1 h3 h3')
    · intro _
      walk_at "go"
      refine q _ _ (Int.emod_nonneg _ (by omega)) (Int.emod_lt_of_pos _ hk0) (fin p1 p2 _ (p4 - 1) h1 (Int.emod_nonneg _ (by decide)) (Int.emod_lt_of_pos _ (by decide)))
end
end K79

namespace K79
open PySem PySem.Spec PyProof.Rows L2 Gx
section
variable {P : Program} {w : World} {K : PySem.W.Frag} {mg : Str → Option Value} {base : Heap} {A : Ad}
def sp__law_names_of_code (K : PySem.W.Frag) : Sp := fun vs H Q _ => vs = [] ∧ ∀ p H', Same H H' → H p = none → H' p = some (.lst (namesC.map V.str)) → Q (.ref p) H'
theorem G__law_names_of_code (T : Txt P K mg A) : FnOk P w K mg base CX0 1 A.f__law_names_of_code A.d__law_names_of_code [] (sp__law_names_of_code K) := by
  refine (T.F__law_names_of_code.ok (k := 0) sc__law_names_of_code (fun vs H Q E h => ?_) (fun cdv Ar outer s H vs Q E hr h => ?_))
  · obtain ⟨rfl, _⟩ := h
    rfl
  · obtain ⟨rfl, q⟩ := h
    refine ⟨_, (pss_cons (ps_set (i := 0) sc__law_names_of_code.nd rfl (Or.inl rfl) pe_str)
      (pss_one (ps_ret (e_split (pv 0) pe_str)))), ?_⟩
    try dsimp only [cxOf, Cx.nox, Cx.wish]
    walk_at "go"
    refine go_splitX (c := 32) (by decide +kernel) (by decide) fun p hp => q p _ (same_new hp) hp ?_
    rw [upd_same, names_split]
end
end K79

namespace K79
open PySem PySem.Spec PyProof.Rows L2 Gx
section
variable {P : Program} {w : World} {K : PySem.W.Frag} {mg : Str → Option Value} {base : Heap} {A : Ad}
def sp__law_few (K : PySem.W.Frag) : Sp := fun vs H Q _ => ∃ (p : Pl) (b m : Int), vs = [.ref p.a, .int m] ∧ Pool H p b ∧ 0 ≤ m ∧ m < 1000 ∧ ∀ v H', 0 ≤ v → v ≤ m → Turn p b H H' → Q (.int v) H'
theorem G__law_few (T : Txt P K mg A) : FnOk P w K mg base CX0 2 A.f__law_few A.d__law_few ["_law_pool_here", "_law_most"] (sp__law_few K) := by
  refine (T.F__law_few.ok (k := 1) sc__law_few (fun vs H Q E h => ?_) (fun cdv Ar outer s H vs Q E hr h => ?_))
  · obtain ⟨p, b, m, rfl, _⟩ := h
    rfl
  · obtain ⟨p, b, m, rfl, hp, hm0, hm1, q⟩ := h
    refine ⟨_, (pss_cons (ps_set (i := 2) sc__law_few.nd rfl (Or.inl rfl) (pe_call (G__law_draw T) (hr.mono (by decide)) rfl T.m__law_draw T.F__law_draw.kp T.b__law_draw .nil pass0 (pa_cons (pv 0) (pa_cons pe_int pa_nil))))
      (pss_cons (ps_if (pt_cmpR op_eq (pv 2) pe_int (nomark _))
        (pss_one (ps_ret (pe_call (G__law_draw T) (hr.mono (by decide)) rfl T.m__law_draw T.F__law_draw.kp T.b__law_draw .nil pass0 (pa_cons (pv 0) (pa_cons (pe_op op_add (pv 1) pe_int) pa_nil)))))
        pss_nil)
      (pss_one (ps_ret (pe_callB (k_min2 rfl) (by rfl) T.n_min (by decide +kernel) (pa_cons (pv 2) (pa_cons (pv 1) pa_nil))))))), ?_⟩
    try dsimp only [cxOf, Cx.nox, Cx.wish]
    walk_at "go"
    refine ⟨p, b, 4, rfl, hp, by decide, by decide, fun v H1 hv0 hv1 t1 => ?_⟩
    walk_at "go"
    walk_at "br"
    · intro _
      walk_at "go"
      exact ⟨p, b, m + 1, rfl, t1.pool, by omega, by omega, fun v H2 h0 h1 t2 => q _ _ h0 (by omega) (t1.trans t2)⟩
    · intro _
      walk_at "go"
      exact q _ _ (by split <;> omega) (by split <;> omega) t1
end
end K79

namespace K79
open PySem PySem.Spec PyProof.Rows L2 Gx
section
variable {P : Program} {w : World} {K : PySem.W.Frag} {mg : Str → Option Value} {base : Heap} {A : Ad}
def sp__law_number (K : PySem.W.Frag) : Sp := fun vs H Q _ => ∃ (p : Pl) (b : Int), vs = [.ref p.a] ∧ Pool H p b ∧ ∀ v H', 0 ≤ v → v < 65536 → Turn p b H H' → Q (.int v) H'
theorem G__law_number (T : Txt P K mg A) : FnOk P w K mg base CX0 2 A.f__law_number A.d__law_number ["_law_pool_here"] (sp__law_number K) := by
  refine (T.F__law_number.ok (k := 1) sc__law_number (fun vs H Q E h => ?_) (fun cdv Ar outer s H vs Q E hr h => ?_))
  · obtain ⟨p, b, rfl, _⟩ := h
    rfl
  · obtain ⟨p, b, rfl, hp, q⟩ := h
    refine ⟨_, (pss_cons (ps_if (pt_cmpR op_eq (pe_call (G__law_draw T) (hr.mono (by decide)) rfl T.m__law_draw T.F__law_draw.kp T.b__law_draw .nil pass0 (pa_cons (pv 0) (pa_cons pe_int pa_nil))) pe_int (nomark _))
        (pss_one (ps_ret (pe_call (G__law_draw T) (hr.mono (by decide)) rfl T.m__law_draw T.F__law_draw.kp T.b__law_draw .nil pass0 (pa_cons (pv 0) (pa_cons pe_int pa_nil)))))
        pss_nil)
      (pss_one (ps_ret (pe_call (G__law_draw T) (hr.mono (by decide)) rfl T.m__law_draw T.F__law_draw.kp T.b__law_draw .nil pass0 (pa_cons (pv 0) (pa_cons pe_int pa_nil)))))), ?_⟩
    try dsimp only [cxOf, Cx.nox, Cx.wish]
    walk_at "go"
    refine ⟨p, b, 3, rfl, hp, by decide, by decide, fun v H1 hv0 hv1 t1 => ?_⟩
    walk_at "go"
    walk_at "br"
    · intro _
      walk_at "go"
      exact ⟨p, b, 65536, rfl, t1.pool, by decide, by decide, fun v H2 h0 h1 t2 => q _ _ h0 h1 (t1.trans t2)⟩
    · intro _
      walk_at "go"
      exact ⟨p, b, 9, rfl, t1.pool, by decide, by decide, fun v H2 h0 h1 t2 => q _ _ h0 (by omega) (t1.trans t2)⟩
end
end K79

namespace K79
open PySem PySem.Spec PyProof.Rows L2 Gx
section
variable {P : Program} {w : World} {K : PySem.W.Frag} {mg : Str → Option Value} {base : Heap} {A : Ad}
def sp__law_numbers (K : PySem.W.Frag) : Sp := fun vs H Q _ => ∃ (v : V) (r : Prog), vs = [v] ∧ Dp K H v (.tuple [ssD r, msD r, rsD r]) ∧ ProgOk r ∧ ∀ D ys H', H D = none → Same H H' → H' D = some (.lst ys) → DpAll K H' ys ((rowsOf r).map rwD) → Q (.ref D) H'
theorem G__law_numbers (T : Txt P K mg A) : FnOk P w K mg base CX0 2 A.f__law_numbers A.d__law_numbers ["_law_row_here"] (sp__law_numbers K) := by
  refine (T.F__law_numbers.ok (k := 1) sc__law_numbers (fun vs H Q E h => ?_) (fun cdv Ar outer s H vs Q E hr h => ?_))
  · obtain ⟨v, r, rfl, _⟩ := h
    rfl
  · obtain ⟨v, r, rfl, hv, hok, q⟩ := h
    obtain ⟨va, vx, rfl, va1, va2⟩ := dp_tup hv
    obtain ⟨y1, y2, y3, rfl, hs, hm, hr2⟩ := dp3 va2
    obtain ⟨sa, sx, rfl, hs1, hs2⟩ := dp_tup hs
    obtain ⟨ma, mx, rfl, hm1, hm2⟩ := dp_tup hm
    obtain ⟨ra, rx, rfl, hr3, hr4⟩ := dp_tup hr2
    have l1 : sx.length = r.ss.length := by rw [dpAll_len hs2, List.length_map]
    have l2 : mx.length = r.ms.length := by rw [dpAll_len hm2, List.length_map]
    have l3 : rx.length = r.rs.length := by rw [dpAll_len hr4, List.length_map]
    have b1 := hok.s1
    have b2 := hok.m1
    have b3 := hok.r1
    cases dpAll_ints hs2
    have mk : ∀ {Hx : Hp} {l : Addr} (a b c : Int), Hx l = none → Dp K (upd Hx l (.tup [.int a, .int b, .int c])) (.ref l) (rwD (a, b, c)) := fun a b c n => .tup (.inl (.inl upd_same)) (.cons (.int _) (.cons (.int _) (.cons (.int _) .nil)))
    refine ⟨_, (pss_cons (ps_set (i := 1) sc__law_numbers.nd rfl (Or.inl rfl) (pe_op op_cat (pe_op op_cat (pe_lst (pa_cons (pe_tup (pa_cons (pe_callB k_len (by rfl) T.n_len (by decide +kernel) (pa_cons (pe_ix ix_tup (pv 0) pe_int (fun _ _ => rfl)) pa_nil)) (pa_cons pe_int (pa_cons pe_int pa_nil)))) pa_nil)) (pe_lc (own := [("_law_size", 5)]) (g := gName 5) (tt := tYes) rfl sc__law_numbers.nd (pi_tup (pe_ix ix_tup (pv 0) pe_int (fun _ _ => rfl))) (blkOk_by (N := ["_law_row_here", "_law_numbers_here", "_law_move", "_law_code", "_law_pair", "_law_size"]) (sc := defScope s__law_numbers) (by decide +kernel)) (fun _ _ _ _ _ => (pg_name (i := 5) sc__law_numbers.nd rfl (Or.inl rfl))) (fun _ _ _ _ _ => by exact pts_nil) (fun _ _ _ _ _ => by exact (pe_tup (pa_cons (pv 5) (pa_cons pe_int (pa_cons pe_int pa_nil))))))) (pe_lst (pa_cons (pe_tup (pa_cons (pe_callB k_len (by rfl) T.n_len (by decide +kernel) (pa_cons (pe_ix ix_tup (pv 0) pe_int (fun _ _ => rfl)) pa_nil)) (pa_cons pe_int (pa_cons pe_int pa_nil)))) pa_nil))))
      (pss_cons (ps_for PassesOwn.never rfl (pi_tup (pe_ix ix_tup (pv 0) pe_int (fun _ _ => rfl))) (pg_name (i := 2) sc__law_numbers.nd rfl (Or.inl rfl))
        (pss_one (ps_set (i := 1) sc__law_numbers.nd rfl (Or.inl rfl) (pe_op op_cat (pv 1) (pe_lst (pa_cons (pe_tup (pa_cons (pe_ix ix_tup (pv 2) pe_int (fun _ _ => rfl)) (pa_cons pe_int (pa_cons pe_int pa_nil)))) (pa_cons (pe_tup (pa_cons (pe_ix ix_tup (pv 2) pe_int (fun _ _ => rfl)) (pa_cons pe_int (pa_cons pe_int pa_nil)))) pa_nil)))))))
      (pss_cons (ps_expr (pe_bm PySem.F.plainAttrs_list PySem.F.slot_list_append PySem.F.type_list_append mt_append (pv 1) (pa_cons (pe_tup (pa_cons (pe_callB k_len (by rfl) T.n_len (by decide +kernel) (pa_cons (pe_ix ix_tup (pv 0) pe_int (fun _ _ => rfl)) pa_nil)) (pa_cons pe_int (pa_cons pe_int pa_nil)))) pa_nil)))
      (pss_cons (ps_for PassesOwn.never rfl (pi_tup (pe_ix ix_tup (pv 0) pe_int (fun _ _ => rfl))) (pg_name (i := 3) sc__law_numbers.nd rfl (Or.inl rfl))
        (pss_cons (ps_expr (pe_bm PySem.F.plainAttrs_list PySem.F.slot_list_append PySem.F.type_list_append mt_append (pv 1) (pa_cons (pe_tup (pa_cons (pe_callB k_len (by rfl) T.n_len (by decide +kernel) (pa_cons (pv 3) pa_nil)) (pa_cons pe_int (pa_cons pe_int pa_nil)))) pa_nil)))
      (pss_one (ps_for PassesOwn.never rfl (pi_tup (pv 3)) (pg_name (i := 4) sc__law_numbers.nd rfl (Or.inl rfl))
        (pss_one (ps_set (i := 1) sc__law_numbers.nd rfl (Or.inl rfl) (pe_op op_cat (pv 1) (pe_lst (pa_cons (pe_tup (pa_cons (pe_bm PySem.F.plainAttrs_list PySem.F.slot_list_index PySem.F.type_list_index mt_index (pe_call0 (G__law_names_of_code T) (hr.mono (by decide)) rfl T.m__law_names_of_code T.F__law_names_of_code.kp T.b__law_names_of_code .nil pass0) (pa_cons (pe_ix ix_tup (pv 4) pe_int (fun _ _ => rfl)) pa_nil)) (pa_cons pe_int (pa_cons pe_int pa_nil)))) (pa_cons (pe_tup (pa_cons (pe_ix ix_tup (pv 4) pe_int (fun _ _ => rfl)) (pa_cons pe_int (pa_cons pe_int pa_nil)))) pa_nil))))))))))
      (pss_one (ps_ret (pv 1))))))), ?_⟩
    try dsimp only [cxOf, Cx.nox, Cx.wish]
    walk_at "go"
    refine go_lenT hs1 ?_
    rw [l1]
    walk_at "go"
    refine ⟨by show 3 ≤ sizeLine; decide, fun t1 n1 => ?_⟩
    walk_at "go"
    have d1 := mk r.ss.length 0 12 n1
    have s1 := same_new (o := HO.tup [.int (r.ss.length : Nat), .int 0, .int 12]) n1
    generalize upd H t1 (.tup [.int (r.ss.length : Nat), .int 0, .int 12]) = H1 at *
    refine ⟨by show 1 ≤ sizeLine; decide, fun L1 nL1 => ?_⟩
    walk_at "go"
    have e1 : upd H1 L1 (.lst [.ref t1]) L1 = some (.lst [.ref t1]) := upd_same
    have s2 := s1.trans (same_new (o := HO.lst [.ref t1]) nL1)
    have d2 := dp_same (same_new (o := HO.lst [.ref t1]) nL1) _ _ d1
    generalize upd H1 L1 (.lst [.ref t1]) = H2 at *
    refine go_ixT (same_sqT s2 va1) at_0 ?_
    walk_at "go"
    refine lcTW _ (same_sqT s2 hs1) fun D hD => ?_
    have nLD : L1 ≠ D := ne_of_none e1 hD
    refine ⟨fun i H' => ∃ ys : List V, H' D = some (.lst ys) ∧ ys.length = i ∧ DpAll K H' ys (((r.ss.take i).flatMap rowS).map rwD) ∧ Same H2 H', ⟨[], upd_same, rfl, .nil, same_new hD⟩, fun i H' h => by obtain ⟨_, _, _, _, s⟩ := h; exact same_sqT (s2.trans s) hs1, ?_, ?_⟩
    · rintro i x H' hx ⟨ys, eD, hy, dy, s⟩
      have hi : i < r.ss.length := by
        have := (List.getElem?_eq_some_iff.mp hx).1
        omega
      have er := List.getElem?_eq_getElem hi
      generalize r.ss[i] = z at er
      obtain rfl : x = .int z := by rw [List.getElem?_map, er] at hx; cases hx; rfl
      refine go_name ⟨rfl, ?_⟩
      refine go_yes ?_
      refine iteT ?_
      walk_at "go"
      refine ⟨by show 3 ≤ sizeLine; decide, fun l nl => ?_⟩
      have sl := same_new (o := HO.tup [.int z, .int 1, .int 65535]) nl
      refine ⟨ys, sl _ _ eD, szlt (by omega), ys ++ [.ref l], upd_same, by simp [hy], ?_, same_mut (s.trans sl) hD⟩
      rw [take_snoc er, List.flatMap_append, List.map_append]
      exact dpAll_put (sl _ _ eD) _ _ (noLAll_app (noL_map noL_rw _) rfl) (dpAll_snoc (dpAll_same sl _ _ dy) (d := rwD (z, 1, 65535)) (mk _ _ _ nl))
    rintro H3 ⟨ys, eD, hy, dy, s3⟩
    rw [List.length_map] at hy dy
    rw [List.take_length] at dy
    have e13 := s3 _ _ e1
    walk_at "go"
    refine go_cat e13 eD (sz (by show 1 + ys.length ≤ _; omega)) fun L2 nL2 => ?_
    walk_at "go"
    have dL2 : DpAll K (upd H3 L2 (.lst ([.ref t1] ++ ys))) ([.ref t1] ++ ys) ((nR r.ss.length 12 :: r.ss.flatMap rowS).map rwD) := dpAll_same (same_new nL2) _ _ (.cons (dp_same s3 _ _ d2) dy)
    have eL2 : upd H3 L2 (.lst ([.ref t1] ++ ys)) L2 = some (.lst ([.ref t1] ++ ys)) := upd_same
    have lL2 : ([.ref t1] ++ ys : List V).length ≤ 13 := by show (V.ref t1 :: ys).length ≤ 13; rw [List.length_cons]; omega
    have s4 := (s2.trans s3).trans (same_new (o := HO.lst ([.ref t1] ++ ys)) nL2)
    generalize upd H3 L2 (.lst ([.ref t1] ++ ys)) = H4 at *
    generalize ([.ref t1] ++ ys : List V) = ys2 at *
    refine go_ixT (same_sqT s4 va1) at_1 ?_
    walk_at "go"
    refine go_lenT (same_sqT s4 hm1) ?_
    rw [l2]
    walk_at "go"
    refine ⟨by show 3 ≤ sizeLine; decide, fun t2 n2 => ?_⟩
    walk_at "go"
    have d5 := mk r.ms.length 0 24 n2
    have s5 := same_new (o := HO.tup [.int (r.ms.length : Nat), .int 0, .int 24]) n2
    generalize upd H4 t2 (.tup [.int (r.ms.length : Nat), .int 0, .int 24]) = H5 at *
    refine ⟨by show 1 ≤ sizeLine; decide, fun L3 nL3 => ?_⟩
    walk_at "go"
    have s6 := same_new (o := HO.lst [.ref t2]) nL3
    refine go_cat (s6 _ _ (s5 _ _ eL2)) upd_same (sz (by show _ + 1 ≤ _; omega)) fun L4 nL4 => ?_
    walk_at "go"
    have s7 := same_new (o := HO.lst (ys2 ++ [.ref t2])) nL4
    have dL4 : DpAll K (upd (upd H5 L3 (.lst [.ref t2])) L4 (.lst (ys2 ++ [.ref t2]))) (ys2 ++ [.ref t2]) ((nR r.ss.length 12 :: (r.ss.flatMap rowS ++ [nR r.ms.length 24])).map rwD) := by
      rw [show nR r.ss.length 12 :: (r.ss.flatMap rowS ++ [nR r.ms.length 24]) = (nR r.ss.length 12 :: r.ss.flatMap rowS) ++ [nR r.ms.length 24] from rfl, List.map_append]
      exact dpAll_snoc (dpAll_same ((s5.trans s6).trans s7) _ _ dL2) (dp_same (s6.trans s7) _ _ d5)
    have eL4 : upd (upd H5 L3 (.lst [.ref t2])) L4 (.lst (ys2 ++ [.ref t2])) L4 = some (.lst (ys2 ++ [.ref t2])) := upd_same
    have lL4 : (ys2 ++ [V.ref t2]).length ≤ 14 := by rw [List.length_append]; show _ + 1 ≤ _; omega
    have s8 := (s4.trans s5).trans (s6.trans s7)
    generalize upd (upd H5 L3 (.lst [.ref t2])) L4 (.lst (ys2 ++ [.ref t2])) = H8 at *
    generalize ys2 ++ [.ref t2] = ys3 at *
    have eB : (nR r.ss.length 12 :: (r.ss.flatMap rowS ++ [nR r.ms.length 24])) ++ r.ms.flatMap rowM ++ [nR r.rs.length 8] ++ r.rs.flatMap rowC = rowsOf r := by
      unfold rowsOf
      simp
    have lB : (nR r.ss.length 12 :: (r.ss.flatMap rowS ++ [nR r.ms.length 24])).length ≤ 14 := by
      have := dpAll_len dL4
      rw [List.length_map] at this
      omega
    generalize nR r.ss.length 12 :: (r.ss.flatMap rowS ++ [nR r.ms.length 24]) = B1 at *
    refine go_ixT (same_sqT s8 va1) at_1 ?_
    walk_at "go"
    refine foT mx (fun i σ' H' => ∃ (l : Addr) (ys : List V) (v1 v2 v3 v4 : Option V), σ' = [some (.ref va), some (.ref l), v1, v2, v3, v4] ∧ H l = none ∧ H' l = some (.lst ys) ∧ DpAll K H' ys ((B1 ++ (r.ms.take i).flatMap rowM).map rwD) ∧ Same H H') ⟨L4, ys3, _, _, _, _, rfl, ?_, eL4, by simpa using dL4, s8⟩ (fun i σ' H' _ h => by obtain ⟨_, _, _, _, _, _, _, _, _, _, s⟩ := h; exact same_sqT s hm1) ?_ ?_
    · cases z : H L4 with
      | none => rfl
      | some o => rw [((s4.trans s5).trans s6) _ _ z] at nL4; cases nL4
    · rintro i v σ' H9 hv ⟨l, ys, v1, v2, v3, v4, rfl, nl, el, dl, s9⟩
      have hi : i < r.ms.length := by
        have := (List.getElem?_eq_some_iff.mp hv).1
        omega
      have er := List.getElem?_eq_getElem hi
      generalize r.ms[i] = p at er
      obtain ⟨w, ew, dw⟩ := dpAll_get (dpAll_same s9 _ _ hm2) (i := i) (d := mD p) (by rw [List.getElem?_map, er]; rfl)
      rw [hv] at ew
      cases ew
      obtain ⟨pa, px, rfl, ep, dp⟩ := dp_tup dw
      obtain ⟨z1, z2, rfl, dz1, dz2⟩ := dp2 dp
      cases dpI dz1
      cases dpI dz2
      have hlen : ((r.ms.take i).flatMap rowM).length ≤ 48 := by
        rw [List.length_flatMap, sum_const (f := fun a => (rowM a).length) 2 _ (fun _ => rfl)]
        have := List.length_take_le i r.ms
        omega
      have hly : ys.length ≤ 62 := by rw [dpAll_len dl, List.length_map, List.length_append]; omega
      walk_at "go"
      refine ⟨by show 3 ≤ sizeLine; decide, fun a1 m1 => ?_⟩
      have k1 := mk p.1 1 2 m1
      have u1 := same_new (o := HO.tup [.int p.1, .int 1, .int 2]) m1
      generalize upd H9 a1 (.tup [.int p.1, .int 1, .int 2]) = Ha at *
      walk_at "go"
      refine go_ixT (same_sqT u1 ep) at_1 ?_
      walk_at "go"
      refine ⟨by show 3 ≤ sizeLine; decide, fun a2 m2 => ?_⟩
      have k2 := mk p.2 1 8 m2
      have u2 := same_new (o := HO.tup [.int p.2, .int 1, .int 8]) m2
      generalize upd Ha a2 (.tup [.int p.2, .int 1, .int 8]) = Hb at *
      walk_at "go"
      refine ⟨by show 2 ≤ sizeLine; decide, fun a3 m3 => ?_⟩
      walk_at "go"
      have u3 := same_new (o := HO.lst [.ref a1, .ref a2]) m3
      refine go_cat (u3 _ _ (u2 _ _ (u1 _ _ el))) upd_same (sz (by show _ + 2 ≤ _; omega)) fun a4 m4 => ?_
      walk_at "go"
      have u4 := same_new (o := HO.lst (ys ++ [.ref a1, .ref a2])) m4
      refine ⟨a4, ys ++ [.ref a1, .ref a2], _, _, _, _, rfl, ?_, upd_same, ?_, s9.trans ((u1.trans u2).trans (u3.trans u4))⟩
      · cases z : H a4 with
        | none => rfl
        | some o => rw [(s9.trans ((u1.trans u2).trans u3)) _ _ z] at m4; cases m4
      · rw [take_snoc er, List.flatMap_append, ← List.append_assoc, List.map_append]
        refine dpAll_append (dpAll_same ((u1.trans u2).trans (u3.trans u4)) _ _ dl) ?_
        show DpAll K _ [.ref a1, .ref a2] [rwD (p.1, 1, 2), rwD (p.2, 1, 8)]
        exact .cons (dp_same (u2.trans (u3.trans u4)) _ _ k1) (.cons (dp_same (u3.trans u4) _ _ k2) .nil)
    rintro σ' H9 ⟨l, ys, v1, v2, v3, v4, rfl, nl, el, dl, s9⟩
    rw [l2, List.take_length] at dl
    have hlen : (r.ms.flatMap rowM).length ≤ 48 := by
      rw [List.length_flatMap, sum_const (f := fun a => (rowM a).length) 2 _ (fun _ => rfl)]
      omega
    have hly : ys.length ≤ 62 := by rw [dpAll_len dl, List.length_map, List.length_append]; omega
    walk_at "go"
    refine ⟨.inl ⟨rfl, _, .inl (.inl el)⟩, ?_⟩
    walk_at "go"
    refine go_ixT (same_sqT s9 va1) at_2 ?_
    walk_at "go"
    refine go_lenT (same_sqT s9 hr3) ?_
    rw [l3]
    walk_at "go"
    refine ⟨by show 3 ≤ sizeLine; decide, fun a1 m1 => ?_⟩
    walk_at "go"
    have k1 := mk r.rs.length 0 8 m1
    have u1 := same_new (o := HO.tup [.int (r.rs.length : Nat), .int 0, .int 8]) m1
    refine go_append (u1 _ _ el) (szlt (by omega)) ?_
    walk_at "go"
    have dB := dpAll_put (zs := ys ++ [.ref a1]) (u1 _ _ el) _ _ (noL_map noL_rw (B1 ++ r.ms.flatMap rowM ++ [nR r.rs.length 8])) (by rw [List.map_append]; exact dpAll_snoc (dpAll_same u1 _ _ dl) k1)
    have s10 : Same H (upd (upd H9 a1 (.tup [.int (r.rs.length : Nat), .int 0, .int 8])) l (.lst (ys ++ [.ref a1]))) := same_mut (s9.trans u1) nl
    have el10 : upd (upd H9 a1 (.tup [.int (r.rs.length : Nat), .int 0, .int 8])) l (.lst (ys ++ [.ref a1])) l = some (.lst (ys ++ [.ref a1])) := upd_same
    generalize upd (upd H9 a1 (.tup [.int (r.rs.length : Nat), .int 0, .int 8])) l (.lst (ys ++ [.ref a1])) = H10 at *
    have lB2 : (B1 ++ r.ms.flatMap rowM ++ [nR r.rs.length 8]).length ≤ 63 := by
      rw [List.length_append, List.length_append]
      show _ + _ + 1 ≤ _
      omega
    generalize B1 ++ r.ms.flatMap rowM ++ [nR r.rs.length 8] = B2 at *
    generalize ys ++ [.ref a1] = zs at *
    have lenC : ∀ i, ((r.rs.take i).flatMap rowC).length ≤ 1000 := fun i => by
      rw [List.length_flatMap]
      refine Nat.le_trans (sum_le 21 _ fun c hc => ?_) ?_
      · have := (hok.r2 c (List.mem_of_mem_take hc)).1
        show (nR c.length 65535 :: c.flatMap rowP).length ≤ 21
        rw [List.length_cons, List.length_flatMap, sum_const (f := fun a => (rowP a).length) 2 _ (fun _ => rfl)]
        omega
      · have := List.length_take_le' i r.rs
        omega
    refine go_ixT (same_sqT s10 va1) at_2 ?_
    walk_at "go"
    refine foT rx (fun i σ' H' => ∃ (l : Addr) (ys : List V) (v1 v2 v3 v4 : Option V), σ' = [some (.ref va), some (.ref l), v1, v2, v3, v4] ∧ H l = none ∧ H' l = some (.lst ys) ∧ DpAll K H' ys ((B2 ++ (r.rs.take i).flatMap rowC).map rwD) ∧ Same H H') ⟨l, zs, _, _, _, _, rfl, nl, el10, by simpa using dB, s10⟩ (fun i σ' H' _ h => by obtain ⟨_, _, _, _, _, _, _, _, _, _, s⟩ := h; exact same_sqT s hr3) ?_ ?_
    · rintro i v σ' H11 hv ⟨l, ys, v1, v2, v3, v4, rfl, nl, el, dl, s11⟩
      have hi : i < r.rs.length := by
        have := (List.getElem?_eq_some_iff.mp hv).1
        omega
      have er := List.getElem?_eq_getElem hi
      have hc := hok.r2 _ (List.getElem_mem hi)
      have lC := lenC i
      generalize r.rs[i] = c at er hc
      obtain ⟨w, ew, dw⟩ := dpAll_get (dpAll_same s11 _ _ hr4) (i := i) (d := cD c) (by rw [List.getElem?_map, er]; rfl)
      rw [hv] at ew
      cases ew
      obtain ⟨ca, cx, rfl, ec, dc⟩ := dp_tup dw
      have lc : cx.length = c.length := by rw [dpAll_len dc, List.length_map]
      have hly : ys.length ≤ 1063 := by rw [dpAll_len dl, List.length_map, List.length_append]; omega
      walk_at "go"
      refine ⟨.inl ⟨rfl, _, .inl (.inl el)⟩, ?_⟩
      walk_at "go"
      refine go_lenT ec ?_
      rw [lc]
      walk_at "go"
      refine ⟨by show 3 ≤ sizeLine; decide, fun a1 m1 => ?_⟩
      walk_at "go"
      have k1 := mk c.length 0 65535 m1
      have u1 := same_new (o := HO.tup [.int (c.length : Nat), .int 0, .int 65535]) m1
      refine go_append (u1 _ _ el) (szlt (by omega)) ?_
      walk_at "go"
      have dB := dpAll_put (zs := ys ++ [.ref a1]) (u1 _ _ el) _ _ (noL_map noL_rw (B2 ++ (r.rs.take i).flatMap rowC ++ [nR c.length 65535])) (by rw [List.map_append]; exact dpAll_snoc (dpAll_same u1 _ _ dl) k1)
      have s12 : Same H (upd (upd H11 a1 (.tup [.int (c.length : Nat), .int 0, .int 65535])) l (.lst (ys ++ [.ref a1]))) := same_mut (s11.trans u1) nl
      have el12 : upd (upd H11 a1 (.tup [.int (c.length : Nat), .int 0, .int 65535])) l (.lst (ys ++ [.ref a1])) l = some (.lst (ys ++ [.ref a1])) := upd_same
      have cT := dp_put (zs := ys ++ [.ref a1]) (u1 _ _ el) (cD c) _ (noL_c c) (dp_same u1 _ _ (.tup ec dc))
      generalize upd (upd H11 a1 (.tup [.int (c.length : Nat), .int 0, .int 65535])) l (.lst (ys ++ [.ref a1])) = H12 at *
      obtain ⟨_, cx', e', ec, dc⟩ := dp_tup cT
      cases e'
      have lc : cx'.length = c.length := by rw [dpAll_len dc, List.length_map]
      have hB : ∀ k, B2 ++ (r.rs.take i).flatMap rowC ++ [nR c.length 65535] ++ (c.take k).flatMap rowP = B2 ++ ((r.rs.take i).flatMap rowC ++ (nR c.length 65535 :: (c.take k).flatMap rowP)) := fun k => by simp
      have lB3 : (B2 ++ (r.rs.take i).flatMap rowC ++ [nR c.length 65535]).length ≤ 1064 := by
        rw [List.length_append, List.length_append]
        show _ + _ + 1 ≤ _
        omega
      generalize hB3 : B2 ++ (r.rs.take i).flatMap rowC ++ [nR c.length 65535] = B3 at *
      refine foT cx' (fun k σ' H' => ∃ (l : Addr) (ys : List V) (v1 v3 v4 : Option V), σ' = [some (.ref va), some (.ref l), v1, some (.ref ca), v3, v4] ∧ H l = none ∧ H' l = some (.lst ys) ∧ DpAll K H' ys ((B3 ++ (c.take k).flatMap rowP).map rwD) ∧ Same H H' ∧ Same H12 H') ⟨l, ys ++ [.ref a1], _, _, _, rfl, nl, el12, by simpa using dB, s12, Same.refl _⟩ (fun k σ' H' _ h => by obtain ⟨_, _, _, _, _, _, _, _, _, _, s⟩ := h; exact same_sqT s ec) ?_ ?_
      · rintro k v σ' H13 hv6 ⟨l, ys, v1, v3, v4, rfl, nl, el, dl, s13, s123⟩
        have hk : k < c.length := by
          have := (List.getElem?_eq_some_iff.mp hv6).1
          omega
        have ek := List.getElem?_eq_getElem hk
        have hp := hc.2 _ (List.getElem_mem hk)
        generalize c[k] = p at ek hp
        obtain ⟨w, ew, dw⟩ := dpAll_get (dpAll_same s123 _ _ dc) (i := k) (d := pD p) (by rw [List.getElem?_map, ek]; rfl)
        rw [hv6] at ew
        cases ew
        obtain ⟨pa, px, rfl, ep, dp⟩ := dp_tup dw
        obtain ⟨z1, z2, rfl, dz1, dz2⟩ := dp2 dp
        cases dpS dz1
        cases dpI dz2
        have hlen : ((c.take k).flatMap rowP).length ≤ 20 := by
          rw [List.length_flatMap, sum_const (f := fun a => (rowP a).length) 2 _ (fun _ => rfl)]
          have := List.length_take_le k c
          omega
        have hly : ys.length ≤ 1084 := by rw [dpAll_len dl, List.length_map, List.length_append]; omega
        walk_at "go"
        refine ⟨rfl, fun pk Hk sk nk ek2 => ?_⟩
        walk_at "go"
        refine ⟨.inl ⟨rfl, _, .inl (.inl ek2)⟩, ?_⟩
        walk_at "go"
        refine go_ixT (same_sqT sk ep) at_0 ?_
        walk_at "go"
        refine go_lindexS (.of ek2) hp.1 ?_
        walk_at "go"
        refine ⟨by show 3 ≤ sizeLine; decide, fun a1 m1 => ?_⟩
        have k1 := mk (namesC.idxOf p.1 : Nat) 0 15 m1
        have u1 := sk.trans (same_new (o := HO.tup [.int ((namesC.idxOf p.1 : Nat) : Int), .int 0, .int 15]) m1)
        generalize upd Hk a1 (.tup [.int ((namesC.idxOf p.1 : Nat) : Int), .int 0, .int 15]) = Ha at *
        walk_at "go"
        refine go_ixT (same_sqT u1 ep) at_1 ?_
        walk_at "go"
        refine ⟨by show 3 ≤ sizeLine; decide, fun a2 m2 => ?_⟩
        have k2 := mk p.2 0 65535 m2
        have u2 := same_new (o := HO.tup [.int p.2, .int 0, .int 65535]) m2
        generalize upd Ha a2 (.tup [.int p.2, .int 0, .int 65535]) = Hb at *
        walk_at "go"
        refine ⟨by show 2 ≤ sizeLine; decide, fun a3 m3 => ?_⟩
        walk_at "go"
        have u3 := same_new (o := HO.lst [.ref a1, .ref a2]) m3
        refine go_cat (u3 _ _ (u2 _ _ (u1 _ _ el))) upd_same (sz (by show _ + 2 ≤ _; omega)) fun a4 m4 => ?_
        walk_at "go"
        have u4 := same_new (o := HO.lst (ys ++ [.ref a1, .ref a2])) m4
        have uu := (u1.trans u2).trans (u3.trans u4)
        refine ⟨a4, ys ++ [.ref a1, .ref a2], _, _, _, rfl, ?_, upd_same, ?_, s13.trans uu, s123.trans uu⟩
        · cases z : H a4 with
          | none => rfl
          | some o => rw [(s13.trans ((u1.trans u2).trans u3)) _ _ z] at m4; cases m4
        · rw [take_snoc ek, List.flatMap_append, ← List.append_assoc, List.map_append]
          refine dpAll_append (dpAll_same uu _ _ dl) ?_
          show DpAll K _ [.ref a1, .ref a2] [rwD ((namesC.idxOf p.1 : Nat), 0, 15), rwD (p.2, 0, 65535)]
          exact .cons (dp_same (u2.trans (u3.trans u4)) _ _ k1) (.cons (dp_same (u3.trans u4) _ _ k2) .nil)
      · rintro σ' H13 ⟨l, ys, v1, v3, v4, rfl, nl, el, dl, s13, s123⟩
        rw [lc, List.take_length] at dl
        walk_at "go"
        refine ⟨l, ys, _, _, _, _, rfl, nl, el, ?_, s13⟩
        rw [take_snoc er, List.flatMap_append]
        rw [← hB3] at dl
        have e : B2 ++ (r.rs.take i).flatMap rowC ++ [nR c.length 65535] ++ c.flatMap rowP = B2 ++ ((r.rs.take i).flatMap rowC ++ [c].flatMap rowC) := by
          simp [rowC, nR]
        rw [← e]
        exact dl
    rintro σ' H11 ⟨l, ys, v1, v2, v3, v4, rfl, nl, el, dl, s11⟩
    rw [l3, List.take_length, eB] at dl
    walk_at "go"
    exact q l ys H11 nl s11 el dl
end
end K79

namespace K79
open PySem PySem.Spec PyProof.Rows L2 Gx
section
variable {P : Program} {w : World} {K : PySem.W.Frag} {mg : Str → Option Value} {base : Heap} {A : Ad}
def sp__law_row (K : PySem.W.Frag) : Sp := fun vs H Q _ => ∃ (p : Pl) (b : Int), vs = [.ref p.a] ∧ Pool H p b ∧ ∀ (v : V) (r : Prog) H', ProgOk r → Turn p b H H' → Dp K H' v (.tuple [ssD r, msD r, rsD r]) → Q v H'
theorem G__law_row (T : Txt P K mg A) : FnOk P w K mg base CX0 3 A.f__law_row A.d__law_row ["_law_pool_here"] (sp__law_row K) := by
  refine (T.F__law_row.ok (k := 2) sc__law_row (fun vs H Q E h => ?_) (fun cdv Ar outer s H vs Q E hr h => ?_))
  · obtain ⟨p, b, rfl, _⟩ := h
    rfl
  · obtain ⟨p, b, rfl, hp, q⟩ := h
    refine ⟨_, (pss_cons (ps_setLc (i := 1) (own := [("_law_k", 4)]) (g := gName 4) (tt := tYes) rfl sc__law_row.nd rfl rfl (sw_true rfl rfl rfl (by decide +kernel)) (pi_range1 rfl T.n_range (pa_cons (pe_call (G__law_few T) (hr.mono (by decide)) rfl T.m__law_few T.F__law_few.kp T.b__law_few .nil pass0 (pa_cons (pv 0) (pa_cons pe_int pa_nil))) pa_nil)) (blkOk_by (N := ["_law_pool_here", "_law_sizes", "_law_moves", "_law_rounds", "_law_k", "_law_names", "_law_code", "_law_at"]) (sc := defScope s__law_row) (by decide +kernel)) (fun _ _ _ _ _ => (pg_name (i := 4) sc__law_row.nd rfl (Or.inl rfl))) (fun _ _ _ _ _ => by exact pts_nil) (fun _ _ _ _ _ => by exact (pe_op op_add pe_int (pe_call (G__law_draw T) (hr.mono (by decide)) rfl T.m__law_draw T.F__law_draw.kp T.b__law_draw .nil pass0 (pa_cons (pv 0) (pa_cons pe_int pa_nil))))))
      (pss_cons (ps_setLc (i := 2) (own := [("_law_k", 4)]) (g := gName 4) (tt := tYes) rfl sc__law_row.nd rfl rfl (sw_true rfl rfl rfl (by decide +kernel)) (pi_range1 rfl T.n_range (pa_cons (pe_call (G__law_few T) (hr.mono (by decide)) rfl T.m__law_few T.F__law_few.kp T.b__law_few .nil pass0 (pa_cons (pv 0) (pa_cons pe_int pa_nil))) pa_nil)) (blkOk_by (N := ["_law_pool_here", "_law_sizes", "_law_moves", "_law_rounds", "_law_k", "_law_names", "_law_code", "_law_at"]) (sc := defScope s__law_row) (by decide +kernel)) (fun _ _ _ _ _ => (pg_name (i := 4) sc__law_row.nd rfl (Or.inl rfl))) (fun _ _ _ _ _ => by exact pts_nil) (fun _ _ _ _ _ => by exact (pe_tup (pa_cons (pe_op op_add pe_int (pe_call (G__law_draw T) (hr.mono (by decide)) rfl T.m__law_draw T.F__law_draw.kp T.b__law_draw .nil pass0 (pa_cons (pv 0) (pa_cons pe_int pa_nil)))) (pa_cons (pe_op op_add pe_int (pe_call (G__law_draw T) (hr.mono (by decide)) rfl T.m__law_draw T.F__law_draw.kp T.b__law_draw .nil pass0 (pa_cons (pv 0) (pa_cons pe_int pa_nil)))) pa_nil)))))
      (pss_cons (ps_set (i := 3) sc__law_row.nd rfl (Or.inl rfl) (pe_lst pa_nil))
      (pss_cons (ps_for PassesOwn.never rfl (pi_range1 rfl T.n_range (pa_cons (pe_call (G__law_few T) (hr.mono (by decide)) rfl T.m__law_few T.F__law_few.kp T.b__law_few .nil pass0 (pa_cons (pv 0) (pa_cons pe_int pa_nil))) pa_nil)) (pg_name (i := 4) sc__law_row.nd rfl (Or.inl rfl))
        (pss_cons (ps_set (i := 5) sc__law_row.nd rfl (Or.inr rfl) (pe_call0 (G__law_names_of_code T) (hr.mono (by decide)) rfl T.m__law_names_of_code T.F__law_names_of_code.kp T.b__law_names_of_code .nil pass0))
      (pss_cons (ps_setLc (i := 6) (own := [("_law_at", 7)]) (g := gName 7) (tt := tYes) rfl sc__law_row.nd rfl rfl (sw_true rfl rfl rfl (by decide +kernel)) (pi_range1 rfl T.n_range (pa_cons (pe_call (G__law_few T) (hr.mono (by decide)) rfl T.m__law_few T.F__law_few.kp T.b__law_few .nil pass0 (pa_cons (pv 0) (pa_cons pe_int pa_nil))) pa_nil)) (blkOk_by (N := ["_law_pool_here", "_law_sizes", "_law_moves", "_law_rounds", "_law_k", "_law_names", "_law_code", "_law_at"]) (sc := defScope s__law_row) (by decide +kernel)) (fun _ _ _ _ _ => (pg_name (i := 7) sc__law_row.nd rfl (Or.inl rfl))) (fun _ _ _ _ _ => by exact pts_nil) (fun _ _ _ _ _ => by exact (pe_tup (pa_cons (pe_ix (ix_listK (K := K) rfl) (pv 5) (pe_call (G__law_draw T) (hr.mono (by decide)) rfl T.m__law_draw T.F__law_draw.kp T.b__law_draw .nil pass0 (pa_cons (pv 0) (pa_cons pe_int pa_nil))) (fun _ _ => rfl)) (pa_cons (pe_callB (k_min2 rfl) (by rfl) T.n_min (by decide +kernel) (pa_cons pe_int (pa_cons (pe_call (G__law_number T) (hr.mono (by decide)) rfl T.m__law_number T.F__law_number.kp T.b__law_number .nil pass0 (pa_cons (pv 0) pa_nil)) pa_nil))) pa_nil)))))
      (pss_one (ps_expr (pe_bm PySem.F.plainAttrs_list PySem.F.slot_list_append PySem.F.type_list_append mt_append (pv 3) (pa_cons (pe_callTy k_tupF (by rfl) T.n_tuple (by decide +kernel) (pa_cons (pv 6) pa_nil)) pa_nil)))))))
      (pss_one (ps_ret (pe_tup (pa_cons (pe_callTy k_tupF (by rfl) T.n_tuple (by decide +kernel) (pa_cons (pv 1) pa_nil)) (pa_cons (pe_callTy k_tupF (by rfl) T.n_tuple (by decide +kernel) (pa_cons (pv 2) pa_nil)) (pa_cons (pe_callTy k_tupF (by rfl) T.n_tuple (by decide +kernel) (pa_cons (pv 3) pa_nil)) pa_nil)))))))))), ?_⟩
    try dsimp only [cxOf, Cx.nox, Cx.wish]
    walk_at "go"
    refine ⟨p, b, 12, rfl, hp, by decide, by decide, fun n H1 n0 n1 t1 => ?_⟩
    walk_at "go"
    refine lcPD (K := K) (fun _ d => ∃ s : Int, d = .int s ∧ 1 ≤ s ∧ s ≤ 65535) t1.pool (by omega) (by omega) (fun _ => rfl) ?_ ?_
    · intro i H' hi t R hR
      walk_at "go"
      refine ⟨p, b, 65535, rfl, t.pool, by decide, by decide, fun v H3 v0 v1 t3 => ?_⟩
      walk_at "go"
      exact hR _ _ _ t3 ⟨1 + v, rfl, by omega, by omega⟩ rfl (.int _)
    intro D ys ds H2 hD t2 eD hlen dD hG nD
    obtain ⟨ss, rfl, hss⟩ := map_of (f := PyData.int) (P := fun s => 1 ≤ s ∧ s ≤ 65535) hG
    rw [List.length_map] at hlen
    have t12 := t1.trans t2
    walk_at "go"
    refine ⟨p, b, 24, rfl, t2.pool, by decide, by decide, fun m H3 m0 m1 t3 => ?_⟩
    walk_at "go"
    refine lcPD (K := K) (fun _ d => ∃ s : Int × Int, d = mD s ∧ (1 ≤ s.1 ∧ s.1 ≤ 2) ∧ 1 ≤ s.2 ∧ s.2 ≤ 8) t3.pool (by omega) (by omega) (fun _ => rfl) ?_ ?_
    · intro i H' hi t R hR
      walk_at "go"
      refine ⟨p, b, 2, rfl, t.pool, by decide, by decide, fun v H4 v0 v1 t4 => ?_⟩
      walk_at "go"
      refine ⟨p, b, 8, rfl, t4.pool, by decide, by decide, fun w H5 w0 w1 t5 => ?_⟩
      walk_at "go"
      refine ⟨by show 2 ≤ sizeLine; decide, fun l nl => ?_⟩
      exact hR _ _ _ ((t4.trans t5).new nl) ⟨(1 + v, 1 + w), rfl, ⟨by show 1 ≤ 1 + v; omega, by show 1 + v ≤ 2; omega⟩, by show 1 ≤ 1 + w; omega, by show 1 + w ≤ 8; omega⟩ rfl (.tup (.inl (.inl upd_same)) (.cons (.int _) (.cons (.int _) .nil)))
    intro M ys2 ds2 H4 hM t4 eM hlen2 dM hG2 nM
    obtain ⟨ms, rfl, hms⟩ := map_of (f := mD) (P := fun s => (1 ≤ s.1 ∧ s.1 ≤ 2) ∧ 1 ≤ s.2 ∧ s.2 ≤ 8) hG2
    rw [List.length_map] at hlen2
    have t34 := t3.trans t4
    have nDp := t1.pool.nea hD
    have nMp := t3.pool.nea hM
    have eD4 := t34.but _ _ nDp eD
    have dD4 := dpAll_but (l := p.a) t2.pool.there.choose_spec t34.but _ _ nD dD
    walk_at "go"
    refine ⟨by show 0 ≤ sizeLine; decide, fun G nG => ?_⟩
    walk_at "go"
    have nGp := t4.pool.nea nG
    have tG : Turn p b H (upd H4 G (.lst [])) := (t12.trans t34).new nG
    have nGo : H G = none := by
      cases z : H G with
      | none => rfl
      | some o => rw [(t12.trans t34).but G o nGp z] at nG; cases nG
    have eG : upd H4 G (.lst []) G = some (.lst []) := upd_same
    have eD5 := same_new (o := HO.lst []) nG _ _ eD4
    have eM5 := same_new (o := HO.lst []) nG _ _ eM
    have dD5 := dpAll_same (same_new (o := HO.lst []) nG) _ _ dD4
    have dM5 := dpAll_same (same_new (o := HO.lst []) nG) _ _ dM
    have GD : D ≠ G := ne_of_none eD4 nG
    have GM : M ≠ G := ne_of_none eM nG
    generalize upd H4 G (.lst []) = H5 at *
    refine ⟨p, b, 8, rfl, tG.pool, by decide, by decide, fun rr H6 r0 r1 t6 => ?_⟩
    walk_at "go"
    refine foR1 (fun i σ' H' => ∃ (rs : List Code) (zs : List V) (v1 v2 v3 v4 : Option V), σ' = [some (.ref p.a), some (.ref D), some (.ref M), some (.ref G), v1, v2, v3, v4] ∧ rs.length = i ∧ H' G = some (.lst zs) ∧ DpAll K H' zs (rs.map cD) ∧ (∀ c ∈ rs, c.length ≤ 10 ∧ ∀ p ∈ c, PairOk p) ∧ Turn p b H H' ∧ H' D = some (.lst ys) ∧ DpAll K H' ys (ss.map PyData.int) ∧ H' M = some (.lst ys2) ∧ DpAll K H' ys2 (ms.map mD)) (by omega)
      ⟨[], [], _, _, _, _, rfl, rfl, t6.but _ _ nGp eG, .nil, (fun c h => nomatch h), tG.trans t6, t6.but _ _ nDp eD5, dpAll_but (l := p.a) tG.pool.there.choose_spec t6.but _ _ nD dD5, t6.but _ _ nMp eM5, dpAll_but (l := p.a) tG.pool.there.choose_spec t6.but _ _ nM dM5⟩ ?_ ?_
    · rintro i σ' H7 hi ⟨rs, zs, v1, v2, v3, v4, rfl, hrs, eG7, dG7, hall, t7, eD7, dD7, eM7, dM7⟩
      walk_at "go"
      refine ⟨rfl, fun pk H8 s8 n8 e8 => ?_⟩
      walk_at "go"
      have t8 := t7.same s8
      refine ⟨p, b, 10, rfl, t8.pool, by decide, by decide, fun k H9 k0 k1 t9 => ?_⟩
      walk_at "go"
      have e9 := t9.but _ _ (t7.pool.nea n8) e8
      refine lcPD (K := K) (fun _ d => ∃ s : Str × Int, d = pD s ∧ PairOk s) t9.pool (by omega) (by omega) (fun _ => rfl) ?_ ?_
      · intro j H' hj t R hR
        walk_at "go"
        refine ⟨p, b, 16, rfl, t.pool, by decide, by decide, fun a Ha a0 a1 ta => ?_⟩
        have ea := ta.but _ _ (t7.pool.nea n8) (t.but _ _ (t7.pool.nea n8) e9)
        walk_at "go"
        refine go_ixL (.of ea) (names_at a0 (by omega)) ?_
        walk_at "go"
        refine ⟨p, b, rfl, ta.pool, fun c Hc c0 c1 tc => ?_⟩
        walk_at "go"
        have ec : (if c < 65535 then c else 65535) = c := by split <;> omega
        rw [ec]
        refine ⟨by show 2 ≤ sizeLine; decide, fun l nl => ?_⟩
        exact hR _ _ _ ((ta.trans tc).new nl) ⟨(namesC.getD a.toNat "", c), rfl, names_mem a0 (by omega), c0, by show c ≤ 65535; omega⟩ rfl (.tup (.inl (.inl upd_same)) (.cons (.str _) (.cons (.int _) .nil)))
      intro C yc dc Hc hC tc eC hlc dC hGc nC
      obtain ⟨c, rfl, hc⟩ := map_of (f := pD) (P := PairOk) hGc
      rw [List.length_map] at hlc
      have tt := t9.trans tc
      have eGc := tt.but _ _ nGp (s8 _ _ eG7)
      walk_at "go"
      refine ⟨.inl ⟨rfl, _, .inl (.inl eGc)⟩, ?_⟩
      walk_at "go"
      refine ⟨C, yc, rfl, .of eC, fun l Hl nl sl kl => ?_⟩
      walk_at "go"
      have eGl := sl _ _ eGc
      refine go_append eGl (szlt (by rw [dpAll_len dG7, List.length_map]; omega)) ?_
      walk_at "go"
      have mv : ∀ {vs : List V} {ds : List PyData} {zz : List V}, noLAll ds = true → DpAll K H7 vs ds → DpAll K (upd Hl G (.lst zz)) vs ds := fun n h => dpAll_put eGl _ _ n (dpAll_same sl _ _ (dpAll_but (l := p.a) t8.pool.there.choose_spec tt.but _ _ n (dpAll_same s8 _ _ h)))
      refine ⟨rs ++ [c], zs ++ [.ref l], _, _, _, _, rfl, by simp [hrs], upd_same, ?_, fun c' hc' => ?_, Turn.mut hp nGo ((t8.trans tt).same sl), ?_, mv nD dD7, ?_, mv nM dM7⟩
      · rw [List.map_append]
        exact dpAll_snoc (mv (noL_map noL_c rs) dG7) (dp_put eGl (cD c) _ (noL_c c) (.tup kl.sq (dpAll_same sl _ _ dC)))
      · rcases List.mem_append.mp hc' with z | z
        · exact hall c' z
        · rw [List.mem_singleton.mp z]
          exact ⟨by omega, hc⟩
      · rw [upd_ne GD]
        exact sl _ _ (tt.but _ _ nDp (s8 _ _ eD7))
      · rw [upd_ne GM]
        exact sl _ _ (tt.but _ _ nMp (s8 _ _ eM7))
    rintro σ' H7 ⟨rs, zs, v1, v2, v3, v4, rfl, hrs, eG7, dG7, hall, t7, eD7, dD7, eM7, dM7⟩
    walk_at "go"
    refine ⟨D, ys, rfl, .of eD7, fun l1 H8 n8 s8 k8 => ?_⟩
    walk_at "go"
    refine ⟨M, ys2, rfl, .of (s8 _ _ eM7), fun l2 H9 n9 s9 k9 => ?_⟩
    walk_at "go"
    refine ⟨G, zs, rfl, .of (s9 _ _ (s8 _ _ eG7)), fun l3 H10 n10 s10 k10 => ?_⟩
    walk_at "go"
    refine ⟨by show 3 ≤ sizeLine; decide, fun a na => ?_⟩
    have sa := same_new (o := HO.tup [.ref l1, .ref l2, .ref l3]) na
    have r1 : SqT K (upd H10 a (.tup [.ref l1, .ref l2, .ref l3])) a [.ref l1, .ref l2, .ref l3] := .inl (.inl upd_same)
    refine q (.ref a) ⟨ss, ms, rs⟩ _ ⟨by show ss.length ≤ 12; omega, hss, by show ms.length ≤ 24; omega, hms, by show rs.length ≤ 8; omega, hall⟩ (t7.same (((s8.trans s9).trans s10).trans sa)) (.tup r1 (.cons (.tup (xs := ys) ?_ ?_) (.cons (.tup (xs := ys2) ?_ ?_) (.cons (.tup (xs := zs) ?_ ?_) .nil))))
    · exact same_sqT ((s9.trans s10).trans sa) k8.sq
    · exact dpAll_same (((s8.trans s9).trans s10).trans sa) _ _ dD7
    · exact same_sqT (s10.trans sa) k9.sq
    · exact dpAll_same (((s8.trans s9).trans s10).trans sa) _ _ dM7
    · exact same_sqT sa k10.sq
    · exact dpAll_same (((s8.trans s9).trans s10).trans sa) _ _ dG7
end
end K79

namespace K79
open PySem PySem.Spec PyProof.Rows L2 Gx
section
variable {P : Program} {w : World} {K : PySem.W.Frag} {mg : Str → Option Value} {base : Heap} {A : Ad}
def sp_Numbers_take (K : PySem.W.Frag) (C B : Addr) : Sp := fun vs H Q E => ∃ (r l : Addr) (ns : List Int) (i : Nat) (lo hi : Int), vs = [.ref r, .int lo, .int hi] ∧ NmAt C H r l ns i ∧ ns.length ≤ 100000 ∧ (∀ v H', ns[i]? = some v → lo ≤ v → v ≤ hi → But r H H' → NmAt C H' r l ns (i + 1) → Q (.int v) H') ∧ ((∀ v, ns[i]? = some v → ¬ (lo ≤ v ∧ v ≤ hi)) → ∀ d, H d = none → E (.ref B) (some d) (upd H d (.xd [("at", .int (i : Nat))])))
theorem G_Numbers_take (T : Txt P K mg A) : FnOk P w K mg base (L2.CX P w) 4 A.f_Numbers_take A.d_Numbers_take ["self", "least", "most"] (sp_Numbers_take K A.c_Numbers A.c_BadCode) := by
  refine (T.F_Numbers_take.okX (k := 3) sc_Numbers_take (fun vs H Q E h => ?_) (fun cdv Ar outer s H vs Q E hr h => ?_))
  · obtain ⟨r, l, ns, i, lo, hi, rfl, _⟩ := h
    rfl
  · obtain ⟨r, l, ns, i, lo, hi, rfl, hm, hz, q1, q2⟩ := h
    obtain ⟨⟨dx, ho⟩, hli⟩ := id hm
    have cl := T.cl_Numbers
    have na_numbers := T.na_Numbers_numbers
    have na_at := T.na_Numbers_at

    refine ⟨_, (pss_cons (ps_if (PW.pt (pw_or (pt_cmpR op_ge (pe_fld (pv 0) rfl) (pe_callB k_len (by rfl) T.n_len (by decide +kernel) (pa_cons (pe_fld (pv 0) rfl) pa_nil)) (nomark _)) (pw_or1 (pt_not (pt_chain op_le op_le (pv 1) (pe_ix ix_list (pe_fld (pv 0) rfl) (pe_fld (pv 0) rfl) (fun _ _ => rfl)) (pv 2))))))
        (pss_one (ps_raiseErr rfl T.er_BadCode hr T.m_BadCode (takes_of rfl rfl rfl rfl) (pa_cons (pe_fld (pv 0) rfl) pa_nil)))
        pss_nil)
      (pss_cons (ps_fldaug (pv 0) pe_int in_add)
      (pss_one (ps_ret (pe_ix ix_list (pe_fld (pv 0) rfl) (pe_op op_sub (pe_fld (pv 0) rfl) pe_int) (fun _ _ => rfl)))))), ?_⟩
    try dsimp only [cxOf, Cx.nox, Cx.wish]
    walk_at "go"
    refine go_lenL (.of hli) ?_
    rw [List.length_map]
    walk_at "go"
    walk_at "br"
    · intro h
      walk_at "go"
      refine ⟨_, rfl, fun d hd => q2 (fun v hv => ?_) d hd⟩
      rw [List.getElem?_eq_none (by omega)] at hv
      cases hv
    · intro h
      have hi2 : i < ns.length := by omega
      have e := List.getElem?_eq_getElem hi2
      generalize ns[i] = v at e
      have ev : atI (ns.map V.int) (i : Nat) = some (.int v) := at_nat (by rw [List.getElem?_map, e]; rfl)
      walk_at "go"
      refine go_ixL (.of hli) ev ?_
      walk_at "go"
      walk_at "br"
      · intro h1
        walk_at "go"
        walk_at "br"
        · intro h2
          walk_at "go"
          exact ⟨_, rfl, fun d hd => q2 (fun w hw => by rw [e] at hw; cases hw; exact fun z => h2 z.2) d hd⟩
        · intro h2
          walk_at "go"
          refine go_faI ho cl na_at F_Numbers_at (by show 2 < 1000; decide) ?_
          walk_at "go"
          have lr : l ≠ r := fun z => by rw [z, ho] at hli; cases hli
          rw [F_Numbers_put_at]
          have hm2 : NmAt A.c_Numbers (upd H r (.ins A.c_Numbers dx (F_Numbers (.ref l) (.int ((i : Int) + 1))))) r l ns (i + 1) := ⟨⟨dx, upd_same⟩, by rw [upd_ne lr]; exact hli⟩
          have ho2 := upd_same (H := H) (a := r) (o := HO.ins A.c_Numbers dx (F_Numbers (.ref l) (.int ((i : Int) + 1))))
          refine go_F_Numbers_numbers ho2 cl na_numbers ?_
          walk_at "go"
          refine go_ixL (.of hm2.li) (k := (i : Int) + 1 - 1) (by rw [show (i : Int) + 1 - 1 = (i : Nat) by omega]; exact ev) ?_
          walk_at "go"
          exact q1 v _ e h1 h2 (fun c o n e => by rw [upd_ne n]; exact e) hm2
      · intro h1
        walk_at "go"
        exact ⟨_, rfl, fun d hd => q2 (fun w hw => by rw [e] at hw; cases hw; exact fun z => h1 z.1) d hd⟩
end
end K79

namespace K79
open PySem PySem.Spec PyProof.Rows L2 Gx
section
variable {P : Program} {w : World} {K : PySem.W.Frag} {mg : Str → Option Value} {base : Heap} {A : Ad}
def sp_Numbers_take_code (K : PySem.W.Frag) (C B : Addr) : Sp := fun vs H Q E => ∃ (r l : Addr) (ns : List Int) (i : Nat), vs = [.ref r] ∧ NmAt C H r l ns i ∧ ns.length ≤ 100000 ∧ (∀ c j D ys H', rdCode.run ns i = .ok (c, j) → But r H H' → NmAt C H' r l ns j → H D = none → H' D = some (.lst ys) → DpAll K H' ys (c.map pD) → Q (.ref D) H') ∧ (∀ e d H', rdCode.run ns i = .error e → H d = none → But r H H' → H' d = some (.xd [("at", .int (e : Nat))]) → E (.ref B) (some d) H')
theorem G_Numbers_take_code (T : Txt P K mg A) : FnOk P w K mg base (L2.CX P w) 5 A.f_Numbers_take_code A.d_Numbers_take_code ["self"] (sp_Numbers_take_code K A.c_Numbers A.c_BadCode) := by
  refine (T.F_Numbers_take_code.okX (k := 4) sc_Numbers_take_code (fun vs H Q E h => ?_) (fun cdv Ar outer s H vs Q E hr h => ?_))
  · obtain ⟨r, l, ns, i, rfl, _⟩ := h
    rfl
  · obtain ⟨r, l, ns, i, rfl, hm, hz, q1, q2⟩ := h
    obtain ⟨⟨dx0, ho0⟩, hli0⟩ := id hm
    have cl := T.cl_Numbers
    refine ⟨_, (pss_cons (ps_set (i := 1) sc_Numbers_take_code.nd rfl (Or.inl rfl) (pe_lst pa_nil))
      (pss_cons (ps_for (passes_of rfl) rfl (pi_range1 rfl T.n_range (pa_cons (pe_methSD (pv 0) T.cl_Numbers T.me_Numbers_take (G_Numbers_take T) (hr.mono (by decide)) T.b_Numbers_take .nil (fun σ => passAt (takes_of rfl rfl rfl rfl) σ) (pa_cons pe_int (pa_cons (pe_glob (v := (.int 65535)) rfl T.v_GREATEST.choose_spec ⟨_, rfl⟩) pa_nil))) pa_nil)) (pg_name (i := 2) sc_Numbers_take_code.nd rfl (Or.inl rfl))
        (pss_cons (ps_set (i := 3) sc_Numbers_take_code.nd rfl (Or.inl rfl) (pe_ix ix_tup (pe_glob (v := .ref A.k_NAMES) rfl T.m_NAMES rfl) (pe_methSD (pv 0) T.cl_Numbers T.me_Numbers_take (G_Numbers_take T) (hr.mono (by decide)) T.b_Numbers_take .nil (fun σ => passAt (takes_of rfl rfl rfl rfl) σ) (pa_cons pe_int (pa_cons (pe_op op_sub (pe_callB k_len (by rfl) T.n_len (by decide +kernel) (pa_cons (pe_glob (v := .ref A.k_NAMES) rfl T.m_NAMES rfl) pa_nil)) pe_int) pa_nil))) (fun _ _ => rfl)))
      (pss_one (ps_expr (pe_bm PySem.F.plainAttrs_list PySem.F.slot_list_append PySem.F.type_list_append mt_append (pv 1) (pa_cons (pe_tup (pa_cons (pv 3) (pa_cons (pe_methSD (pv 0) T.cl_Numbers T.me_Numbers_take (G_Numbers_take T) (hr.mono (by decide)) T.b_Numbers_take .nil (fun σ => passAt (takes_of rfl rfl rfl rfl) σ) (pa_cons pe_int (pa_cons (pe_glob (v := (.int 65535)) rfl T.v_GREATEST.choose_spec ⟨_, rfl⟩) pa_nil))) pa_nil))) pa_nil))))))
      (pss_one (ps_ret (pv 1))))), ?_⟩
    try dsimp only [cxOf, Cx.nox, Cx.wish]
    walk_at "go"
    refine ⟨by show 0 ≤ sizeLine; decide, fun D hD => ?_⟩
    walk_at "go"
    have nDl : D ≠ l := (ne_of_none hli0 hD).symm
    have nDr : D ≠ r := (ne_of_none ho0 hD).symm
    have hm1 : NmAt A.c_Numbers (upd H D (.lst [])) r l ns i := hm.same (same_new hD)
    have ho1 := hm1.ob.choose_spec
    have bad : ∀ {e j : Nat} {d : Addr} {H2 : Hp}, rdCode.run ns i = .error e → But r H H2 → H2 d = none → j = e → (∃ o, H2 r = some o) → E (.ref A.c_BadCode) (some d) (upd H2 d (.xd [("at", .int (j : Nat))])) := fun {e j d H2} he hb hd hj hr => by
      subst hj
      refine q2 _ d _ he ?_ (hb.new hd) upd_same
      cases z : H d with
      | none => rfl
      | some o =>
        obtain ⟨o', hr⟩ := hr
        have := hb d o (fun y => by rw [y, hr] at hd; cases hd) z
        rw [hd] at this
        cases this
    refine ⟨_, _, _, rfl, ho1, F_Numbers_no_take, ?_⟩
    walk_at "go"
    refine ⟨r, l, ns, i, 0, 65535, rfl, hm1, hz, fun n H2 en n0 n1 b2 hm2 => ?_, fun hbad d hd => ?_⟩
    rotate_left
    · exact bad (ask_err hbad) (Same.but (same_new hD)) hd rfl ⟨_, ho1⟩
    walk_at "go"
    have er : rdCode.run ns i = (many rdPair n.toNat).run ns (i + 1) := ask_ok en n0 n1
    have b2 : But r H H2 := (Same.but (same_new hD)).trans b2
    refine foR1 (fun k σ' H' => ∃ (c : Code) (ys : List V) (j : Nat) (v1 v2 : Option V), σ' = [some (.ref r), some (.ref D), v1, v2] ∧ (many rdPair k).run ns (i + 1) = .ok (c, j) ∧ c.length = k ∧ H' D = some (.lst ys) ∧ DpAll K H' ys (c.map pD) ∧ NmAt A.c_Numbers H' r l ns j ∧ But r H H') (by omega)
      ⟨[], [], i + 1, _, _, rfl, rfl, rfl, by have := hm2.ob.choose_spec; rename_i b2'; exact b2' D _ nDr upd_same, .nil, hm2, b2⟩ ?_ ?_
    · rintro k σ' H3 hk ⟨c, ys, j, v1, v2, rfl, hrun, hc, hD3, hys, hm3, b3⟩
      obtain ⟨dx3, ho3⟩ := hm3.ob
      walk_at "go"
      refine ⟨_, _, _, rfl, ho3, F_Numbers_no_take, ?_⟩
      walk_at "go"
      refine go_lenT (T.kt_NAMES _) ?_
      walk_at "go"
      refine ⟨r, l, ns, j, 0, 15, rfl, hm3, hz, fun a H4 ea a0 a1 b4 hm4 => ?_, fun hbad d hd => ?_⟩
      rotate_left
      · exact bad (er.trans (many_err hrun (ask_err hbad) _ (by omega))) b3 hd rfl ⟨_, ho3⟩
      obtain ⟨dx4, ho4⟩ := hm4.ob
      walk_at "go"
      refine go_ixT (T.kt_NAMES _) (names_at a0 a1) ?_
      walk_at "go"
      have hD4 := b4 _ _ nDr hD3
      refine ⟨.inl ⟨rfl, _, .inl (.inl hD4)⟩, ?_⟩
      walk_at "go"
      refine ⟨_, _, _, rfl, ho4, F_Numbers_no_take, ?_⟩
      walk_at "go"
      refine ⟨r, l, ns, j + 1, 0, 65535, rfl, hm4, hz, fun b H5 eb b0 b1 b5 hm5 => ?_, fun hbad d hd => ?_⟩
      rotate_left
      · exact bad (er.trans (many_err hrun ((ask_ok ea a0 a1).trans (ask_err hbad)) _ (by omega))) (b3.trans b4) hd rfl ⟨_, ho4⟩
      walk_at "go"
      refine ⟨by show 2 ≤ sizeLine; decide, fun t nt => ?_⟩
      walk_at "go"
      have hD5 := b5 _ _ nDr hD4
      have hys5 : DpAll K H5 ys (c.map pD) := dpAll_butI ho4 b5 _ _ (dpAll_butI ho3 b4 _ _ hys)
      have e6 : upd H5 t (.tup [.str (namesC.getD a.toNat ""), .int b]) D = some (.lst ys) := by rw [upd_ne (ne_of_none hD5 nt)]; exact hD5
      refine go_append e6 (szlt (by rw [dpAll_len hys, List.length_map, hc]; omega)) ?_
      walk_at "go"
      have hys6 := dpAll_snoc (dpAll_same (same_new (o := .tup [.str (namesC.getD a.toNat ""), .int b]) nt) _ _ hys5) (d := pD (namesC.getD a.toNat "", b)) (v := .ref t) (.tup (.inl (.inl upd_same)) (.cons (.str _) (.cons (.int _) .nil)))
      refine ⟨c ++ [(namesC.getD a.toNat "", b)], ys ++ [.ref t], j + 1 + 1, _, _, rfl, ?_, by simp [hc], upd_same, ?_, (hm5.same (same_new nt)).put nDl e6, but_put hD (((b3.trans b4).trans b5).new nt)⟩
      · refine many_succ hrun ((ask_ok ea a0 a1).trans ((ask_ok eb b0 b1).trans rfl))
      · rw [List.map_append]
        exact dpAll_put e6 _ _ (noLAll_app (noL_map pg_noL c) rfl) hys6
    · rintro σ' H3 ⟨c, ys, j, v1, v2, rfl, hrun, hc, hD3, hys, hm3, b3⟩
      walk_at "go"
      exact q1 c j D ys H3 (er.trans hrun) b3 hm3 hD hD3 hys
end
end K79

namespace K79
open PySem PySem.Spec PyProof.Rows L2 Gx
section
variable {P : Program} {w : World} {K : PySem.W.Frag} {mg : Str → Option Value} {base : Heap} {A : Ad}
def sp_read_program (K : PySem.W.Frag) (C B : Addr) : Sp := fun vs H Q E => ∃ (a : Addr) (ns : List Int), vs = [.ref a] ∧ SqL K H a (ns.map V.int) ∧ ns.length ≤ 100000 ∧ (∀ x r H', readP ns = .ok r → Same H H' → PgAt K C H' x r → Q (.ref x) H') ∧ (∀ e d H', readP ns = .error e → Same H H' → H' d = some (.xd [("at", .int (e : Nat))]) → E (.ref B) (some d) H')
theorem G_read_program (T : Txt P K mg A) : FnOk P w K mg base (L2.CX P w) 6 A.f_read_program A.d_read_program ["numbers"] (sp_read_program K A.c_Program A.c_BadCode) := by
  refine (T.F_read_program.okX (k := 5) sc_read_program (fun vs H Q E h => ?_) (fun cdv Ar outer s H vs Q E hr h => ?_))
  · obtain ⟨a, ns, rfl, _⟩ := h
    rfl
  · obtain ⟨a, ns, rfl, ha, hz, q1, q2⟩ := h
    have cl := T.cl_Numbers
    have na_numbers := T.na_Numbers_numbers
    have na_at := T.na_Numbers_at

    refine ⟨_, (pss_cons (ps_set (i := 1) sc_read_program.nd rfl (Or.inr rfl) (pe_make T.mk_Numbers (G_Numbers___init__ T) (hr.mono (by decide)) rfl T.m_Numbers T.b_Numbers___init__ .nil pass0 (pa_cons (pv 0) pa_nil)))
      (pss_cons (ps_setLcE (i := 2) (E := E) (own := [("_", 4)]) (g := gName 4) (tt := tYes) rfl sc_read_program.nd rfl rfl (sw_true rfl rfl rfl (by decide +kernel)) (pi_range1 rfl T.n_range (pa_cons (pe_methSD (pv 1) T.cl_Numbers T.me_Numbers_take (G_Numbers_take T) (hr.mono (by decide)) T.b_Numbers_take .nil (fun σ => passAt (takes_of rfl rfl rfl rfl) σ) (pa_cons pe_int (pa_cons (pe_glob (v := (.int 12)) rfl T.v_MOST_VARIABLES.choose_spec ⟨_, rfl⟩) pa_nil))) pa_nil)) (blkOk_by (N := ["numbers", "reader", "sizes", "moves", "_", "player", "rounds"]) (sc := defScope s_read_program) (by decide +kernel)) rfl rfl (takes_of rfl rfl rfl rfl) (fun _ _ _ _ _ => (pg_name (i := 4) sc_read_program.nd rfl (Or.inl rfl))) (fun _ _ _ _ _ => by exact pts_nil) (fun _ _ _ _ _ hp => by exact (pe_methSD (pv 1) T.cl_Numbers T.me_Numbers_take (G_Numbers_take T) (hr.mono (by decide)) T.b_Numbers_take .nil hp (pa_cons pe_int (pa_cons (pe_glob (v := (.int 65535)) rfl T.v_GREATEST.choose_spec ⟨_, rfl⟩) pa_nil)))))
      (pss_cons (ps_set (i := 3) sc_read_program.nd rfl (Or.inl rfl) (pe_lst pa_nil))
      (pss_cons (ps_for (passes_of rfl) rfl (pi_range1 rfl T.n_range (pa_cons (pe_methSD (pv 1) T.cl_Numbers T.me_Numbers_take (G_Numbers_take T) (hr.mono (by decide)) T.b_Numbers_take .nil (fun σ => passAt (takes_of rfl rfl rfl rfl) σ) (pa_cons pe_int (pa_cons (pe_glob (v := (.int 24)) rfl T.v_MOST_BRANCHINGS.choose_spec ⟨_, rfl⟩) pa_nil))) pa_nil)) (pg_name (i := 4) sc_read_program.nd rfl (Or.inl rfl))
        (pss_cons (ps_set (i := 5) sc_read_program.nd rfl (Or.inl rfl) (pe_methSD (pv 1) T.cl_Numbers T.me_Numbers_take (G_Numbers_take T) (hr.mono (by decide)) T.b_Numbers_take .nil (fun σ => passAt (takes_of rfl rfl rfl rfl) σ) (pa_cons pe_int (pa_cons pe_int pa_nil))))
      (pss_one (ps_expr (pe_bm PySem.F.plainAttrs_list PySem.F.slot_list_append PySem.F.type_list_append mt_append (pv 3) (pa_cons (pe_tup (pa_cons (pv 5) (pa_cons (pe_methSD (pv 1) T.cl_Numbers T.me_Numbers_take (G_Numbers_take T) (hr.mono (by decide)) T.b_Numbers_take .nil (fun σ => passAt (takes_of rfl rfl rfl rfl) σ) (pa_cons pe_int (pa_cons (pe_glob (v := (.int 8)) rfl T.v_MOST_MOVES.choose_spec ⟨_, rfl⟩) pa_nil))) pa_nil))) pa_nil))))))
      (pss_cons (ps_setLcE (i := 6) (E := E) (own := [("_", 4)]) (g := gName 4) (tt := tYes) rfl sc_read_program.nd rfl rfl (sw_true rfl rfl rfl (by decide +kernel)) (pi_range1 rfl T.n_range (pa_cons (pe_methSD (pv 1) T.cl_Numbers T.me_Numbers_take (G_Numbers_take T) (hr.mono (by decide)) T.b_Numbers_take .nil (fun σ => passAt (takes_of rfl rfl rfl rfl) σ) (pa_cons pe_int (pa_cons (pe_glob (v := (.int 8)) rfl T.v_MOST_ROUNDS.choose_spec ⟨_, rfl⟩) pa_nil))) pa_nil)) (blkOk_by (N := ["numbers", "reader", "sizes", "moves", "_", "player", "rounds"]) (sc := defScope s_read_program) (by decide +kernel)) rfl rfl (takes_of rfl rfl rfl rfl) (fun _ _ _ _ _ => (pg_name (i := 4) sc_read_program.nd rfl (Or.inl rfl))) (fun _ _ _ _ _ => by exact pts_nil) (fun _ _ _ _ _ hp => by exact (pe_methSD0 (pv 1) T.cl_Numbers T.me_Numbers_take_code (G_Numbers_take_code T) (hr.mono (by decide)) T.b_Numbers_take_code .nil hp)))
      (pss_cons (ps_if (pt_cmpR op_lt (pe_fld (pv 1) rfl) (pe_callB k_len (by rfl) T.n_len (by decide +kernel) (pa_cons (pe_fld (pv 1) rfl) pa_nil)) (nomark _))
        (pss_one (ps_raiseErr rfl T.er_BadCode hr T.m_BadCode (takes_of rfl rfl rfl rfl) (pa_cons (pe_fld (pv 1) rfl) pa_nil)))
        pss_nil)
      (pss_one (ps_ret (pe_make T.mk_Program (G_Program___init__ T) (hr.mono (by decide)) rfl T.m_Program T.b_Program___init__ .nil pass0 (pa_cons (pv 2) (pa_cons (pv 3) (pa_cons (pv 6) pa_nil)))))))))))), ?_⟩
    try dsimp only [cxOf, Cx.nox, Cx.wish]
    walk_at "go"
    intro x dx hx hdx hne
    have s1 : Same H (upd (upd H dx (.own x)) x (.ins A.c_Numbers dx [])) := (same_new hdx).trans (same_new (by rw [upd_ne hne.symm]; exact hx))
    refine ⟨x, dx, a, ns, rfl, upd_same, same_sqL s1 ha, fun H1 l hl hm1 hb1 => ⟨rfl, ?_⟩⟩
    have s1 : Same H H1 := same_butF s1 hx hb1
    have lx : l ≠ x := fun z => by rw [z, upd_same] at hl; cases hl
    obtain ⟨dx1, ho1⟩ := hm1.ob
    have bad : ∀ {e j : Nat} {d : Addr} {H2 : Hp}, rdProg.run ns 0 = .error e → Same H H2 → H2 d = none → j = e → E (.ref A.c_BadCode) (some d) (upd H2 d (.xd [("at", .int (j : Nat))])) := fun {e j d H2} he hs hd hj => by
      subst hj
      refine q2 _ d _ ?_ (hs.trans (same_new hd)) upd_same
      unfold readP
      rw [he]
    walk_at "go"
    refine ⟨_, _, _, rfl, ho1, F_Numbers_no_take, ?_⟩
    walk_at "go"
    refine ⟨x, l, ns, 0, 0, 12, rfl, hm1, hz, fun n H2 en n0 n1 b2 hm2 => ?_, fun hbad d hd => bad (ask_err hbad) s1 hd rfl⟩
    have s2 := same_butF s1 hx b2
    have r2 : rdProg.run ns 0 = ((many rdSize n.toNat).bind fun ss => .ask 0 24 fun m => (many rdMove m.toNat).bind fun ms => .ask 0 8 fun r => (many rdCode r.toNat).bind fun rs => .ret (⟨ss, ms, rs⟩ : Prog)).run ns 1 := ask_ok en n0 n1
    walk_at "go"
    refine lcRI (by omega) (fun _ => rfl) fun D hD => ?_
    have Dx : D ≠ x := fun z => by obtain ⟨_, o⟩ := hm2.ob; rw [z, o] at hD; cases hD
    have Dl : D ≠ l := fun z => by rw [z, hm2.li] at hD; cases hD
    have hDo : H D = none := by
      cases z : H D with
      | none => rfl
      | some o => rw [s2 _ _ z] at hD; cases hD
    refine ⟨fun i H' => ∃ (ss : List Int) (j : Nat), (many rdSize i).run ns 1 = .ok (ss, j) ∧ ss.length = i ∧ H' D = some (.lst (ss.map V.int)) ∧ NmAt A.c_Numbers H' x l ns j ∧ Same H H', ⟨[], 1, rfl, rfl, upd_same, hm2.same (same_new hD), s2.trans (same_new hD)⟩, ?_, ?_⟩
    · rintro i H3 hi ⟨ss, j, hrun, hss, hD3, hm3, s3⟩
      obtain ⟨dx3, ho3⟩ := hm3.ob
      walk_at "go"
      refine ⟨_, _, _, rfl, ho3, F_Numbers_no_take, ?_⟩
      walk_at "go"
      refine ⟨x, l, ns, j, 1, 65535, rfl, hm3, hz, fun v H4 ev v0 v1 b4 hm4 => ?_, fun hbad d hd => bad (r2.trans (bind_err (many_err hrun (ask_err hbad) _ (by omega)))) s3 hd rfl⟩
      have hD4 := b4 _ _ Dx hD3
      refine ⟨ss.map V.int, hD4, szlt (by rw [List.length_map]; omega), ss ++ [v], j + 1, many_succ hrun (ask_ok ev v0 v1), by simp [hss], ?_, hm4.put Dl hD4, same_mut (same_butF s3 hx b4) hDo⟩
      rw [upd_same, List.map_append]
      rfl
    rintro H3 ⟨ss, j, hrun, hss, hD3, hm3, s3⟩
    obtain ⟨dx3, ho3⟩ := hm3.ob
    have r3 := r2.trans (bind_ok hrun)
    walk_at "go"
    refine ⟨by show 0 ≤ sizeLine; decide, fun M hM => ?_⟩
    walk_at "go"
    have Mx : M ≠ x := (ne_of_none ho3 hM).symm
    have Ml : M ≠ l := (ne_of_none hm3.li hM).symm
    have MD : M ≠ D := (ne_of_none hD3 hM).symm
    have hMo : H M = none := by
      cases z : H M with
      | none => rfl
      | some o => rw [s3 _ _ z] at hM; cases hM
    have s4 : Same H (upd H3 M (.lst [])) := s3.trans (same_new hM)
    have hm4 : NmAt A.c_Numbers (upd H3 M (.lst [])) x l ns j := hm3.same (same_new hM)
    have hD4 : upd H3 M (.lst []) D = some (.lst (ss.map V.int)) := same_new hM _ _ hD3
    have hM4 : upd H3 M (.lst []) M = some (.lst []) := upd_same
    generalize upd H3 M (.lst []) = H4 at *
    obtain ⟨dx4, ho4⟩ := hm4.ob
    refine ⟨_, _, _, rfl, ho4, F_Numbers_no_take, ?_⟩
    walk_at "go"
    refine ⟨x, l, ns, j, 0, 24, rfl, hm4, hz, fun m H5 em m0 m1 b5 hm5 => ?_, fun hbad d hd => bad (r3.trans (ask_err hbad)) s4 hd rfl⟩
    have r5 := r3.trans (ask_ok em m0 m1)
    walk_at "go"
    refine foR1 (fun i σ' H' => ∃ (ms : List (Int × Int)) (ys : List V) (k : Nat) (v1 v2 v3 : Option V), σ' = [some (.ref a), some (.ref x), some (.ref D), some (.ref M), v1, v2, v3] ∧ (many rdMove i).run ns (j + 1) = .ok (ms, k) ∧ ms.length = i ∧ H' M = some (.lst ys) ∧ DpAll K H' ys (ms.map mD) ∧ H' D = some (.lst (ss.map V.int)) ∧ NmAt A.c_Numbers H' x l ns k ∧ Same H H') (by omega)
      ⟨[], [], j + 1, _, _, _, rfl, rfl, rfl, b5 _ _ Mx hM4, .nil, b5 _ _ Dx hD4, hm5, same_butF s4 hx b5⟩ ?_ ?_
    · rintro i σ' H6 hi ⟨ms, ys, k, v1, v2, v3, rfl, hrunM, hms, hM6, hys, hD6, hm6, s6⟩
      obtain ⟨dx6, ho6⟩ := hm6.ob
      walk_at "go"
      refine ⟨_, _, _, rfl, ho6, F_Numbers_no_take, ?_⟩
      walk_at "go"
      refine ⟨x, l, ns, k, 1, 2, rfl, hm6, hz, fun u H7 eu u0 u1 b7 hm7 => ?_, fun hbad d hd => bad (r5.trans (bind_err (many_err hrunM (ask_err hbad) _ (by omega)))) s6 hd rfl⟩
      have hM7 := b7 _ _ Mx hM6
      obtain ⟨dx7, ho7⟩ := hm7.ob
      walk_at "go"
      refine ⟨.inl ⟨rfl, _, .inl (.inl hM7)⟩, ?_⟩
      walk_at "go"
      refine ⟨_, _, _, rfl, ho7, F_Numbers_no_take, ?_⟩
      walk_at "go"
      refine ⟨x, l, ns, k + 1, 1, 8, rfl, hm7, hz, fun w8 H8 ew w0 w1 b8 hm8 => ?_, fun hbad d hd => bad (r5.trans (bind_err (many_err hrunM ((ask_ok eu u0 u1).trans (ask_err hbad)) _ (by omega)))) (same_butF s6 hx b7) hd rfl⟩
      walk_at "go"
      refine ⟨by show 2 ≤ sizeLine; decide, fun t nt => ?_⟩
      walk_at "go"
      have hM8 := b8 _ _ Mx hM7
      have e9 : upd H8 t (.tup [.int u, .int w8]) M = some (.lst ys) := same_new nt _ _ hM8
      have hys8 : DpAll K H8 ys (ms.map mD) := dpAll_butI ho7 b8 _ _ (dpAll_butI ho6 b7 _ _ hys)
      refine go_append e9 (szlt (by rw [dpAll_len hys, List.length_map, hms]; omega)) ?_
      walk_at "go"
      have hys9 := dpAll_snoc (dpAll_same (same_new (o := .tup [.int u, .int w8]) nt) _ _ hys8) (d := mD (u, w8)) (v := .ref t) (.tup (.inl (.inl upd_same)) (.cons (.int _) (.cons (.int _) .nil)))
      refine ⟨ms ++ [(u, w8)], ys ++ [.ref t], k + 1 + 1, _, _, _, rfl, many_succ hrunM ((ask_ok eu u0 u1).trans ((ask_ok ew w0 w1).trans rfl)), by simp [hms], upd_same, ?_, ?_, (hm8.same (same_new nt)).put Ml e9, same_mut (((same_butF (same_butF s6 hx b7) hx b8)).trans (same_new nt)) hMo⟩
      · rw [List.map_append]
        exact dpAll_put e9 _ _ (noLAll_app (noL_map (fun _ => rfl) ms) rfl) hys9
      · rw [upd_ne MD.symm]
        exact same_new nt _ _ (b8 _ _ Dx (b7 _ _ Dx hD6))
    rintro σ' H6 ⟨ms, ys, k, v1, v2, v3, rfl, hrunM, hms, hM6, hys, hD6, hm6, s6⟩
    have r6 := r5.trans (bind_ok hrunM)
    obtain ⟨dx6, ho6⟩ := hm6.ob
    walk_at "go"
    refine ⟨_, _, _, rfl, ho6, F_Numbers_no_take, ?_⟩
    walk_at "go"
    refine ⟨x, l, ns, k, 0, 8, rfl, hm6, hz, fun rr H7 erd rr0 rr1 b7 hm7 => ?_, fun hbad d hd => bad (r6.trans (ask_err hbad)) s6 hd rfl⟩
    have r7 := r6.trans (ask_ok erd rr0 rr1)
    have s7 := same_butF s6 hx b7
    have hM7 := b7 _ _ Mx hM6
    have hD7 := b7 _ _ Dx hD6
    have hys7 := dpAll_butI ho6 b7 _ _ hys
    walk_at "go"
    refine lcRI (by omega) (fun _ => rfl) fun G hG => ?_
    have Gx : G ≠ x := fun z => by obtain ⟨_, o⟩ := hm7.ob; rw [z, o] at hG; cases hG
    have Gl : G ≠ l := fun z => by rw [z, hm7.li] at hG; cases hG
    have GM : G ≠ M := fun z => by rw [z, hM7] at hG; cases hG
    have GD : G ≠ D := fun z => by rw [z, hD7] at hG; cases hG
    have hGo : H G = none := by
      cases z : H G with
      | none => rfl
      | some o => rw [s7 _ _ z] at hG; cases hG
    refine ⟨fun i H' => ∃ (rs : List Code) (zs : List V) (j' : Nat), (many rdCode i).run ns (k + 1) = .ok (rs, j') ∧ rs.length = i ∧ H' G = some (.lst zs) ∧ zs.length = i ∧ (∀ (n : Nat) c, rs[n]? = some c → ∃ b xs, zs[n]? = some (.ref b) ∧ b ≠ G ∧ H' b = some (.lst xs) ∧ DpAll K H' xs (c.map pD)) ∧ NmAt A.c_Numbers H' x l ns j' ∧ Same H H' ∧ H' M = some (.lst ys) ∧ DpAll K H' ys (ms.map mD) ∧ H' D = some (.lst (ss.map V.int)),
      ⟨[], [], k + 1, rfl, rfl, upd_same, rfl, (fun n c h => by cases h), hm7.same (same_new hG), s7.trans (same_new hG), same_new hG _ _ hM7, dpAll_same (same_new hG) _ _ hys7, same_new hG _ _ hD7⟩, ?_, ?_⟩
    · rintro i H8 hi ⟨rs, zs, j', hrunR, hrs, hG8, hzs, hall, hm8, s8, hM8, hys8, hD8⟩
      obtain ⟨dx8, ho8⟩ := hm8.ob
      walk_at "go"
      refine ⟨_, _, _, rfl, ho8, F_Numbers_no_take_code, ?_⟩
      walk_at "go"
      refine ⟨x, l, ns, j', rfl, hm8, hz, fun c j2 D2 y2 H9 hc b9 hm9 n2 e2 d2 => ?_, fun e d H9 he hd b9 ed => ?_⟩
      rotate_left
      · refine q2 e d H9 ?_ (same_butF s8 hx b9) ed
        unfold readP
        rw [r7.trans (bind_err (many_err hrunR he _ (by omega)))]
      have hG9 := b9 _ _ Gx hG8
      have D2G : D2 ≠ G := fun z => by rw [z, hG8] at n2; cases n2
      refine ⟨zs, hG9, szlt (by omega), rs ++ [c], zs ++ [.ref D2], j2, many_succ hrunR hc, by simp [hrs], upd_same, by simp [hzs], ?_, hm9.put Gl hG9, same_mut (same_butF s8 hx b9) hGo, ?_, ?_, ?_⟩
      · intro n c' hn
        rcases Nat.lt_or_ge n rs.length with z | z
        · rw [List.getElem?_append_left z] at hn
          obtain ⟨b, xs, f1, f2, f3, f4⟩ := hall n c' hn
          refine ⟨b, xs, by rw [List.getElem?_append_left (by omega)]; exact f1, f2, ?_, dpAll_put hG9 _ _ (noL_map pg_noL c') (dpAll_butI ho8 b9 _ _ f4)⟩
          rw [upd_ne f2]
          exact b9 _ _ (fun z => by rw [z, ho8] at f3; cases f3) f3
        · obtain rfl : n = rs.length := by
            have := (List.getElem?_eq_some_iff.mp hn).1
            rw [List.length_append, List.length_singleton] at this
            omega
          rw [List.getElem?_append_right (Nat.le_refl _), Nat.sub_self] at hn
          cases hn
          refine ⟨D2, y2, by rw [List.getElem?_append_right (by omega), hzs, hrs, Nat.sub_self]; rfl, D2G, by rw [upd_ne D2G]; exact e2, dpAll_put hG9 _ _ (noL_map pg_noL c) d2⟩
      · rw [upd_ne GM.symm]
        exact b9 _ _ Mx hM8
      · exact dpAll_put hG9 _ _ (noL_map (fun _ => rfl) ms) (dpAll_butI ho8 b9 _ _ hys8)
      · rw [upd_ne GD.symm]
        exact b9 _ _ Dx hD8
    rintro H8 ⟨rs, zs, j', hrunR, hrs, hG8, hzs, hall, hm8, s8, hM8, hys8, hD8⟩
    have r8 : rdProg.run ns 0 = .ok (⟨ss, ms, rs⟩, j') := r7.trans (bind_ok hrunR)
    obtain ⟨dx8, ho8⟩ := hm8.ob
    walk_at "go"
    refine go_lenL (.of hm8.li) ?_
    rw [List.length_map]
    walk_at "go"
    walk_at "br"
    · intro hlt
      walk_at "go"
      refine ⟨_, rfl, fun d hd => ?_⟩
      refine q2 j' d _ ?_ (s8.trans (same_new hd)) upd_same
      unfold readP
      rw [r8]
      exact if_pos (by omega)
    · intro hlt
      walk_at "go"
      intro y dy hy hdy hne2
      have s9 : Same H8 (upd (upd H8 dy (.own y)) y (.ins A.c_Program dy [])) := (same_new hdy).trans (same_new (by rw [upd_ne hne2.symm]; exact hy))
      refine ⟨y, dy, _, _, _, ⟨ss, ms, rs⟩, rfl, upd_same, dp_same s9 _ _ (.lst (.of hD8) (dp_intsA _)), dp_same s9 _ _ (.lst (.of hM8) hys8), dp_same s9 _ _ (.lst (.of hG8) (dpAll_of (by rw [hzs, List.length_map, hrs]) fun n d hn => ?_)), by show rs.length ≤ 100000; omega, fun H9 hp9 b9 => ⟨rfl, ?_⟩⟩
      · rw [List.getElem?_map] at hn
        cases e : rs[n]? with
        | none => rw [e] at hn; cases hn
        | some c =>
          rw [e] at hn
          cases hn
          obtain ⟨b, xs, f1, f2, f3, f4⟩ := hall n c e
          exact ⟨_, f1, .lst (.of f3) f4⟩
      · walk_at "go"
        have hyo : H y = none := by
          cases z : H y with
          | none => rfl
          | some o => rw [s8 _ _ z] at hy; cases hy
        refine q1 y _ H9 ?_ (same_butF (s8.trans s9) hyo b9) hp9
        unfold readP
        rw [r8]
        exact if_neg (by omega)
end
end K79

namespace K79
open PySem PySem.Spec PyProof.Rows L2 Gx
section
variable {P : Program} {w : World} {K : PySem.W.Frag} {mg : Str → Option Value} {base : Heap} {A : Ad}
def sp__law_same (K : PySem.W.Frag) : Nat → Sp
  | 0 => fun _ _ _ _ => False
  | n + 1 => fun vs H Q _ => ∃ (x y : V), vs = [x, y] ∧ Eqd K H n x y ∧ Q (.bl true) H
theorem R__law_same (T : Txt P K mg A) : ∀ n : Nat, FnOk P w K mg base CX0 (n + 0) A.f__law_same A.d__law_same ["_law_actual", "_law_due"] (sp__law_same K n)
  | 0 => ⟨fun vs H Q E h => False.elim h, fun _ _ _ _ _ _ _ _ _ _ _ _ _ h => False.elim h⟩
  | n + 1 => by
    have IH := R__law_same T n
    refine (T.F__law_same.ok (k := n + 0) sc__law_same (fun vs H Q E h => ?_) (fun cdv Ar outer s H vs Q E hr h => ?_))
    · obtain ⟨x, y, rfl, _⟩ := h
      rfl
    · obtain ⟨x, y, rfl, hxy, q⟩ := h
      refine ⟨_, (pss_cons (ps_if (PW.pt (pw_or (pt_val (pe_callB call_isi (by rfl) T.n_isinstance (by decide +kernel) (pa_cons (pv 1) (pa_cons (pe_bltn (v := .ty "tuple") (by rfl) T.n_tuple (by decide +kernel) rfl) pa_nil)))) (pw_or1 (pt_val (pe_callB call_isi (by rfl) T.n_isinstance (by decide +kernel) (pa_cons (pv 1) (pa_cons (pe_bltn (v := .ty "list") (by rfl) T.n_list (by decide +kernel) rfl) pa_nil)))))))
        (pss_cons (ps_if (PW.pt (pw_or (pt_cmpR op_ne (pe_callB call_isi (by rfl) T.n_isinstance (by decide +kernel) (pa_cons (pv 1) (pa_cons (pe_bltn (v := .ty "tuple") (by rfl) T.n_tuple (by decide +kernel) rfl) pa_nil))) (pe_callB call_isi (by rfl) T.n_isinstance (by decide +kernel) (pa_cons (pv 0) (pa_cons (pe_bltn (v := .ty "tuple") (by rfl) T.n_tuple (by decide +kernel) rfl) pa_nil))) (nomark _)) (pw_or1 (pt_cmpR op_ne (pe_callB call_isi (by rfl) T.n_isinstance (by decide +kernel) (pa_cons (pv 1) (pa_cons (pe_bltn (v := .ty "list") (by rfl) T.n_list (by decide +kernel) rfl) pa_nil))) (pe_callB call_isi (by rfl) T.n_isinstance (by decide +kernel) (pa_cons (pv 0) (pa_cons (pe_bltn (v := .ty "list") (by rfl) T.n_list (by decide +kernel) rfl) pa_nil))) (nomark _)))))
        (pss_one (ps_ret pe_bl))
        pss_nil)
      (pss_cons (ps_if (pt_cmpR op_ne (pe_callB k_len (by rfl) T.n_len (by decide +kernel) (pa_cons (pv 0) pa_nil)) (pe_callB k_len (by rfl) T.n_len (by decide +kernel) (pa_cons (pv 1) pa_nil)) (nomark _))
        (pss_one (ps_ret pe_bl))
        pss_nil)
      (pss_cons (ps_for PassesOwn.never rfl (pi_range1 rfl T.n_range (pa_cons (pe_callB k_len (by rfl) T.n_len (by decide +kernel) (pa_cons (pv 1) pa_nil)) pa_nil)) (pg_name (i := 2) sc__law_same.nd rfl (Or.inl rfl))
        (pss_one (ps_if (pt_not (pt_val (pe_call IH (hr.mono (by omega)) rfl T.m__law_same T.F__law_same.kp T.b__law_same .nil pass0 (pa_cons (pe_ix ix_seq (pv 0) (pv 2) (fun _ _ => rfl)) (pa_cons (pe_ix ix_seq (pv 1) (pv 2) (fun _ _ => rfl)) pa_nil)))))
        (pss_one (ps_ret pe_bl))
        pss_nil)))
      (pss_one (ps_ret pe_bl)))))
        pss_nil)
      (pss_cons (ps_if (PW.pt (pw_or (pt_cmpR o_isN (pv 1) pe_non (nomark _)) (pw_or1 (pt_val (pe_callB call_isi (by rfl) T.n_isinstance (by decide +kernel) (pa_cons (pv 1) (pa_cons (pe_bltn (v := .ty "bool") (by rfl) T.n_bool (by decide +kernel) rfl) pa_nil)))))))
        (pss_one (ps_ret (pe_and (pe_cmpR op_eq (pe_cmpR o_isN (pv 0) pe_non (nomark _)) (pe_cmpR o_isN (pv 1) pe_non (nomark _)) (nomark _)) (pe_and (pe_or (pe_cmpR o_isN (pv 1) pe_non (nomark _)) (pe_one (pe_callB call_isi (by rfl) T.n_isinstance (by decide +kernel) (pa_cons (pv 0) (pa_cons (pe_bltn (v := .ty "bool") (by rfl) T.n_bool (by decide +kernel) rfl) pa_nil))))) (pe_one (pe_cmpR op_eq (pv 0) (pv 1) (nomark _)))))))
        pss_nil)
      (pss_cons (ps_if (pt_val (pe_callB call_isi (by rfl) T.n_isinstance (by decide +kernel) (pa_cons (pv 1) (pa_cons (pe_bltn (v := .ty "int") (by rfl) T.n_int (by decide +kernel) rfl) pa_nil))))
        (pss_one (ps_ret (pe_and (pe_callB call_isi (by rfl) T.n_isinstance (by decide +kernel) (pa_cons (pv 0) (pa_cons (pe_bltn (v := .ty "int") (by rfl) T.n_int (by decide +kernel) rfl) pa_nil))) (pe_and (pe_not (pe_callB call_isi (by rfl) T.n_isinstance (by decide +kernel) (pa_cons (pv 0) (pa_cons (pe_bltn (v := .ty "bool") (by rfl) T.n_bool (by decide +kernel) rfl) pa_nil)))) (pe_one (pe_cmpR op_eq (pv 0) (pv 1) (nomark _)))))))
        pss_nil)
      (pss_one (ps_ret (pe_and (pe_callB call_isi (by rfl) T.n_isinstance (by decide +kernel) (pa_cons (pv 0) (pa_cons (pe_bltn (v := .ty "str") (by rfl) T.n_str (by decide +kernel) rfl) pa_nil))) (pe_one (pe_cmpR op_eq (pv 0) (pv 1) (nomark _))))))))), ?_⟩
      try dsimp only [cxOf, Cx.nox, Cx.wish]
      walk_at "go"
      cases hxy with
      | non => walk_at "go"; exact q
      | bl b => walk_at "go"; (rw [decide_eq_true rfl]; exact q)
      | int i => walk_at "go"; (rw [decide_eq_true rfl]; exact q)
      | str z => walk_at "go"; (rw [decide_eq_true rfl]; exact q)
      | @lst m a b xs ys h1 h2 hl hz hall =>
        walk_at "go"
        rw [decide_eq_true rfl]
        walk_at "go"
        rw [decide_eq_true rfl]
        walk_at "go"
        refine go_lenL h1 ?_
        walk_at "go"
        refine go_lenL h2 ?_
        walk_at "go"
        rw [decide_eq_true (by omega : (xs.length : Int) = ys.length)]
        walk_at "go"
        refine go_lenL h2 ?_
        walk_at "go"
        refine foR1 (fun i σ' H' => ∃ v, σ' = [some (.ref a), some (.ref b), v] ∧ H' = H) (by omega) ⟨_, rfl, rfl⟩ ?_ ?_
        · rintro i σ' H' hi ⟨v, rfl, rfl⟩
          walk_at "go"
          have hi2 : i < ys.length := by omega
          have hi1 : i < xs.length := by omega
          refine go_ixQL h1 (at_nat (List.getElem?_eq_getElem hi1)) ?_
          walk_at "go"
          refine go_ixQL h2 (at_nat (List.getElem?_eq_getElem hi2)) ?_
          walk_at "go"
          refine ⟨_, _, rfl, hall i _ _ (List.getElem?_eq_getElem hi1) (List.getElem?_eq_getElem hi2), ?_⟩
          walk_at "go"
          exact ⟨_, rfl, rfl⟩
        · rintro σ' H' ⟨v, rfl, rfl⟩
          walk_at "go"
          exact q
      | @tup m a b xs ys h1 h2 hl hz hall =>
        walk_at "go"
        rw [decide_eq_true rfl]
        walk_at "go"
        rw [decide_eq_true rfl]
        walk_at "go"
        refine go_lenT h1 ?_
        walk_at "go"
        refine go_lenT h2 ?_
        walk_at "go"
        rw [decide_eq_true (by omega : (xs.length : Int) = ys.length)]
        walk_at "go"
        refine go_lenT h2 ?_
        walk_at "go"
        refine foR1 (fun i σ' H' => ∃ v, σ' = [some (.ref a), some (.ref b), v] ∧ H' = H) (by omega) ⟨_, rfl, rfl⟩ ?_ ?_
        · rintro i σ' H' hi ⟨v, rfl, rfl⟩
          walk_at "go"
          have hi2 : i < ys.length := by omega
          have hi1 : i < xs.length := by omega
          refine go_ixQT h1 (at_nat (List.getElem?_eq_getElem hi1)) ?_
          walk_at "go"
          refine go_ixQT h2 (at_nat (List.getElem?_eq_getElem hi2)) ?_
          walk_at "go"
          refine ⟨_, _, rfl, hall i _ _ (List.getElem?_eq_getElem hi1) (List.getElem?_eq_getElem hi2), ?_⟩
          walk_at "go"
          exact ⟨_, rfl, rfl⟩
        · rintro σ' H' ⟨v, rfl, rfl⟩
          walk_at "go"
          exact q
end
end K79

namespace K79
open PySem PySem.Spec PyProof.Rows L2 Gx
section
variable {P : Program} {w : World} {K : PySem.W.Frag} {mg : Str → Option Value} {base : Heap} {A : Ad}
def sp__law_read (K : PySem.W.Frag) (C B : Addr) : Sp := fun vs H Q _ => ∃ (a : Addr) (ns : List Int), vs = [.ref a] ∧ SqL K H a (ns.map V.int) ∧ ns.length ≤ 100000 ∧ (∀ r v H', readP ns = .ok r → Same H H' → Dp K H' v (.tuple [.str "read", .list [ssD r, msD r, rsD r], .bool true]) → Q v H') ∧ (∀ e v H', readP ns = .error e → Same H H' → Dp K H' v (.tuple [.str "refused", .int (e : Nat), .bool true]) → Q v H')
theorem G__law_read (T : Txt P K mg A) : FnOk P w K mg base CX0 7 A.f__law_read A.d__law_read ["_law_numbers_here"] (sp__law_read K A.c_Program A.c_BadCode) := by
  refine (T.F__law_read.ok (k := 6) sc__law_read (fun vs H Q E h => ?_) (fun cdv Ar outer s H vs Q E hr h => ?_))
  · obtain ⟨a, ns, rfl, _⟩ := h
    rfl
  · obtain ⟨a, ns, rfl, ha, hz, q1, q2⟩ := h
    have cl := T.cl_Program
    have na_sizes := T.na_Program_sizes
    have na_moves := T.na_Program_moves
    have na_rounds := T.na_Program_rounds

    refine ⟨_, (pss_cons (ps_set (i := 1) sc__law_read.nd rfl (Or.inl rfl) (pe_callTy k_list_of (by rfl) T.n_list (by decide +kernel) (pa_cons (pv 0) pa_nil)))
      (pss_one (ps_try_as (i := 3) rfl rfl sc__law_read.nd rfl rfl ⟨rfl, by decide, Or.inl T.m_BadCode⟩ takes0
        (fun W pn xe tk ps => by exact (pss_cons (ps_set (i := 2) sc__law_read.nd rfl (Or.inl rfl) (pe_callSD (G_read_program T) (hr.mono (by decide)) rfl T.m_read_program T.F_read_program.kp T.b_read_program .nil (fun σ => passAt tk σ) (pa_cons (pv 1) pa_nil)))
      (pss_one (ps_ret (pe_tup (pa_cons pe_str (pa_cons (pe_lst (pa_cons (pe_fldK (K := K) rfl (pv 2) rfl) (pa_cons (pe_fldK (K := K) rfl (pv 2) rfl) (pa_cons (pe_fldK (K := K) rfl (pv 2) rfl) pa_nil)))) (pa_cons (pe_cmpR (op_eqDK (K := K) rfl hr.units) (pv 1) (pv 0) (nomark _)) pa_nil))))))))
        (fun a oe cls d pn hz hf => by exact (pss_one (ps_ret (pe_tup (pa_cons pe_str (pa_cons (pe_xf T.xf_BadCode T.er_BadCode.noN hz hf (pv 3)) (pa_cons (pe_callB (call_isX hz hf) (by rfl) T.n_isinstance (by decide +kernel) (pa_cons (pv 3) (pa_cons (pe_glob (v := .ref A.c_GameError) rfl T.m_GameError rfl) pa_nil))) pa_nil)))))))))), ?_⟩
    try dsimp only [cxOf, Cx.nox, Cx.wish]
    walk_at "go"
    refine go_listOfL ha fun l nl => ?_
    walk_at "go"
    have s1 := same_new (o := HO.lst (ns.map V.int)) nl
    refine ⟨l, ns, rfl, .of upd_same, hz, fun x r H' hr s2 hx => ?_, fun e d H' hr s2 hd => ?_⟩
    · have hx' := hx
      obtain ⟨dx, s, m, rr, ox, h1, h2, h3⟩ := hx.ob
      walk_at "go"
      refine ⟨by show 3 ≤ sizeLine; decide, fun t nt => ?_⟩
      walk_at "go"
      have s3 := same_new (o := HO.lst [.ref s, .ref m, .ref rr]) nt
      refine go_eqInts (.of (s3 _ _ (s2 _ _ upd_same))) (same_sqL ((s1.trans s2).trans s3) ha) ?_
      rw [decide_eq_true rfl]
      walk_at "go"
      refine ⟨by show 3 ≤ sizeLine; decide, fun u nu => ?_⟩
      have s4 := same_new (o := HO.tup [.str "read", .ref t, .bl true]) nu
      refine q1 r _ _ hr (((s1.trans s2).trans s3).trans s4) (.tup (.inl (.inl upd_same)) (.cons (.str _) (.cons (.lst (xs := [.ref s, .ref m, .ref rr]) (.of (s4 _ _ upd_same)) ?_) (.cons (.bl _) .nil))))
      exact .cons (dp_same (s3.trans s4) _ _ h1) (.cons (dp_same (s3.trans s4) _ _ h2) (.cons (dp_same (s3.trans s4) _ _ h3) .nil))
    · refine we_as T.te_BadCode fun y hy => ?_
      walk_at "go"
      refine ⟨rfl, rfl, _, _, _, rfl, hd, rfl, ?_⟩
      walk_at "go"
      refine go_isX hd T.xd_BadCode (.cls T.ki_ge) ?_
      walk_at "go"
      refine ⟨by show 3 ≤ sizeLine; decide, fun t nt => ?_⟩
      exact q2 e _ _ hr ((s1.trans s2).trans (same_new nt)) (.tup (.inl (.inl upd_same)) (.cons (.str _) (.cons (.int _) (.cons (.bl _) .nil))))
end
end K79

namespace K79
open PySem PySem.Spec PyProof.Rows L2 Gx
section
variable {P : Program} {w : World} {K : PySem.W.Frag} {mg : Str → Option Value} {base : Heap} {A : Ad}
def sp_law (K : PySem.W.Frag) : Sp := fun vs H Q _ => ∃ (a : Addr) (ns : List Int), vs = [.ref a] ∧ SqL K H a (ns.map V.int) ∧ ns.length ≤ 63 ∧ ∀ H', Q (.bl true) H'
theorem G_law (T : Txt P K mg A) : FnOk P w K mg base CX0 8 A.f_law A.d_law ["_law_script"] (sp_law K) := by
  refine (T.F_law.ok (k := 7) sc_law (fun vs H Q E h => ?_) (fun cdv Ar outer s H vs Q E hr h => ?_))
  · obtain ⟨a, ns, rfl, _⟩ := h
    rfl
  · obtain ⟨a, ns, rfl, hs, hl, q⟩ := h
    have cl := T.cl_Program
    have na_sizes := T.na_Program_sizes
    have na_moves := T.na_Program_moves
    have na_rounds := T.na_Program_rounds

    refine ⟨_, (pss_cons (ps_set (i := 1) sc_law.nd rfl (Or.inl rfl) (pe_call (G__law_pool T) (hr.mono (by decide)) rfl T.m__law_pool T.F__law_pool.kp T.b__law_pool .nil pass0 (pa_cons (pv 0) (pa_cons pe_int pa_nil))))
      (pss_cons (ps_set (i := 2) sc_law.nd rfl (Or.inl rfl) (pe_call (G__law_row T) (hr.mono (by decide)) rfl T.m__law_row T.F__law_row.kp T.b__law_row .nil pass0 (pa_cons (pv 1) pa_nil)))
      (pss_cons (ps_set (i := 3) sc_law.nd rfl (Or.inl rfl) (pe_call (G__law_numbers T) (hr.mono (by decide)) rfl T.m__law_numbers T.F__law_numbers.kp T.b__law_numbers .nil pass0 (pa_cons (pv 2) pa_nil)))
      (pss_cons (ps_setLc (i := 4) (own := [("_law_place", 7)]) (g := gName 7) (tt := tYes) rfl sc_law.nd rfl rfl (sw_true rfl rfl rfl (by decide +kernel)) (pi_list (pv 3)) (blkOk_by (N := ["_law_script", "_law_pool_here", "_law_row_here", "_law_rows", "_law_numbers_here", "_law_made", "_law_size", "_law_place", "_law_wrong", "_law_spoilt_here", "_law_code"]) (sc := defScope s_law) (by decide +kernel)) (fun _ _ _ _ _ => (pg_name (i := 7) sc_law.nd rfl (Or.inl rfl))) (fun _ _ _ _ _ => by exact pts_nil) (fun _ _ _ _ _ => by exact (pe_ix (ix_tupK (K := K) rfl) (pv 7) pe_int (fun _ _ => rfl))))
      (pss_cons (ps_set (i := 5) sc_law.nd rfl (Or.inl rfl) (pe_make T.mk_Program (G_Program___init__ T) (hr.mono (by decide)) rfl T.m_Program T.b_Program___init__ .nil pass0 (pa_cons (pe_callTy k_list_of (by rfl) T.n_list (by decide +kernel) (pa_cons (pe_ix ix_tup (pv 2) pe_int (fun _ _ => rfl)) pa_nil)) (pa_cons (pe_callTy k_list_of (by rfl) T.n_list (by decide +kernel) (pa_cons (pe_ix ix_tup (pv 2) pe_int (fun _ _ => rfl)) pa_nil)) (pa_cons (pe_lc (own := [("_law_code", 10)]) (g := gName 10) (tt := tYes) rfl sc_law.nd (pi_tup (pe_ix ix_tup (pv 2) pe_int (fun _ _ => rfl))) (blkOk_by (N := ["_law_script", "_law_pool_here", "_law_row_here", "_law_rows", "_law_numbers_here", "_law_made", "_law_size", "_law_place", "_law_wrong", "_law_spoilt_here", "_law_code"]) (sc := defScope s_law) (by decide +kernel)) (fun _ _ _ _ _ => (pg_name (i := 10) sc_law.nd rfl (Or.inl rfl))) (fun _ _ _ _ _ => by exact pts_nil) (fun _ _ _ _ _ => by exact (pe_callTy (k_list_ofK (K := K) rfl) (by rfl) T.n_list (by decide +kernel) (pa_cons (pv 10) pa_nil)))) pa_nil)))))
      (pss_cons (ps_if (pt_not (pt_val (pe_call (R__law_same T 6) (hr.mono (by decide)) rfl T.m__law_same T.F__law_same.kp T.b__law_same .nil pass0 (pa_cons (pe_lst (pa_cons (pe_fld (pv 5) rfl) (pa_cons (pe_fld (pv 5) rfl) (pa_cons (pe_fld (pv 5) rfl) pa_nil)))) (pa_cons (pe_callTy k_list_of (by rfl) T.n_list (by decide +kernel) (pa_cons (pv 2) pa_nil)) pa_nil)))))
        (pss_one (ps_ret pe_bl))
        pss_nil)
      (pss_cons (ps_if (PW.pt (pw_or (pt_not (pt_val (pe_call (R__law_same T 6) (hr.mono (by decide)) rfl T.m__law_same T.F__law_same.kp T.b__law_same .nil pass0 (pa_cons (pe_call (G_program_numbers T) (hr.mono (by decide)) rfl T.m_program_numbers T.F_program_numbers.kp T.b_program_numbers .nil pass0 (pa_cons (pv 5) pa_nil)) (pa_cons (pv 4) pa_nil))))) (pw_or1 (pt_not (pt_val (pe_call (R__law_same T 6) (hr.mono (by decide)) rfl T.m__law_same T.F__law_same.kp T.b__law_same .nil pass0 (pa_cons (pe_cmpR (op_ownCmp (op := .Eq) (fun _ _ => rfl) T.nf_Program T.me_Program___eq__.at_ T.me_Program___eq__.fn (G_Program___eq__ T) (hr.mono (by decide)) T.b_Program___eq__ pass0) (pe_call (G_read_program T) (hr.mono (by decide)) rfl T.m_read_program T.F_read_program.kp T.b_read_program .nil passL (pa_cons (pe_callTy k_list_of (by rfl) T.n_list (by decide +kernel) (pa_cons (pv 4) pa_nil)) pa_nil)) (pv 5) (nomark _)) (pa_cons pe_bl pa_nil))))))))
        (pss_one (ps_ret pe_bl))
        pss_nil)
      (pss_cons (ps_if (pt_not (pt_val (pe_call (R__law_same T 6) (hr.mono (by decide)) rfl T.m__law_same T.F__law_same.kp T.b__law_same .nil pass0 (pa_cons (pe_call (G__law_read T) (hr.mono (by decide)) rfl T.m__law_read T.F__law_read.kp T.b__law_read .nil pass0 (pa_cons (pv 4) pa_nil)) (pa_cons (pe_tup (pa_cons pe_str (pa_cons (pe_callTy k_list_of (by rfl) T.n_list (by decide +kernel) (pa_cons (pv 2) pa_nil)) (pa_cons pe_bl pa_nil)))) pa_nil)))))
        (pss_one (ps_ret pe_bl))
        pss_nil)
      (pss_cons (ps_set (i := 6) sc_law.nd rfl (Or.inl rfl) (pe_call (G__law_draw T) (hr.mono (by decide)) rfl T.m__law_draw T.F__law_draw.kp T.b__law_draw .nil pass0 (pa_cons (pv 1) (pa_cons (pe_callB k_len (by rfl) T.n_len (by decide +kernel) (pa_cons (pv 4) pa_nil)) pa_nil))))
      (pss_cons (ps_if (pt_not (pt_val (pe_call (R__law_same T 6) (hr.mono (by decide)) rfl T.m__law_same T.F__law_same.kp T.b__law_same .nil pass0 (pa_cons (pe_call (G__law_read T) (hr.mono (by decide)) rfl T.m__law_read T.F__law_read.kp T.b__law_read .nil pass0 (pa_cons (pe_slice sl_list (pv 4) po_none (po_some (pv 6))) pa_nil)) (pa_cons (pe_tup (pa_cons pe_str (pa_cons (pv 6) (pa_cons pe_bl pa_nil)))) pa_nil)))))
        (pss_one (ps_ret pe_bl))
        pss_nil)
      (pss_cons (ps_if (pt_not (pt_val (pe_call (R__law_same T 6) (hr.mono (by decide)) rfl T.m__law_same T.F__law_same.kp T.b__law_same .nil pass0 (pa_cons (pe_call (G__law_read T) (hr.mono (by decide)) rfl T.m__law_read T.F__law_read.kp T.b__law_read .nil pass0 (pa_cons (pe_op op_cat (pv 4) (pe_lst (pa_cons (pe_call (G__law_number T) (hr.mono (by decide)) rfl T.m__law_number T.F__law_number.kp T.b__law_number .nil pass0 (pa_cons (pv 1) pa_nil)) pa_nil))) pa_nil)) (pa_cons (pe_tup (pa_cons pe_str (pa_cons (pe_callB k_len (by rfl) T.n_len (by decide +kernel) (pa_cons (pv 4) pa_nil)) (pa_cons pe_bl pa_nil)))) pa_nil)))))
        (pss_one (ps_ret pe_bl))
        pss_nil)
      (pss_cons (ps_set (i := 7) sc_law.nd rfl (Or.inl rfl) (pe_call (G__law_draw T) (hr.mono (by decide)) rfl T.m__law_draw T.F__law_draw.kp T.b__law_draw .nil pass0 (pa_cons (pv 1) (pa_cons (pe_callB k_len (by rfl) T.n_len (by decide +kernel) (pa_cons (pv 4) pa_nil)) pa_nil))))
      (pss_cons (ps_set (i := 8) sc_law.nd rfl (Or.inl rfl) (pe_ix ix_tup (pe_tup (pa_cons (pe_op op_sub (pe_ix ix_tup (pe_ix ix_list (pv 3) (pv 7) (fun _ _ => rfl)) pe_int (fun _ _ => rfl)) pe_int) (pa_cons (pe_op op_add (pe_ix ix_tup (pe_ix ix_list (pv 3) (pv 7) (fun _ _ => rfl)) pe_int (fun _ _ => rfl)) pe_int) (pa_cons pe_int (pa_cons (pe_un un_neg pe_int) pa_nil))))) (pe_call (G__law_draw T) (hr.mono (by decide)) rfl T.m__law_draw T.F__law_draw.kp T.b__law_draw .nil pass0 (pa_cons (pv 1) (pa_cons pe_int pa_nil))) (fun _ _ => rfl)))
      (pss_cons (ps_set (i := 9) sc_law.nd rfl (Or.inl rfl) (pe_op op_cat (pe_op op_cat (pe_slice sl_list (pv 4) po_none (po_some (pv 7))) (pe_lst (pa_cons (pv 8) pa_nil))) (pe_slice sl_list (pv 4) (po_some (pe_op op_add (pv 7) pe_int)) po_none)))
      (pss_one (ps_ret (pe_call (R__law_same T 6) (hr.mono (by decide)) rfl T.m__law_same T.F__law_same.kp T.b__law_same .nil pass0 (pa_cons (pe_call (G__law_read T) (hr.mono (by decide)) rfl T.m__law_read T.F__law_read.kp T.b__law_read .nil pass0 (pa_cons (pv 9) pa_nil)) (pa_cons (pe_tup (pa_cons pe_str (pa_cons (pv 7) (pa_cons pe_bl pa_nil)))) pa_nil))))))))))))))))))), ?_⟩
    try dsimp only [cxOf, Cx.nox, Cx.wish]
    walk_at "go"
    refine ⟨a, ns, 0, rfl, hs, by omega, fun p H1 _ _ _ s1 hp => ?_⟩
    walk_at "go"
    refine ⟨p, 0, rfl, hp, fun v r H2 hok t2 hv => ?_⟩
    obtain ⟨va, vx, rfl, va1, va2⟩ := dp_tup hv
    walk_at "go"
    refine ⟨.ref va, r, rfl, hv, hok, fun L ys H3 nL s3 eL dL => ?_⟩
    have ly : ys.length = (rowsOf r).length := by rw [dpAll_len dL, List.length_map]
    have lN : (numsOf r).length = (rowsOf r).length := List.length_map ..
    obtain ⟨lR, lR0⟩ := rows_len hok
    walk_at "go"
    refine lcLW ys (.of eL) fun D hD => ?_
    refine ⟨fun i H' => H' D = some (.lst (((numsOf r).take i).map V.int)) ∧ Same H3 H', ⟨upd_same, same_new hD⟩, fun i H' h => .of (h.2 _ _ eL), ?_, ?_⟩
    · rintro i x H' hx ⟨eD, s⟩
      have hi : i < (rowsOf r).length := by
        have := (List.getElem?_eq_some_iff.mp hx).1
        omega
      have er := List.getElem?_eq_getElem hi
      generalize (rowsOf r)[i] = z at er
      obtain ⟨w, ew, dw⟩ := dpAll_get (dpAll_same s _ _ dL) (i := i) (d := rwD z) (by rw [List.getElem?_map, er]; rfl)
      rw [hx] at ew
      cases ew
      obtain ⟨pa, px, rfl, ep, dp⟩ := dp_tup dw
      obtain ⟨z1, z2, z3, rfl, dz1, dz2, dz3⟩ := dp3 dp
      cases dpI dz1
      refine go_name ⟨rfl, ?_⟩
      refine go_yes ?_
      refine iteT ?_
      walk_at "go"
      refine ⟨_, eD, szlt (by rw [List.length_map]; have := List.length_take_le' i (numsOf r); omega), ?_, same_mut s hD⟩
      have en : (numsOf r)[i]? = some z.1 := by unfold numsOf; rw [List.getElem?_map, er]; rfl
      rw [upd_same, take_snoc en, List.map_append]
      rfl
    rintro H4 ⟨eD, s4⟩
    rw [ly, ← lN, List.take_length] at eD
    have t4 := (t2.same s3).same s4
    have hv4 := dp_same (s3.trans s4) _ _ hv
    walk_at "go"
    have va4 := same_sqT (s3.trans s4) va1
    obtain ⟨y1, y2, y3, rfl, h1, h2, h3⟩ := dp3 va2
    obtain ⟨sa, sx, rfl, hs1, hs2⟩ := dp_tup h1
    obtain ⟨ma, mx, rfl, hm1, hm2⟩ := dp_tup h2
    obtain ⟨ra, rx, rfl, hr3, hr4⟩ := dp_tup h3
    have s24 := s3.trans s4
    walk_at "go"
    refine go_listOfT (same_sqT s24 hs1) fun l1 n1 => ?_
    have u1 := same_new (o := HO.lst sx) n1
    have e1 : upd H4 l1 (.lst sx) l1 = some (.lst sx) := upd_same
    generalize upd H4 l1 (.lst sx) = H5 at *
    walk_at "go"
    have va5 := same_sqT u1 va4
    walk_at "go"
    refine go_listOfT (same_sqT (s24.trans u1) hm1) fun l2 n2 => ?_
    have u2 := same_new (o := HO.lst mx) n2
    have e2 : upd H5 l2 (.lst mx) l2 = some (.lst mx) := upd_same
    generalize upd H5 l2 (.lst mx) = H6 at *
    walk_at "go"
    have va6 := same_sqT u2 va5
    walk_at "go"
    have s26 := (s24.trans u1).trans u2
    refine lcTW rx (same_sqT s26 hr3) fun G hG => ?_
    have lr : rx.length = r.rs.length := by rw [dpAll_len hr4, List.length_map]
    refine ⟨fun i H' => Same H6 H' ∧ ∃ zs : List V, H' G = some (.lst zs) ∧ zs.length = i ∧ (∀ (k : Nat) c, k < i → r.rs[k]? = some c → ∃ b xs, zs[k]? = some (.ref b) ∧ b ≠ G ∧ H' b = some (.lst xs) ∧ DpAll K H' xs (c.map pD)), ⟨same_new hG, [], upd_same, rfl, fun k c h => absurd h (Nat.not_lt_zero k)⟩, fun i H' h => same_sqT (s26.trans h.1) hr3, ?_, ?_⟩
    · rintro i x H' hx ⟨s, zs, eG, hz, hall⟩
      have hi : i < r.rs.length := by
        have := (List.getElem?_eq_some_iff.mp hx).1
        omega
      have er := List.getElem?_eq_getElem hi
      generalize r.rs[i] = c at er
      obtain ⟨w, ew, dw⟩ := dpAll_get (dpAll_same (s26.trans s) _ _ hr4) (i := i) (d := cD c) (by rw [List.getElem?_map, er]; rfl)
      rw [hx] at ew
      cases ew
      obtain ⟨ca, cx, rfl, ec, dc⟩ := dp_tup dw
      refine go_name ⟨rfl, ?_⟩
      refine go_yes ?_
      refine iteT ?_
      walk_at "go"
      refine go_listOfT ec fun b nb => ?_
      have ub := same_new (o := HO.lst cx) nb
      have eG2 := ub _ _ eG
      have bG : b ≠ G := fun z => by rw [z, eG] at nb; cases nb
      refine ⟨zs, eG2, szlt (by have := hok.r1; omega), same_mut (s.trans ub) hG, zs ++ [.ref b], upd_same, by simp [hz], fun k c' hk hc' => ?_⟩
      rcases Nat.lt_or_ge k i with z | z
      · obtain ⟨b', xs, f1, f2, f3, f4⟩ := hall k c' z hc'
        exact ⟨b', xs, by rw [List.getElem?_append_left (by omega)]; exact f1, f2, by rw [upd_ne f2]; exact ub _ _ f3, dpAll_put eG2 _ _ (noL_map pg_noL c') (dpAll_same ub _ _ f4)⟩
      · obtain rfl : k = i := by omega
        rw [er] at hc'
        cases hc'
        exact ⟨b, cx, by rw [List.getElem?_append_right (by omega), hz, Nat.sub_self]; rfl, bG, by rw [upd_ne bG]; exact upd_same, dpAll_put eG2 _ _ (noL_map pg_noL c) (dpAll_same ub _ _ dc)⟩
    rintro H7 ⟨s7, zs, eG, hz, hall⟩
    walk_at "go"
    intro x dx hx hdx hne
    have s8 : Same H7 (upd (upd H7 dx (.own x)) x (.ins A.c_Program dx [])) := (same_new hdx).trans (same_new (by rw [upd_ne hne.symm]; exact hx))
    have s28 := (s26.trans s7).trans s8
    refine ⟨x, dx, .ref l1, .ref l2, .ref G, r, rfl, upd_same, .lst (.of (((u2.trans s7).trans s8) _ _ e1)) (dpAll_same s28 _ _ hs2), .lst (.of ((s7.trans s8) _ _ e2)) (dpAll_same s28 _ _ hm2), dp_same s8 _ _ (.lst (.of eG) (dpAll_of (by rw [hz, lr, List.length_map]) fun k d hd => ?_)), by have := hok.r1; omega, fun H9 hp9 b9 => ⟨rfl, ?_⟩⟩
    · rw [List.getElem?_map] at hd
      cases e : r.rs[k]? with
      | none => rw [e] at hd; cases hd
      | some c =>
        rw [e] at hd
        cases hd
        obtain ⟨b, xs, f1, f2, f3, f4⟩ := hall k c (by have := (List.getElem?_eq_some_iff.mp e).1; omega) e
        exact ⟨_, f1, .lst (.of f3) f4⟩
    have s19 := same_butF ((s24.trans u1).trans (u2.trans (s7.trans s8))) (by
      cases z : H2 x with
      | none => rfl
      | some o => rw [(s26.trans s7) _ _ z] at hx; cases hx) b9
    have t9 := t2.same s19
    have s49 := same_butF (((u1.trans u2).trans s7).trans s8) (by
      cases z : H4 x with
      | none => rfl
      | some o => rw [((u1.trans u2).trans s7) _ _ z] at hx; cases hx) b9
    have eD9 := s49 _ _ eD
    have eL9 := s49 _ _ (s4 _ _ eL)
    have dL9 := dpAll_same (s4.trans s49) _ _ dL
    have hv9 := dp_same s19 _ _ hv
    have va9 := same_sqT s19 va1
    obtain ⟨dx9, o1, o2, o3, ox9, g1, g2, g3⟩ := hp9.ob
    have small3 : small (.list [ssD r, msD r, rsD r]) = true := small_row hok
    walk_at "go"
    refine ⟨by show 3 ≤ sizeLine; decide, fun w1 nw1 => ?_⟩
    walk_at "go"
    have v1 := same_new (o := HO.lst [.ref o1, .ref o2, .ref o3]) nw1
    refine go_listOfT (same_sqT v1 va9) fun w2 nw2 => ?_
    walk_at "go"
    have v2 := same_new (o := HO.lst [V.ref sa, .ref ma, .ref ra]) nw2
    have dd1 : Dp K (upd (upd H9 w1 (.lst [.ref o1, .ref o2, .ref o3])) w2 (.lst [V.ref sa, .ref ma, .ref ra])) (.ref w1) (.list [ssD r, msD r, rsD r]) := dp_same v2 _ _ (.lst (.of upd_same) (.cons (dp_same v1 _ _ g1) (.cons (dp_same v1 _ _ g2) (.cons (dp_same v1 _ _ g3) .nil))))
    have dd2 : Dp K (upd (upd H9 w1 (.lst [.ref o1, .ref o2, .ref o3])) w2 (.lst [V.ref sa, .ref ma, .ref ra])) (.ref w2) (.list [ssD r, msD r, rsD r]) := .lst (.of upd_same) (dpAll_same ((s19.trans v1).trans v2) _ _ (.cons h1 (.cons h2 (.cons h3 .nil))))
    refine ⟨_, _, rfl, eqd_of 5 _ _ _ (deep_row r) small3 dd1 dd2, ?_⟩
    walk_at "go"
    have s10 := v1.trans v2
    generalize upd (upd H9 w1 (.lst [.ref o1, .ref o2, .ref o3])) w2 (.lst [V.ref sa, .ref ma, .ref ra]) = H10 at *
    have hp10 := hp9.same s10
    refine ⟨x, r, rfl, hp10, hok, fun N H11 nN s11 eN => ?_⟩
    walk_at "go"
    refine ⟨_, _, rfl, eqd_of 5 (.list ((numsOf r).map .int)) _ _ (deep_ints _) (small_ints (by omega)) (.lst (.of eN) (dp_ints _)) (.lst (.of ((s10.trans s11) _ _ eD9)) (dp_ints _)), ?_⟩
    walk_at "go"
    refine go_listOfL (.of ((s10.trans s11) _ _ eD9)) fun w3 nw3 => ?_
    walk_at "go"
    have v3 := same_new (o := HO.lst ((numsOf r).map V.int)) nw3
    refine ⟨w3, _, rfl, .of upd_same, by omega, fun y r' H12 hr' s12 hy => ?_, fun e d H' he => by rw [read_ok hok] at he; cases he⟩
    rw [read_ok hok] at hr'
    cases hr'
    have sx := (s11.trans v3).trans s12
    walk_at "go"
    have hp12 := hp10.same sx
    obtain ⟨dy, q1, q2, q3, oy, _⟩ := hy.ob
    obtain ⟨dx12, p1, p2, p3, ox12, _⟩ := hp12.ob
    refine go_own oy ox12 ?_
    refine ⟨y, x, r, rfl, hy, hp12, shaped_ss hok, shaped_ms hok, shaped_rs hok, ?_⟩
    walk_at "go"
    refine ⟨_, _, rfl, .bl _, ?_⟩
    have s912 := s10.trans sx
    have t12 := t9.same s912
    have eD12 := s912 _ _ eD9
    have eL12 := s912 _ _ eL9
    have dL12 := dpAll_same s912 _ _ dL9
    have hv12 := dp_same s912 _ _ hv9
    have va12 := same_sqT s912 va9
    have nDp := hp
    walk_at "go"
    refine ⟨D, _, rfl, .of eD12, by omega, fun r' v H13 hr' s13 dv => ?_, fun e v H' he => by rw [read_ok hok] at he; cases he⟩
    rw [read_ok hok] at hr'
    cases hr'
    have va13 := same_sqT s13 va12
    walk_at "go"
    refine go_listOfT va13 fun w4 nw4 => ?_
    walk_at "go"
    have v4 := same_new (o := HO.lst [V.ref sa, .ref ma, .ref ra]) nw4
    refine ⟨by show 3 ≤ sizeLine; decide, fun w5 nw5 => ?_⟩
    walk_at "go"
    have v5 := same_new (o := HO.tup [.str "read", .ref w4, .bl true]) nw5
    have s1213 := s13.trans (v4.trans v5)
    refine ⟨_, _, rfl, eqd_of 5 (.tuple [.str "read", .list [ssD r, msD r, rsD r], .bool true]) _ _ (deep_read r) (small_read hok) (dp_same (v4.trans v5) _ _ dv) (.tup (.inl (.inl upd_same)) (.cons (.str _) (.cons (.lst (.of (v5 _ _ upd_same)) (dpAll_same ((s19.trans s912).trans s1213) _ _ (.cons h1 (.cons h2 (.cons h3 .nil))))) (.cons (.bl _) .nil)))), ?_⟩
    walk_at "go"
    have t14 := t12.same s1213
    have eD14 := s1213 _ _ eD12
    have eL14 := s1213 _ _ eL12
    have dL14 := dpAll_same s1213 _ _ dL12
    generalize upd (upd H13 w4 (.lst [V.ref sa, .ref ma, .ref ra])) w5 (.tup [.str "read", .ref w4, .bl true]) = H14 at *
    have nDa : D ≠ p.a := (t2.same s3).pool.nea hD
    have nLa : L ≠ p.a := t2.pool.nea nL
    refine go_lenL (.of eD14) ?_
    rw [List.length_map]
    walk_at "go"
    refine ⟨p, 0, _, rfl, t14.pool, by omega, by omega, fun k H15 k0 k1 t15 => ?_⟩
    obtain ⟨k, rfl⟩ : ∃ n : Nat, k = (n : Int) := ⟨k.toNat, by omega⟩
    have eD15 := t15.but _ _ nDa eD14
    have eL15 := t15.but _ _ nLa eL14
    have dL15 := dpAll_but (l := p.a) t14.pool.there.choose_spec t15.but _ _ (noL_map noL_rw _) dL14
    walk_at "go"
    refine go_slL (.of eD15) fun w6 nw6 => ?_
    rw [cut_to, ← List.map_take]
    walk_at "go"
    have v6 := same_new (o := HO.lst (((numsOf r).take k).map V.int)) nw6
    refine ⟨w6, _, rfl, .of upd_same, by rw [List.length_take]; omega, (fun r' v H' hr' => by rw [read_pre hok (by omega)] at hr'; cases hr'), fun e v H16 he s16 dv => ?_⟩
    rw [read_pre hok (by omega)] at he
    cases he
    walk_at "go"
    refine ⟨by show 3 ≤ sizeLine; decide, fun w7 nw7 => ?_⟩
    walk_at "go"
    have v7 := same_new (o := HO.tup [.str "refused", .int (k : Nat), .bl true]) nw7
    refine ⟨_, _, rfl, eqd_of 5 (.tuple [.str "refused", .int (k : Nat), .bool true]) _ _ (deep_ref _) (small_ref _) (dp_same v7 _ _ dv) (.tup (.inl (.inl upd_same)) (.cons (.str _) (.cons (.int _) (.cons (.bl _) .nil)))), ?_⟩
    walk_at "go"
    have s17 := (v6.trans s16).trans v7
    have t17 := t15.same s17
    have eD17 := s17 _ _ eD15
    have eL17 := s17 _ _ eL15
    have dL17 := dpAll_same s17 _ _ dL15
    generalize upd H16 w7 (.tup [.str "refused", .int (k : Nat), .bl true]) = H17 at *
    refine ⟨p, 0, rfl, t17.pool, fun m H18 m0 m1 t18 => ?_⟩
    have eD18 := t18.but _ _ nDa eD17
    have eL18 := t18.but _ _ nLa eL17
    have dL18 := dpAll_but (l := p.a) t17.pool.there.choose_spec t18.but _ _ (noL_map noL_rw _) dL17
    walk_at "go"
    refine ⟨by show 1 ≤ sizeLine; decide, fun w8 nw8 => ?_⟩
    walk_at "go"
    have v8 := same_new (o := HO.lst [.int m]) nw8
    refine go_cat (v8 _ _ eD18) upd_same (sz (by rw [List.length_map]; show _ + 1 ≤ _; omega)) fun w9 nw9 => ?_
    rw [show (numsOf r).map V.int ++ [V.int m] = (numsOf r ++ [m]).map V.int by rw [List.map_append]; rfl]
    walk_at "go"
    have v9 := same_new (o := HO.lst ((numsOf r ++ [m]).map V.int)) nw9
    refine ⟨w9, _, rfl, .of upd_same, by rw [List.length_append]; show _ + 1 ≤ _; omega, (fun r' v H' hr' => by rw [read_more hok m] at hr'; cases hr'), fun e v H19 he s19' dv => ?_⟩
    rw [read_more hok m] at he
    cases he
    have s189 := (v8.trans v9).trans s19'
    walk_at "go"
    refine go_lenL (.of (s189 _ _ eD18)) ?_
    rw [List.length_map]
    walk_at "go"
    refine ⟨by show 3 ≤ sizeLine; decide, fun w10 nw10 => ?_⟩
    walk_at "go"
    have v10 := same_new (o := HO.tup [.str "refused", .int ((numsOf r).length : Nat), .bl true]) nw10
    refine ⟨_, _, rfl, eqd_of 5 (.tuple [.str "refused", .int ((numsOf r).length : Nat), .bool true]) _ _ (deep_ref _) (small_ref _) (dp_same v10 _ _ dv) (.tup (.inl (.inl upd_same)) (.cons (.str _) (.cons (.int _) (.cons (.bl _) .nil)))), ?_⟩
    walk_at "go"
    have s20 := s189.trans v10
    have t20 := t18.same s20
    have eD20 := s20 _ _ eD18
    have eL20 := s20 _ _ eL18
    have dL20 := dpAll_same s20 _ _ dL18
    generalize upd H19 w10 (.tup [.str "refused", .int ((numsOf r).length : Nat), .bl true]) = H20 at *
    refine go_lenL (.of eD20) ?_
    rw [List.length_map]
    walk_at "go"
    refine ⟨p, 0, _, rfl, t20.pool, by omega, by omega, fun i H21 i0 i1 t21 => ?_⟩
    obtain ⟨i, rfl⟩ : ∃ n : Nat, i = (n : Int) := ⟨i.toNat, by omega⟩
    have eD21 := t21.but _ _ nDa eD20
    have eL21 := t21.but _ _ nLa eL20
    have dL21 := dpAll_but (l := p.a) t20.pool.there.choose_spec t21.but _ _ (noL_map noL_rw _) dL20
    have hi : i < (rowsOf r).length := by omega
    have er := List.getElem?_eq_getElem hi
    have hmem := List.getElem_mem hi
    generalize (rowsOf r)[i] = z at er hmem
    obtain ⟨w, ew, dw⟩ := dpAll_get dL21 (i := i) (d := rwD z) (by rw [List.getElem?_map, er]; rfl)
    obtain ⟨pa, px, rfl, ep, dp⟩ := dp_tup dw
    obtain ⟨z1, z2, z3, rfl, dz1, dz2, dz3⟩ := dp3 dp
    cases dpI dz1
    cases dpI dz2
    cases dpI dz3
    have hrange := row_range hmem
    walk_at "go"
    refine go_ixL (.of eL21) (at_nat ew) ?_
    walk_at "go"
    refine go_ixL (.of eL21) (at_nat ew) ?_
    walk_at "go"
    refine ⟨by show 4 ≤ sizeLine; decide, fun w11 nw11 => ?_⟩
    walk_at "go"
    have v11 := same_new (o := HO.tup [.int (z.2.1 - 1), .int (z.2.2 + 1), .int 65536, .int (-1)]) nw11
    refine ⟨p, 0, 4, rfl, t21.pool.new nw11, by decide, by decide, fun u H22 u0 u1 t22 => ?_⟩
    have e11 := t22.but _ _ (t21.pool.nea nw11) upd_same
    obtain ⟨wr, hwr, ewr⟩ : ∃ wr : Int, ¬ (z.2.1 ≤ wr ∧ wr ≤ z.2.2) ∧ atI [V.int (z.2.1 - 1), .int (z.2.2 + 1), .int 65536, .int (-1)] u = some (.int wr) := by
      obtain rfl | rfl | rfl | rfl : u = 0 ∨ u = 1 ∨ u = 2 ∨ u = 3 := by omega
      · exact ⟨z.2.1 - 1, by omega, rfl⟩
      · exact ⟨z.2.2 + 1, by omega, rfl⟩
      · exact ⟨65536, by omega, rfl⟩
      · exact ⟨-1, by omega, rfl⟩
    have eD22 := t22.but _ _ nDa (v11 _ _ eD21)
    walk_at "go"
    refine go_ixT (.inl (.inl e11)) ewr ?_
    walk_at "go"
    refine go_slL (.of eD22) fun x1 nx1 => ?_
    rw [cut_to, ← List.map_take]
    walk_at "go"
    have v12 := same_new (o := HO.lst (((numsOf r).take i).map V.int)) nx1
    refine ⟨by show 1 ≤ sizeLine; decide, fun x2 nx2 => ?_⟩
    walk_at "go"
    have v13 := same_new (o := HO.lst [.int wr]) nx2
    have ltk : ((numsOf r).take i).length ≤ 300 := by
      have := List.length_take_le' i (numsOf r)
      omega
    refine go_cat (v13 _ _ upd_same) upd_same (sz (by rw [List.length_map]; show _ + 1 ≤ _; omega)) fun x3 nx3 => ?_
    walk_at "go"
    have v14 := same_new (o := HO.lst (((numsOf r).take i).map V.int ++ [V.int wr])) nx3
    refine go_slL (.of (((v12.trans v13).trans v14) _ _ eD22)) fun x4 nx4 => ?_
    rw [show (i : Int) + 1 = ((i + 1 : Nat) : Int) from rfl, cut_from, ← List.map_drop]
    walk_at "go"
    have v15 := same_new (o := HO.lst (((numsOf r).drop (i + 1)).map V.int)) nx4
    refine go_cat (v15 _ _ upd_same) upd_same (sz (by rw [List.length_append, List.length_map, List.length_map, List.length_drop]; show _ + 1 + _ ≤ _; omega)) fun x5 nx5 => ?_
    rw [show ((numsOf r).take i).map V.int ++ [V.int wr] ++ ((numsOf r).drop (i + 1)).map V.int = ((numsOf r).take i ++ [wr] ++ (numsOf r).drop (i + 1)).map V.int by rw [List.map_append, List.map_append]; rfl]
    walk_at "go"
    have hset := read_set hok er hwr ((numsOf r).drop (i + 1))
    refine ⟨x5, _, rfl, .of upd_same, by rw [List.length_append, List.length_append, List.length_drop]; show _ + 1 + _ ≤ _; omega, (fun r' v H' hr' => by rw [hset] at hr'; cases hr'), fun e v H23 he s23 dv => ?_⟩
    rw [hset] at he
    cases he
    walk_at "go"
    refine ⟨by show 3 ≤ sizeLine; decide, fun w12 nw12 => ?_⟩
    walk_at "go"
    have v16 := same_new (o := HO.tup [.str "refused", .int (i : Nat), .bl true]) nw12
    refine ⟨_, _, rfl, eqd_of 5 (.tuple [.str "refused", .int (i : Nat), .bool true]) _ _ (deep_ref _) (small_ref _) (dp_same v16 _ _ dv) (.tup (.inl (.inl upd_same)) (.cons (.str _) (.cons (.int _) (.cons (.bl _) .nil)))), ?_⟩
    walk_at "go"
    exact q _
end
end K79

set_option pp.maxSteps 60
namespace K79
open PySem L2 Gx
theorem all_mk {P : Program} {w : World} {K : PySem.W.Frag} {h : Heap} {mg : Str → Option Value} {f_Program___init__ f_Program___eq__ f_program_numbers f_Numbers___init__ f_Numbers_take f_Numbers_take_code f_read_program f__law_pool f__law_draw f__law_few f__law_number f__law_same f__law_names_of_code f__law_row f__law_numbers f__law_read f_law c_Program c_Numbers c_BadCode i_BadCode c_GameError : Addr} (X : K.In h) (G : h.Ns mainGlobals mg) {fa : Addr} (hfa : mg "law" = some (.ref fa))
    {oc_Program___init__ kV_Program___init__ dc_Program___init__ pm_Program___init__ cd_Program___init__ ct_Program___init__ : Value} {od_Program___init__ an_Program___init__ : Option Addr} {sl_Program___init__ : Array (Option Value)}
    {oc_Program___eq__ kV_Program___eq__ dc_Program___eq__ pm_Program___eq__ cd_Program___eq__ ct_Program___eq__ : Value} {od_Program___eq__ an_Program___eq__ : Option Addr} {sl_Program___eq__ : Array (Option Value)}
    {oc_program_numbers kV_program_numbers dc_program_numbers pm_program_numbers cd_program_numbers ct_program_numbers : Value} {od_program_numbers an_program_numbers : Option Addr} {sl_program_numbers : Array (Option Value)}
    {oc_Numbers___init__ kV_Numbers___init__ dc_Numbers___init__ pm_Numbers___init__ cd_Numbers___init__ ct_Numbers___init__ : Value} {od_Numbers___init__ an_Numbers___init__ : Option Addr} {sl_Numbers___init__ : Array (Option Value)}
    {oc_Numbers_take kV_Numbers_take dc_Numbers_take pm_Numbers_take cd_Numbers_take ct_Numbers_take : Value} {od_Numbers_take an_Numbers_take : Option Addr} {sl_Numbers_take : Array (Option Value)}
    {oc_Numbers_take_code kV_Numbers_take_code dc_Numbers_take_code pm_Numbers_take_code cd_Numbers_take_code ct_Numbers_take_code : Value} {od_Numbers_take_code an_Numbers_take_code : Option Addr} {sl_Numbers_take_code : Array (Option Value)}
    {oc_read_program kV_read_program dc_read_program pm_read_program cd_read_program ct_read_program : Value} {od_read_program an_read_program : Option Addr} {sl_read_program : Array (Option Value)}
    {oc__law_pool kV__law_pool dc__law_pool pm__law_pool cd__law_pool ct__law_pool : Value} {od__law_pool an__law_pool : Option Addr} {sl__law_pool : Array (Option Value)}
    {oc__law_draw kV__law_draw dc__law_draw pm__law_draw cd__law_draw ct__law_draw : Value} {od__law_draw an__law_draw : Option Addr} {sl__law_draw : Array (Option Value)}
    {oc__law_few kV__law_few dc__law_few pm__law_few cd__law_few ct__law_few : Value} {od__law_few an__law_few : Option Addr} {sl__law_few : Array (Option Value)}
    {oc__law_number kV__law_number dc__law_number pm__law_number cd__law_number ct__law_number : Value} {od__law_number an__law_number : Option Addr} {sl__law_number : Array (Option Value)}
    {oc__law_same kV__law_same dc__law_same pm__law_same cd__law_same ct__law_same : Value} {od__law_same an__law_same : Option Addr} {sl__law_same : Array (Option Value)}
    {oc__law_names_of_code kV__law_names_of_code dc__law_names_of_code pm__law_names_of_code cd__law_names_of_code ct__law_names_of_code : Value} {od__law_names_of_code an__law_names_of_code : Option Addr} {sl__law_names_of_code : Array (Option Value)}
    {oc__law_row kV__law_row dc__law_row pm__law_row cd__law_row ct__law_row : Value} {od__law_row an__law_row : Option Addr} {sl__law_row : Array (Option Value)}
    {oc__law_numbers kV__law_numbers dc__law_numbers pm__law_numbers cd__law_numbers ct__law_numbers : Value} {od__law_numbers an__law_numbers : Option Addr} {sl__law_numbers : Array (Option Value)}
    {oc__law_read kV__law_read dc__law_read pm__law_read cd__law_read ct__law_read : Value} {od__law_read an__law_read : Option Addr} {sl__law_read : Array (Option Value)}
    {oc_law kV_law dc_law pm_law cd_law ct_law : Value} {od_law an_law : Option Addr} {sl_law : Array (Option Value)}
    {en_BadCode eq_BadCode : Str} {eN_BadCode eG_BadCode : Addr} {ebs_BadCode : List Value} {esn_BadCode : List Str} {esub_BadCode : List Value} {eab_BadCode : Bool} {ecol_BadCode : Option Bool} {edd_BadCode : Option Addr} {e0_BadCode e1_BadCode e2_BadCode e3_BadCode e5_BadCode : Option Value}
    {xoc_BadCode xdc_BadCode xpm_BadCode xct_BadCode xcl_BadCode xccl_BadCode : Value} {xod_BadCode xan_BadCode xcld_BadCode xcdd_BadCode : Option Addr} {xda_BadCode xcc_BadCode : Addr} {xos_BadCode xcs_BadCode xccs_BadCode : Array (Option Value)} {xvs_BadCode : Array Value} {xfi_BadCode : Str} {xtf_BadCode : Tok} {kk_GREATEST : Tok} {k_NAMES : Addr} {kn_NAMES : Nat} {ks_NAMES : Array (Option Value)} {kk0_NAMES kk1_NAMES kk2_NAMES kk3_NAMES kk4_NAMES kk5_NAMES kk6_NAMES kk7_NAMES kk8_NAMES kk9_NAMES kk10_NAMES kk11_NAMES kk12_NAMES kk13_NAMES kk14_NAMES kk15_NAMES : Tok} {kk_MOST_MOVES : Tok} {kk_MOST_BRANCHINGS : Tok} {kk_MOST_VARIABLES : Tok} {kk_MOST_ROUNDS : Tok}
    (C_Program : PySem.W.nsIn K mainGlobals "Program" = some (some (.ref c_Program)))
    (C_Numbers : PySem.W.nsIn K mainGlobals "Numbers" = some (some (.ref c_Numbers)))
    (g_Program___init__ : PySem.W.findIn K (.ref c_Program) "__init__" = some (some (.ref f_Program___init__)))
    (i_Program___init__ : PySem.W.isFn K (.ref f_Program___init__) = true)
    (l_Program___init__ : K.lookup f_Program___init__ = some ⟨oc_Program___init__, od_Program___init__, .func (PySem.W.fnOf "__init__" "Program.__init__" (defArgs s_Program___init__) (defBody s_Program___init__) (defScope s_Program___init__) .none kV_Program___init__ dc_Program___init__ pm_Program___init__ an_Program___init__ cd_Program___init__ ct_Program___init__), sl_Program___init__⟩)
    (c_Program___init___ : PySem.W.codeIn K cd_Program___init__ "Program.__init__" = true)
    (k_Program___init__ : PySem.W.keepIn K (.ref f_Program___init__) = true)
    (g_Program___eq__ : PySem.W.findIn K (.ref c_Program) "__eq__" = some (some (.ref f_Program___eq__)))
    (i_Program___eq__ : PySem.W.isFn K (.ref f_Program___eq__) = true)
    (l_Program___eq__ : K.lookup f_Program___eq__ = some ⟨oc_Program___eq__, od_Program___eq__, .func (PySem.W.fnOf "__eq__" "Program.__eq__" (defArgs s_Program___eq__) (defBody s_Program___eq__) (defScope s_Program___eq__) .none kV_Program___eq__ dc_Program___eq__ pm_Program___eq__ an_Program___eq__ cd_Program___eq__ ct_Program___eq__), sl_Program___eq__⟩)
    (c_Program___eq___ : PySem.W.codeIn K cd_Program___eq__ "Program.__eq__" = true)
    (k_Program___eq__ : PySem.W.keepIn K (.ref f_Program___eq__) = true)
    (g_program_numbers : PySem.W.nsIn K mainGlobals "program_numbers" = some (some (.ref f_program_numbers)))
    (i_program_numbers : PySem.W.isFn K (.ref f_program_numbers) = true)
    (l_program_numbers : K.lookup f_program_numbers = some ⟨oc_program_numbers, od_program_numbers, .func (PySem.W.fnOf "program_numbers" "program_numbers" (defArgs s_program_numbers) (defBody s_program_numbers) (defScope s_program_numbers) .none kV_program_numbers dc_program_numbers pm_program_numbers an_program_numbers cd_program_numbers ct_program_numbers), sl_program_numbers⟩)
    (c_program_numbers_ : PySem.W.codeIn K cd_program_numbers "program_numbers" = true)
    (k_program_numbers : PySem.W.keepIn K (.ref f_program_numbers) = true)
    (g_Numbers___init__ : PySem.W.findIn K (.ref c_Numbers) "__init__" = some (some (.ref f_Numbers___init__)))
    (i_Numbers___init__ : PySem.W.isFn K (.ref f_Numbers___init__) = true)
    (l_Numbers___init__ : K.lookup f_Numbers___init__ = some ⟨oc_Numbers___init__, od_Numbers___init__, .func (PySem.W.fnOf "__init__" "Numbers.__init__" (defArgs s_Numbers___init__) (defBody s_Numbers___init__) (defScope s_Numbers___init__) .none kV_Numbers___init__ dc_Numbers___init__ pm_Numbers___init__ an_Numbers___init__ cd_Numbers___init__ ct_Numbers___init__), sl_Numbers___init__⟩)
    (c_Numbers___init___ : PySem.W.codeIn K cd_Numbers___init__ "Numbers.__init__" = true)
    (k_Numbers___init__ : PySem.W.keepIn K (.ref f_Numbers___init__) = true)
    (g_Numbers_take : PySem.W.findIn K (.ref c_Numbers) "take" = some (some (.ref f_Numbers_take)))
    (i_Numbers_take : PySem.W.isFn K (.ref f_Numbers_take) = true)
    (l_Numbers_take : K.lookup f_Numbers_take = some ⟨oc_Numbers_take, od_Numbers_take, .func (PySem.W.fnOf "take" "Numbers.take" (defArgs s_Numbers_take) (defBody s_Numbers_take) (defScope s_Numbers_take) .none kV_Numbers_take dc_Numbers_take pm_Numbers_take an_Numbers_take cd_Numbers_take ct_Numbers_take), sl_Numbers_take⟩)
    (c_Numbers_take_ : PySem.W.codeIn K cd_Numbers_take "Numbers.take" = true)
    (k_Numbers_take : PySem.W.keepIn K (.ref f_Numbers_take) = true)
    (g_Numbers_take_code : PySem.W.findIn K (.ref c_Numbers) "take_code" = some (some (.ref f_Numbers_take_code)))
    (i_Numbers_take_code : PySem.W.isFn K (.ref f_Numbers_take_code) = true)
    (l_Numbers_take_code : K.lookup f_Numbers_take_code = some ⟨oc_Numbers_take_code, od_Numbers_take_code, .func (PySem.W.fnOf "take_code" "Numbers.take_code" (defArgs s_Numbers_take_code) (defBody s_Numbers_take_code) (defScope s_Numbers_take_code) .none kV_Numbers_take_code dc_Numbers_take_code pm_Numbers_take_code an_Numbers_take_code cd_Numbers_take_code ct_Numbers_take_code), sl_Numbers_take_code⟩)
    (c_Numbers_take_code_ : PySem.W.codeIn K cd_Numbers_take_code "Numbers.take_code" = true)
    (k_Numbers_take_code : PySem.W.keepIn K (.ref f_Numbers_take_code) = true)
    (g_read_program : PySem.W.nsIn K mainGlobals "read_program" = some (some (.ref f_read_program)))
    (i_read_program : PySem.W.isFn K (.ref f_read_program) = true)
    (l_read_program : K.lookup f_read_program = some ⟨oc_read_program, od_read_program, .func (PySem.W.fnOf "read_program" "read_program" (defArgs s_read_program) (defBody s_read_program) (defScope s_read_program) .none kV_read_program dc_read_program pm_read_program an_read_program cd_read_program ct_read_program), sl_read_program⟩)
    (c_read_program_ : PySem.W.codeIn K cd_read_program "read_program" = true)
    (k_read_program : PySem.W.keepIn K (.ref f_read_program) = true)
    (g__law_pool : PySem.W.nsIn K mainGlobals "_law_pool" = some (some (.ref f__law_pool)))
    (i__law_pool : PySem.W.isFn K (.ref f__law_pool) = true)
    (l__law_pool : K.lookup f__law_pool = some ⟨oc__law_pool, od__law_pool, .func (PySem.W.fnOf "_law_pool" "_law_pool" (defArgs s__law_pool) (defBody s__law_pool) (defScope s__law_pool) .none kV__law_pool dc__law_pool pm__law_pool an__law_pool cd__law_pool ct__law_pool), sl__law_pool⟩)
    (c__law_pool_ : PySem.W.codeIn K cd__law_pool "_law_pool" = true)
    (k__law_pool : PySem.W.keepIn K (.ref f__law_pool) = true)
    (g__law_draw : PySem.W.nsIn K mainGlobals "_law_draw" = some (some (.ref f__law_draw)))
    (i__law_draw : PySem.W.isFn K (.ref f__law_draw) = true)
    (l__law_draw : K.lookup f__law_draw = some ⟨oc__law_draw, od__law_draw, .func (PySem.W.fnOf "_law_draw" "_law_draw" (defArgs s__law_draw) (defBody s__law_draw) (defScope s__law_draw) .none kV__law_draw dc__law_draw pm__law_draw an__law_draw cd__law_draw ct__law_draw), sl__law_draw⟩)
    (c__law_draw_ : PySem.W.codeIn K cd__law_draw "_law_draw" = true)
    (k__law_draw : PySem.W.keepIn K (.ref f__law_draw) = true)
    (g__law_few : PySem.W.nsIn K mainGlobals "_law_few" = some (some (.ref f__law_few)))
    (i__law_few : PySem.W.isFn K (.ref f__law_few) = true)
    (l__law_few : K.lookup f__law_few = some ⟨oc__law_few, od__law_few, .func (PySem.W.fnOf "_law_few" "_law_few" (defArgs s__law_few) (defBody s__law_few) (defScope s__law_few) .none kV__law_few dc__law_few pm__law_few an__law_few cd__law_few ct__law_few), sl__law_few⟩)
    (c__law_few_ : PySem.W.codeIn K cd__law_few "_law_few" = true)
    (k__law_few : PySem.W.keepIn K (.ref f__law_few) = true)
    (g__law_number : PySem.W.nsIn K mainGlobals "_law_number" = some (some (.ref f__law_number)))
    (i__law_number : PySem.W.isFn K (.ref f__law_number) = true)
    (l__law_number : K.lookup f__law_number = some ⟨oc__law_number, od__law_number, .func (PySem.W.fnOf "_law_number" "_law_number" (defArgs s__law_number) (defBody s__law_number) (defScope s__law_number) .none kV__law_number dc__law_number pm__law_number an__law_number cd__law_number ct__law_number), sl__law_number⟩)
    (c__law_number_ : PySem.W.codeIn K cd__law_number "_law_number" = true)
    (k__law_number : PySem.W.keepIn K (.ref f__law_number) = true)
    (g__law_same : PySem.W.nsIn K mainGlobals "_law_same" = some (some (.ref f__law_same)))
    (i__law_same : PySem.W.isFn K (.ref f__law_same) = true)
    (l__law_same : K.lookup f__law_same = some ⟨oc__law_same, od__law_same, .func (PySem.W.fnOf "_law_same" "_law_same" (defArgs s__law_same) (defBody s__law_same) (defScope s__law_same) .none kV__law_same dc__law_same pm__law_same an__law_same cd__law_same ct__law_same), sl__law_same⟩)
    (c__law_same_ : PySem.W.codeIn K cd__law_same "_law_same" = true)
    (k__law_same : PySem.W.keepIn K (.ref f__law_same) = true)
    (g__law_names_of_code : PySem.W.nsIn K mainGlobals "_law_names_of_code" = some (some (.ref f__law_names_of_code)))
    (i__law_names_of_code : PySem.W.isFn K (.ref f__law_names_of_code) = true)
    (l__law_names_of_code : K.lookup f__law_names_of_code = some ⟨oc__law_names_of_code, od__law_names_of_code, .func (PySem.W.fnOf "_law_names_of_code" "_law_names_of_code" (defArgs s__law_names_of_code) (defBody s__law_names_of_code) (defScope s__law_names_of_code) .none kV__law_names_of_code dc__law_names_of_code pm__law_names_of_code an__law_names_of_code cd__law_names_of_code ct__law_names_of_code), sl__law_names_of_code⟩)
    (c__law_names_of_code_ : PySem.W.codeIn K cd__law_names_of_code "_law_names_of_code" = true)
    (k__law_names_of_code : PySem.W.keepIn K (.ref f__law_names_of_code) = true)
    (g__law_row : PySem.W.nsIn K mainGlobals "_law_row" = some (some (.ref f__law_row)))
    (i__law_row : PySem.W.isFn K (.ref f__law_row) = true)
    (l__law_row : K.lookup f__law_row = some ⟨oc__law_row, od__law_row, .func (PySem.W.fnOf "_law_row" "_law_row" (defArgs s__law_row) (defBody s__law_row) (defScope s__law_row) .none kV__law_row dc__law_row pm__law_row an__law_row cd__law_row ct__law_row), sl__law_row⟩)
    (c__law_row_ : PySem.W.codeIn K cd__law_row "_law_row" = true)
    (k__law_row : PySem.W.keepIn K (.ref f__law_row) = true)
    (g__law_numbers : PySem.W.nsIn K mainGlobals "_law_numbers" = some (some (.ref f__law_numbers)))
    (i__law_numbers : PySem.W.isFn K (.ref f__law_numbers) = true)
    (l__law_numbers : K.lookup f__law_numbers = some ⟨oc__law_numbers, od__law_numbers, .func (PySem.W.fnOf "_law_numbers" "_law_numbers" (defArgs s__law_numbers) (defBody s__law_numbers) (defScope s__law_numbers) .none kV__law_numbers dc__law_numbers pm__law_numbers an__law_numbers cd__law_numbers ct__law_numbers), sl__law_numbers⟩)
    (c__law_numbers_ : PySem.W.codeIn K cd__law_numbers "_law_numbers" = true)
    (k__law_numbers : PySem.W.keepIn K (.ref f__law_numbers) = true)
    (g__law_read : PySem.W.nsIn K mainGlobals "_law_read" = some (some (.ref f__law_read)))
    (i__law_read : PySem.W.isFn K (.ref f__law_read) = true)
    (l__law_read : K.lookup f__law_read = some ⟨oc__law_read, od__law_read, .func (PySem.W.fnOf "_law_read" "_law_read" (defArgs s__law_read) (defBody s__law_read) (defScope s__law_read) .none kV__law_read dc__law_read pm__law_read an__law_read cd__law_read ct__law_read), sl__law_read⟩)
    (c__law_read_ : PySem.W.codeIn K cd__law_read "_law_read" = true)
    (k__law_read : PySem.W.keepIn K (.ref f__law_read) = true)
    (g_law : PySem.W.nsIn K mainGlobals "law" = some (some (.ref f_law)))
    (i_law : PySem.W.isFn K (.ref f_law) = true)
    (l_law : K.lookup f_law = some ⟨oc_law, od_law, .func (PySem.W.fnOf "law" "law" (defArgs s_law) (defBody s_law) (defScope s_law) .none kV_law dc_law pm_law an_law cd_law ct_law), sl_law⟩)
    (c_law_ : PySem.W.codeIn K cd_law "law" = true)
    (k_law : PySem.W.keepIn K (.ref f_law) = true)
    (pg_Program : PySem.W.plainGet K c_Program Str.empty = true)
    (hd_Program : PySem.W.hasDictIn K c_Program = true)
    (po_Program : PySem.W.plainOver K c_Program = true)
    (sa_Program : PySem.W.findIn K (.ref c_Program) "__setattr__" = some (some (.builtin "object.__setattr__")))
    (mk_Program : PySem.W.makesIn K c_Program = true)
    (kc_Program : PySem.W.keepIn K (.ref c_Program) = true)
    (na_Program_sizes : PySem.W.findIn K (.ref c_Program) "sizes" = some none)
    (na_Program_moves : PySem.W.findIn K (.ref c_Program) "moves" = some none)
    (na_Program_rounds : PySem.W.findIn K (.ref c_Program) "rounds" = some none)
    (ha_Program : PySem.W.findIn K (.ref c_Program) "__class__" = some (some (.builtin "object.__class__")))
    (hn_Program : PySem.W.specialIn K (.builtin "object.__class__") "__get__" = some (some (.builtin "getset_descriptor.__get__")))
    (ht_Program : PySem.W.takesIn K (.builtin "object.__class__") = some true)
    (hm_Program : PySem.W.mroIn K c_Program (.type "object") = some true)
    (so_Program : PySem.W.selfFirst K c_Program = true)
    (nf_Program : PySem.W.notFirst K c_Program (.ref c_Program) = true)
    (pg_Numbers : PySem.W.plainGet K c_Numbers Str.empty = true)
    (hd_Numbers : PySem.W.hasDictIn K c_Numbers = true)
    (po_Numbers : PySem.W.plainOver K c_Numbers = true)
    (sa_Numbers : PySem.W.findIn K (.ref c_Numbers) "__setattr__" = some (some (.builtin "object.__setattr__")))
    (mk_Numbers : PySem.W.makesIn K c_Numbers = true)
    (kc_Numbers : PySem.W.keepIn K (.ref c_Numbers) = true)
    (na_Numbers_numbers : PySem.W.findIn K (.ref c_Numbers) "numbers" = some none)
    (na_Numbers_at : PySem.W.findIn K (.ref c_Numbers) "at" = some none)
    (Cx_BadCode : PySem.W.nsIn K mainGlobals "BadCode" = some (some (.ref c_BadCode)))
    (xL_BadCode : K.lookup c_BadCode = some (excClassObj en_BadCode eq_BadCode c_BadCode eN_BadCode ebs_BadCode [.ref eG_BadCode, .type "ValueError", .type "Exception", .type "BaseException", .type "object"] true esn_BadCode esub_BadCode eab_BadCode ecol_BadCode edd_BadCode e0_BadCode e1_BadCode e2_BadCode e3_BadCode e5_BadCode "ValueError.__new__"))
    (xsa_BadCode : PySem.W.findIn K (.ref c_BadCode) "__setattr__" = some (some (.builtin "object.__setattr__")))
    (xga_BadCode : PySem.W.findIn K (.ref c_BadCode) "__getattribute__" = some (some (.builtin "BaseException.__getattribute__")))
    (xgg_BadCode : PySem.W.findIn K (.ref c_BadCode) "__getattr__" = some none)
    (xhd_BadCode : PySem.W.hasDictIn K c_BadCode = true)
    (xno_BadCode : PySem.W.findIn K (.ref c_BadCode) "at" = some none)
    (xiC_BadCode : PySem.W.findIn K (.ref c_BadCode) "__init__" = some (some (.ref i_BadCode)))
    (xtC_BadCode : PySem.W.typeIn K (.ref i_BadCode) = some (.type "function"))
    (xkC_BadCode : PySem.W.keepIn K (.ref c_BadCode) = true)
    (xex_BadCode : PySem.W.subIn K (.ref c_BadCode) (.type "BaseException") = some true)
    (xty_BadCode : PySem.W.typeIn K (.ref c_BadCode) = some (.type "type"))
    (xop_BadCode : PySem.W.nsIn K cStatics "thirdparty.any" = some none)
    (ksx_BadCode : PySem.W.ks_superIn K c_BadCode c_BadCode "__init__" = some (some (.builtin "ValueError.__init__")))
    (xve_BadCode : PySem.W.subIn K (.ref c_BadCode) (.type "ValueError") = some true)
    (xmc_BadCode : PySem.W.mroIn K c_BadCode (.ref c_BadCode) = some true)
    (xsub_BadCode : PySem.W.subIn K (.ref c_BadCode) (.ref c_BadCode) = some true)
    (xsu_BadCode : PySem.W.nsIn K mainGlobals "super" = some none)
    (rflt_BadCode : (P.main.scope.names.lookup ("super" : Str)).isSome = false)
    (xl_BadCode : K.lookup i_BadCode = some ⟨xoc_BadCode, xod_BadCode, .func (PySem.W.ksFn "__init__" "BadCode.__init__" (defArgs (inClass (top 2) 0)) (defBody (inClass (top 2) 0)) (defScope (inClass (top 2) 0)) .none .none xdc_BadCode xpm_BadCode xan_BadCode (.ref xda_BadCode) xct_BadCode xcc_BadCode), xos_BadCode⟩)
    (xc_BadCode : PySem.W.codeIn K (.ref xda_BadCode) "BadCode.__init__" = true)
    (xda__BadCode : K.lookup xda_BadCode = some ⟨xccl_BadCode, xcdd_BadCode, .fields xvs_BadCode, xccs_BadCode⟩)
    (rflv_BadCode : xvs_BadCode[2]? = some (.str xfi_BadCode xtf_BadCode))
    (rflf_BadCode : ((P.main.file : Str) == xfi_BadCode) = true)
    (xicl_BadCode : PySem.W.isClsIn K c_BadCode = true)
    (xha_BadCode : PySem.W.findIn K (.ref c_BadCode) "__class__" = some (some (.builtin "object.__class__")))
    (xhn_BadCode : PySem.W.specialIn K (.builtin "object.__class__") "__get__" = some (some (.builtin "getset_descriptor.__get__")))
    (xht_BadCode : PySem.W.takesIn K (.builtin "object.__class__") = some true)
    (xhm_BadCode : PySem.W.mroIn K c_BadCode (.type "object") = some true)
    (xcc__BadCode : K.lookup xcc_BadCode = some ⟨xcl_BadCode, xcld_BadCode, .cell (some (.ref c_BadCode)), xcs_BadCode⟩)
    (Cx_GameError : PySem.W.nsIn K mainGlobals "GameError" = some (some (.ref c_GameError)))
    (ki_ge : PySem.W.kitOne K (.ref c_BadCode) (.ref c_GameError) = some true)
    (n_tuple : PySem.W.nsIn K mainGlobals "tuple" = some none)
    (n_isinstance : PySem.W.nsIn K mainGlobals "isinstance" = some none)
    (n_len : PySem.W.nsIn K mainGlobals "len" = some none)
    (n_list : PySem.W.nsIn K mainGlobals "list" = some none)
    (n_range : PySem.W.nsIn K mainGlobals "range" = some none)
    (n_int : PySem.W.nsIn K mainGlobals "int" = some none)
    (n_min : PySem.W.nsIn K mainGlobals "min" = some none)
    (n_bool : PySem.W.nsIn K mainGlobals "bool" = some none)
    (n_str : PySem.W.nsIn K mainGlobals "str" = some none)
    (cg_GREATEST : PySem.W.nsIn K mainGlobals "GREATEST" = some (some (.int 65535 kk_GREATEST)))
    (cg_NAMES : PySem.W.nsIn K mainGlobals "NAMES" = some (some (.ref k_NAMES)))
    (cl_k_NAMES : K.lookup k_NAMES = some ⟨.type "tuple", none, .seq #[.str "push" kk0_NAMES, .str "load" kk1_NAMES, .str "store" kk2_NAMES, .str "sign" kk3_NAMES, .str "jump" kk4_NAMES, .str "skip" kk5_NAMES, .str "lot" kk6_NAMES, .str "end" kk7_NAMES, .str "ask" kk8_NAMES, .str "show" kk9_NAMES, .str "pay" kk10_NAMES, .str "take" kk11_NAMES, .str "view" kk12_NAMES, .str "long" kk13_NAMES, .str "unit" kk14_NAMES, .str "back" kk15_NAMES] kn_NAMES, ks_NAMES⟩)
    (cg_MOST_MOVES : PySem.W.nsIn K mainGlobals "MOST_MOVES" = some (some (.int 8 kk_MOST_MOVES)))
    (cg_MOST_BRANCHINGS : PySem.W.nsIn K mainGlobals "MOST_BRANCHINGS" = some (some (.int 24 kk_MOST_BRANCHINGS)))
    (cg_MOST_VARIABLES : PySem.W.nsIn K mainGlobals "MOST_VARIABLES" = some (some (.int 12 kk_MOST_VARIABLES)))
    (cg_MOST_ROUNDS : PySem.W.nsIn K mainGlobals "MOST_ROUNDS" = some (some (.int 8 kk_MOST_ROUNDS))) :
    ∃ fd : FuncData, (∀ (s : Shared) (v : Value), BindsTo s fd ⟨[v], []⟩ [("_law_script", v)]) ∧ ∀ base : Heap, K.In base → base.Ns mainGlobals mg → FnOk P w K mg base CX0 8 fa fd ["_law_script"] (sp_law K) := by
  have e := hfa.symm.trans (PySem.W.mg_of X G g_law)
  cases e
  have F_Program___init__ := fun_mk (st := s_Program___init__) l_Program___init__ c_Program___init___ k_Program___init__
  have F_Program___eq__ := fun_mk (st := s_Program___eq__) l_Program___eq__ c_Program___eq___ k_Program___eq__
  have F_program_numbers := fun_mk (st := s_program_numbers) l_program_numbers c_program_numbers_ k_program_numbers
  have F_Numbers___init__ := fun_mk (st := s_Numbers___init__) l_Numbers___init__ c_Numbers___init___ k_Numbers___init__
  have F_Numbers_take := fun_mk (st := s_Numbers_take) l_Numbers_take c_Numbers_take_ k_Numbers_take
  have F_Numbers_take_code := fun_mk (st := s_Numbers_take_code) l_Numbers_take_code c_Numbers_take_code_ k_Numbers_take_code
  have F_read_program := fun_mk (st := s_read_program) l_read_program c_read_program_ k_read_program
  have F__law_pool := fun_mk (st := s__law_pool) l__law_pool c__law_pool_ k__law_pool
  have F__law_draw := fun_mk (st := s__law_draw) l__law_draw c__law_draw_ k__law_draw
  have F__law_few := fun_mk (st := s__law_few) l__law_few c__law_few_ k__law_few
  have F__law_number := fun_mk (st := s__law_number) l__law_number c__law_number_ k__law_number
  have F__law_same := fun_mk (st := s__law_same) l__law_same c__law_same_ k__law_same
  have F__law_names_of_code := fun_mk (st := s__law_names_of_code) l__law_names_of_code c__law_names_of_code_ k__law_names_of_code
  have F__law_row := fun_mk (st := s__law_row) l__law_row c__law_row_ k__law_row
  have F__law_numbers := fun_mk (st := s__law_numbers) l__law_numbers c__law_numbers_ k__law_numbers
  have F__law_read := fun_mk (st := s__law_read) l__law_read c__law_read_ k__law_read
  have F_law := fun_mk (st := s_law) l_law c_law_ k_law
  have T : Txt P K mg ⟨f_Program___init__, _, f_Program___eq__, _, f_program_numbers, _, f_Numbers___init__, _, f_Numbers_take, _, f_Numbers_take_code, _, f_read_program, _, f__law_pool, _, f__law_draw, _, f__law_few, _, f__law_number, _, f__law_same, _, f__law_names_of_code, _, f__law_row, _, f__law_numbers, _, f__law_read, _, f_law, _, c_Program, c_Numbers, c_BadCode, i_BadCode, c_GameError, k_NAMES⟩ := ⟨F_Program___init__,
    (F_Program___init__.binds (ps := ["self", "sizes", "moves", "rounds"]) fun _ _ _ _ _ _ us hl => match us, hl with | [_, _, _, _], _ => rfl),
    ⟨mk_Program, g_Program___init__, i_Program___init__, kc_Program⟩,
    F_Program___eq__,
    (F_Program___eq__.binds (ps := ["self", "other"]) fun _ _ _ _ _ _ us hl => match us, hl with | [_, _], _ => rfl),
    ⟨g_Program___eq__, i_Program___eq__, k_Program___eq__⟩,
    F_program_numbers,
    (F_program_numbers.binds (ps := ["program"]) fun _ _ _ _ _ _ us hl => match us, hl with | [_], _ => rfl),
    (PySem.W.mg_of X G g_program_numbers),
    F_Numbers___init__,
    (F_Numbers___init__.binds (ps := ["self", "numbers"]) fun _ _ _ _ _ _ us hl => match us, hl with | [_, _], _ => rfl),
    ⟨mk_Numbers, g_Numbers___init__, i_Numbers___init__, kc_Numbers⟩,
    F_Numbers_take,
    (F_Numbers_take.binds (ps := ["self", "least", "most"]) fun _ _ _ _ _ _ us hl => match us, hl with | [_, _, _], _ => rfl),
    ⟨g_Numbers_take, i_Numbers_take, k_Numbers_take⟩,
    F_Numbers_take_code,
    (F_Numbers_take_code.binds (ps := ["self"]) fun _ _ _ _ _ _ us hl => match us, hl with | [_], _ => rfl),
    ⟨g_Numbers_take_code, i_Numbers_take_code, k_Numbers_take_code⟩,
    F_read_program,
    (F_read_program.binds (ps := ["numbers"]) fun _ _ _ _ _ _ us hl => match us, hl with | [_], _ => rfl),
    (PySem.W.mg_of X G g_read_program),
    F__law_pool,
    (F__law_pool.binds (ps := ["_law_script", "_law_budget"]) fun _ _ _ _ _ _ us hl => match us, hl with | [_, _], _ => rfl),
    (PySem.W.mg_of X G g__law_pool),
    F__law_draw,
    (F__law_draw.binds (ps := ["_law_pool_here", "_law_size"]) fun _ _ _ _ _ _ us hl => match us, hl with | [_, _], _ => rfl),
    (PySem.W.mg_of X G g__law_draw),
    F__law_few,
    (F__law_few.binds (ps := ["_law_pool_here", "_law_most"]) fun _ _ _ _ _ _ us hl => match us, hl with | [_, _], _ => rfl),
    (PySem.W.mg_of X G g__law_few),
    F__law_number,
    (F__law_number.binds (ps := ["_law_pool_here"]) fun _ _ _ _ _ _ us hl => match us, hl with | [_], _ => rfl),
    (PySem.W.mg_of X G g__law_number),
    F__law_same,
    (F__law_same.binds (ps := ["_law_actual", "_law_due"]) fun _ _ _ _ _ _ us hl => match us, hl with | [_, _], _ => rfl),
    (PySem.W.mg_of X G g__law_same),
    F__law_names_of_code,
    (F__law_names_of_code.binds (ps := []) fun _ _ _ _ _ _ us hl => match us, hl with | [], _ => rfl),
    (PySem.W.mg_of X G g__law_names_of_code),
    F__law_row,
    (F__law_row.binds (ps := ["_law_pool_here"]) fun _ _ _ _ _ _ us hl => match us, hl with | [_], _ => rfl),
    (PySem.W.mg_of X G g__law_row),
    F__law_numbers,
    (F__law_numbers.binds (ps := ["_law_row_here"]) fun _ _ _ _ _ _ us hl => match us, hl with | [_], _ => rfl),
    (PySem.W.mg_of X G g__law_numbers),
    F__law_read,
    (F__law_read.binds (ps := ["_law_numbers_here"]) fun _ _ _ _ _ _ us hl => match us, hl with | [_], _ => rfl),
    (PySem.W.mg_of X G g__law_read),
    F_law,
    (F_law.binds (ps := ["_law_script"]) fun _ _ _ _ _ _ us hl => match us, hl with | [_], _ => rfl),
    (PySem.W.mg_of X G g_law),
    (PySem.W.mg_of X G C_Program),
    ⟨pg_Program, hd_Program, po_Program, sa_Program⟩,
    na_Program_sizes,
    na_Program_moves,
    na_Program_rounds,
    ⟨⟨pg_Program, hd_Program, po_Program, sa_Program⟩, ha_Program, hn_Program, ht_Program, hm_Program, by unfold PySem.W.kitOne; simp⟩,
    so_Program,
    nf_Program,
    (PySem.W.mg_of X G C_Numbers),
    ⟨pg_Numbers, hd_Numbers, po_Numbers, sa_Numbers⟩,
    na_Numbers_numbers,
    na_Numbers_at,
    (PySem.W.mg_of X G Cx_BadCode),
    ⟨⟨_, _, _, _, _, _, _, _, _, _, _, _, _, _, _, xL_BadCode, by rfl⟩, xsa_BadCode, xno_BadCode, xiC_BadCode, xtC_BadCode, xkC_BadCode, xex_BadCode, xty_BadCode, xop_BadCode, ksx_BadCode, xve_BadCode, xmc_BadCode, (PySem.W.mg_none_of X G xsu_BadCode), rflt_BadCode, ⟨by decide, by decide, by decide, by decide, fun _ _ _ _ _ _ _ _ _ _ _ _ => rfl⟩, ⟨_, _, _, _, _, _, _, _, _, _, _, _, _, _, _, _, _, _, _, _, _, _, _, _, _, _, _, _, _, _, _, _, _, xl_BadCode, xc_BadCode, xda__BadCode, rflv_BadCode, rflf_BadCode, xcc__BadCode, _, fun _ => rfl⟩⟩,
    ⟨xga_BadCode, xgg_BadCode, xex_BadCode, xhd_BadCode⟩,
    (PySem.W.exm_ref xex_BadCode xhd_BadCode xty_BadCode xsub_BadCode),
    ⟨xicl_BadCode, xga_BadCode, xgg_BadCode, xex_BadCode, xha_BadCode, xhn_BadCode, xht_BadCode, xhm_BadCode⟩,
    (PySem.W.mg_of X G Cx_GameError),
    ki_ge,
    (PySem.W.mg_none_of X G n_tuple),
    (PySem.W.mg_none_of X G n_isinstance),
    (PySem.W.mg_none_of X G n_len),
    (PySem.W.mg_none_of X G n_list),
    (PySem.W.mg_none_of X G n_range),
    (PySem.W.mg_none_of X G n_int),
    (PySem.W.mg_none_of X G n_min),
    (PySem.W.mg_none_of X G n_bool),
    (PySem.W.mg_none_of X G n_str),
    ⟨_, PySem.W.mg_of X G cg_GREATEST⟩,
    (PySem.W.mg_of X G cg_NAMES),
    ⟨_, cl_k_NAMES, rfl, rfl⟩,
    (fun _ => .inr ⟨_, _, _, cl_k_NAMES, rfl, rfl, by rw [sizeLine_eq]; show 16 ≤ _; decide, (.cons ⟨_, rfl⟩ (.cons ⟨_, rfl⟩ (.cons ⟨_, rfl⟩ (.cons ⟨_, rfl⟩ (.cons ⟨_, rfl⟩ (.cons ⟨_, rfl⟩ (.cons ⟨_, rfl⟩ (.cons ⟨_, rfl⟩ (.cons ⟨_, rfl⟩ (.cons ⟨_, rfl⟩ (.cons ⟨_, rfl⟩ (.cons ⟨_, rfl⟩ (.cons ⟨_, rfl⟩ (.cons ⟨_, rfl⟩ (.cons ⟨_, rfl⟩ (.cons ⟨_, rfl⟩ .nil))))))))))))))))⟩),
    ⟨_, PySem.W.mg_of X G cg_MOST_MOVES⟩,
    ⟨_, PySem.W.mg_of X G cg_MOST_BRANCHINGS⟩,
    ⟨_, PySem.W.mg_of X G cg_MOST_VARIABLES⟩,
    ⟨_, PySem.W.mg_of X G cg_MOST_ROUNDS⟩⟩
  exact ⟨PySem.W.fnOf "law" "law" (defArgs s_law) (defBody s_law) (defScope s_law) .none kV_law dc_law pm_law an_law cd_law ct_law, fun s v => .of_eq rfl, fun base _ _ => G_law (P := P) (w := w) (base := base) T⟩
theorem walk {l : PySem.W.OpenLaw} {q : Program} {loose : List Str} {XP : (Str → Option Value) → Heap → Prop} {YP : World → Heap → Prop} {d : DefRec} {K : Params → PySem.W.Frag} (hn : l.most = some 63) (hdf : d.params.defaults = [])
    (hY : ∀ (w : World) (h : Heap), YP w h → (K w.params).In h)
    (F : ∀ (w : World) (mg : Str → Option Value) (fa : Addr) (h : Heap), (K w.params).In h → h.Ns mainGlobals mg → mg d.name = some (.ref fa) →
      ∃ fd : FuncData, (∀ (s : Shared) (u : Value), BindsTo s fd ⟨[u], []⟩ [("_law_script", u)]) ∧ ∀ base : Heap, (K w.params).In base → base.Ns mainGlobals mg → FnOk l.prog w (K w.params) mg base CX0 8 fa fd ["_law_script"] (sp_law (K w.params))) :
    PySem.W.WalkO q loose XP YP l.row.toRowW d [] (fun f vs => PySem.call f vs) :=
  L2.walk_of (n := 63) (k := 8) (x := "_law_script") (CX := fun _ => CX0) (sp := fun w => sp_law (K w.params)) hn (by decide) hdf ⟨rfl, by decide, by decide⟩ hY F (fun _ _ a ns hl _ hS => ⟨a, ns, rfl, hS, hl, fun _ => rfl⟩) fun _ _ _ _ _ z => z
end K79
open PySem PySem.W PyProof.Rows
set_option maxRecDepth 100000 in
set_option maxHeartbeats 0 in
theorem PySem.Challenge.cw_sureplay_k79_programs_as_whole_numbers_holds : PySem.Challenge.rw_sureplay_k79_programs_as_whole_numbers.Holds := by
  w_on; o_law; k_head; (case hw => w_witness2)
  k_fill
  refine K79.walk (l := PySem.Challenge.rw_sureplay_k79_programs_as_whole_numbers) rfl rfl (fun w h Y => PySem.W.kIn_of Y) ?F
  case F =>
    intro w mg fa h KX G hmg
    refine' K79.all_mk KX G hmg ?C_Program ?C_Numbers ?g_Program___init__ ?i_Program___init__ ?l_Program___init__ ?c_Program___init___ ?k_Program___init__ ?g_Program___eq__ ?i_Program___eq__ ?l_Program___eq__ ?c_Program___eq___ ?k_Program___eq__ ?g_program_numbers ?i_program_numbers ?l_program_numbers ?c_program_numbers_ ?k_program_numbers ?g_Numbers___init__ ?i_Numbers___init__ ?l_Numbers___init__ ?c_Numbers___init___ ?k_Numbers___init__ ?g_Numbers_take ?i_Numbers_take ?l_Numbers_take ?c_Numbers_take_ ?k_Numbers_take ?g_Numbers_take_code ?i_Numbers_take_code ?l_Numbers_take_code ?c_Numbers_take_code_ ?k_Numbers_take_code ?g_read_program ?i_read_program ?l_read_program ?c_read_program_ ?k_read_program ?g__law_pool ?i__law_pool ?l__law_pool ?c__law_pool_ ?k__law_pool ?g__law_draw ?i__law_draw ?l__law_draw ?c__law_draw_ ?k__law_draw ?g__law_few ?i__law_few ?l__law_few ?c__law_few_ ?k__law_few ?g__law_number ?i__law_number ?l__law_number ?c__law_number_ ?k__law_number ?g__law_same ?i__law_same ?l__law_same ?c__law_same_ ?k__law_same ?g__law_names_of_code ?i__law_names_of_code ?l__law_names_of_code ?c__law_names_of_code_ ?k__law_names_of_code ?g__law_row ?i__law_row ?l__law_row ?c__law_row_ ?k__law_row ?g__law_numbers ?i__law_numbers ?l__law_numbers ?c__law_numbers_ ?k__law_numbers ?g__law_read ?i__law_read ?l__law_read ?c__law_read_ ?k__law_read ?g_law ?i_law ?l_law ?c_law_ ?k_law ?pg_Program ?hd_Program ?po_Program ?sa_Program ?mk_Program ?kc_Program ?na_Program_sizes ?na_Program_moves ?na_Program_rounds ?ha_Program ?hn_Program ?ht_Program ?hm_Program ?so_Program ?nf_Program ?pg_Numbers ?hd_Numbers ?po_Numbers ?sa_Numbers ?mk_Numbers ?kc_Numbers ?na_Numbers_numbers ?na_Numbers_at ?Cx_BadCode ?xL_BadCode ?xsa_BadCode ?xga_BadCode ?xgg_BadCode ?xhd_BadCode ?xno_BadCode ?xiC_BadCode ?xtC_BadCode ?xkC_BadCode ?xex_BadCode ?xty_BadCode ?xop_BadCode ?ksx_BadCode ?xve_BadCode ?xmc_BadCode ?xsub_BadCode ?xsu_BadCode ?rflt_BadCode ?xl_BadCode ?xc_BadCode ?xda__BadCode ?rflv_BadCode ?rflf_BadCode ?xicl_BadCode ?xha_BadCode ?xhn_BadCode ?xht_BadCode ?xhm_BadCode ?xcc__BadCode ?Cx_GameError ?ki_ge ?n_tuple ?n_isinstance ?n_len ?n_list ?n_range ?n_int ?n_min ?n_bool ?n_str ?cg_GREATEST ?cg_NAMES ?cl_k_NAMES ?cg_MOST_MOVES ?cg_MOST_BRANCHINGS ?cg_MOST_VARIABLES ?cg_MOST_ROUNDS
    (case C_Program => k_is)
    (case C_Numbers => k_is)
    (case g_Program___init__ => k_is)
    (case i_Program___init__ => k_is)
    (case l_Program___init__ => k_is)
    (case c_Program___init___ => k_is)
    (case k_Program___init__ => k_is)
    (case g_Program___eq__ => k_is)
    (case i_Program___eq__ => k_is)
    (case l_Program___eq__ => k_is)
    (case c_Program___eq___ => k_is)
    (case k_Program___eq__ => k_is)
    (case g_program_numbers => k_is)
    (case i_program_numbers => k_is)
    (case l_program_numbers => k_is)
    (case c_program_numbers_ => k_is)
    (case k_program_numbers => k_is)
    (case g_Numbers___init__ => k_is)
    (case i_Numbers___init__ => k_is)
    (case l_Numbers___init__ => k_is)
    (case c_Numbers___init___ => k_is)
    (case k_Numbers___init__ => k_is)
    (case g_Numbers_take => k_is)
    (case i_Numbers_take => k_is)
    (case l_Numbers_take => k_is)
    (case c_Numbers_take_ => k_is)
    (case k_Numbers_take => k_is)
    (case g_Numbers_take_code => k_is)
    (case i_Numbers_take_code => k_is)
    (case l_Numbers_take_code => k_is)
    (case c_Numbers_take_code_ => k_is)
    (case k_Numbers_take_code => k_is)
    (case g_read_program => k_is)
    (case i_read_program => k_is)
    (case l_read_program => k_is)
    (case c_read_program_ => k_is)
    (case k_read_program => k_is)
    (case g__law_pool => k_is)
    (case i__law_pool => k_is)
    (case l__law_pool => k_is)
    (case c__law_pool_ => k_is)
    (case k__law_pool => k_is)
    (case g__law_draw => k_is)
    (case i__law_draw => k_is)
    (case l__law_draw => k_is)
    (case c__law_draw_ => k_is)
    (case k__law_draw => k_is)
    (case g__law_few => k_is)
    (case i__law_few => k_is)
    (case l__law_few => k_is)
    (case c__law_few_ => k_is)
    (case k__law_few => k_is)
    (case g__law_number => k_is)
    (case i__law_number => k_is)
    (case l__law_number => k_is)
    (case c__law_number_ => k_is)
    (case k__law_number => k_is)
    (case g__law_same => k_is)
    (case i__law_same => k_is)
    (case l__law_same => k_is)
    (case c__law_same_ => k_is)
    (case k__law_same => k_is)
    (case g__law_names_of_code => k_is)
    (case i__law_names_of_code => k_is)
    (case l__law_names_of_code => k_is)
    (case c__law_names_of_code_ => k_is)
    (case k__law_names_of_code => k_is)
    (case g__law_row => k_is)
    (case i__law_row => k_is)
    (case l__law_row => k_is)
    (case c__law_row_ => k_is)
    (case k__law_row => k_is)
    (case g__law_numbers => k_is)
    (case i__law_numbers => k_is)
    (case l__law_numbers => k_is)
    (case c__law_numbers_ => k_is)
    (case k__law_numbers => k_is)
    (case g__law_read => k_is)
    (case i__law_read => k_is)
    (case l__law_read => k_is)
    (case c__law_read_ => k_is)
    (case k__law_read => k_is)
    (case g_law => k_is)
    (case i_law => k_is)
    (case l_law => k_is)
    (case c_law_ => k_is)
    (case k_law => k_is)
    (case pg_Program => k_is)
    (case hd_Program => k_is)
    (case po_Program => k_is)
    (case sa_Program => k_is)
    (case mk_Program => k_is)
    (case kc_Program => k_is)
    (case na_Program_sizes => k_is)
    (case na_Program_moves => k_is)
    (case na_Program_rounds => k_is)
    (case ha_Program => k_is)
    (case hn_Program => k_is)
    (case ht_Program => k_is)
    (case hm_Program => k_is)
    (case so_Program => k_is)
    (case nf_Program => k_is)
    (case pg_Numbers => k_is)
    (case hd_Numbers => k_is)
    (case po_Numbers => k_is)
    (case sa_Numbers => k_is)
    (case mk_Numbers => k_is)
    (case kc_Numbers => k_is)
    (case na_Numbers_numbers => k_is)
    (case na_Numbers_at => k_is)
    (case Cx_BadCode => k_is)
    (case xL_BadCode => k_is)
    (case xsa_BadCode => k_is)
    (case xga_BadCode => k_is)
    (case xgg_BadCode => k_is)
    (case xhd_BadCode => k_is)
    (case xno_BadCode => k_is)
    (case xiC_BadCode => k_is)
    (case xtC_BadCode => k_is)
    (case xkC_BadCode => k_is)
    (case xex_BadCode => k_is)
    (case xty_BadCode => k_is)
    (case xop_BadCode => k_is)
    (case ksx_BadCode => ks_is)
    (case xve_BadCode => k_is)
    (case xmc_BadCode => k_is)
    (case xsub_BadCode => k_is)
    (case xsu_BadCode => k_is)
    (case rflt_BadCode => first | rfl | decide +kernel | kernel_rfl)
    (case xl_BadCode => k_is)
    (case xc_BadCode => k_is)
    (case xda__BadCode => k_is)
    (case rflv_BadCode => first | rfl | decide +kernel | kernel_rfl)
    (case rflf_BadCode => first | rfl | decide +kernel | kernel_rfl)
    (case xicl_BadCode => k_is)
    (case xha_BadCode => k_is)
    (case xhn_BadCode => k_is)
    (case xht_BadCode => k_is)
    (case xhm_BadCode => k_is)
    (case xcc__BadCode => k_is)
    (case Cx_GameError => k_is)
    (case ki_ge => kit_is)
    (case n_tuple => k_is)
    (case n_isinstance => k_is)
    (case n_len => k_is)
    (case n_list => k_is)
    (case n_range => k_is)
    (case n_int => k_is)
    (case n_min => k_is)
    (case n_bool => k_is)
    (case n_str => k_is)
    (case cg_GREATEST => k_is)
    (case cg_NAMES => k_is)
    (case cl_k_NAMES => k_is)
    (case cg_MOST_MOVES => k_is)
    (case cg_MOST_BRANCHINGS => k_is)
    (case cg_MOST_VARIABLES => k_is)
    (case cg_MOST_ROUNDS => k_is)
#print axioms PySem.Challenge.cw_sureplay_k79_programs_as_whole_numbers_holds
