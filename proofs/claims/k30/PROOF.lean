import PyProof.Rows.All
import Wide.All
import OpenK.AllK
import Wide.FinOn
import HandS.Iter
import HandS.Style
import HandS.DeepEq
import HandS.TupMul
import HandS.Strs
import HandS.RaiseMore
import HandS.Star
import KE.KExcSuper
import KE.KSuper
import HandS.Exc
import HandS.ExcField
import HandS.ExcIs
import HandS.ExcInit
import HandS.ExcSuper
import HandS.TryMany
import HandS.CallSlots
import HandS.WordsExc
import KE.KExcIs
import HandS.Dict
import HandS.Deep
import HandS.DeepEq
import HandS.Iter
import HandS.Zip
import HandS.Comp
import KE.KDictKeyed
import KE.KeyNested
import KE.KDictWalk
import HandS.OwnEq
import PyProof.NeKinds
import KE.KDictPairs
import HandS.More
import HandS.Rev
import HandS.ForMost
import HandS.Wide
import HandS.IsInst
import HandS.TupAny
import HandS.Evl
import HandS.Codes
import HandS.Gcd
import HandS.OwnEq
import HandS.Defaults
import PySem.Challenge.RW_sureplay_k30_statements_of_one_way
set_option Elab.async false
set_option linter.all false
set_option maxRecDepth 100000
set_option maxHeartbeats 4000000
set_option Elab.async false
set_option linter.all false
set_option maxRecDepth 100000
/-! Own lemmas: stepping through readings (go_), tests, heaps. No program in sight. -/
namespace Gx
open PySem PySem.Spec PyProof.Rows L2

/-! ### statements -/
section
variable {D : Ends} {σ : L2.St} {H : Hp} {t u c : TS} {te ta tb tc tl th : TE} {i : Nat} {Q : VK} {QB : Bool → Hp → Prop}
theorem go_seq (h : t { D with nx := u D } σ H) : tSeq t u D σ H := h
theorem go_cut (M : L2.St → Hp → Prop) (h : t { D with nx := M } σ H) (k : ∀ σ' H', M σ' H' → u D σ' H') : Evl.tCut t u D σ H := ⟨M, h, k⟩
theorem go_asg {g : TG} (h : te σ H fun x H1 => g x σ H1 D.nx) : tAsg te g D σ H := h
theorem go_name {v : V} {R : L2.St → Hp → Prop} (h : R (σ.set i (some v)) H) : gName i v σ H R := h
theorem go_drop (h : te σ H fun _ H1 => D.nx σ H1) : tDrop te D σ H := h
theorem go_ret (h : te σ H D.rt) : tRet te D σ H := h
theorem go_retN (h : D.rt .non H) : tRetN D σ H := h
theorem go_next (h : D.nx σ H) : tNext D σ H := h
theorem go_brk (h : D.bk σ H) : tBreak D σ H := h
theorem go_cont (h : D.ct σ H) : tCont D σ H := h
theorem go_if {tt : TT} (h : tt σ H fun b H1 => if b = true then t D σ H1 else u D σ H1) : tIfS tt t u D σ H := h
/-! ### expressions -/
theorem go_var {v : V} (e : σ[i]? = some (some v)) (h : Q v H) : tVar i σ H Q := ⟨v, e, h⟩
theorem go_c {v : V} (h : Q v H) : tC v σ H Q := h
theorem go_op {r : R2} (h : ta σ H fun x H1 => tb σ H1 fun y H2 => r x y H2 Q) : tOp r ta tb σ H Q := h
theorem go_un {r : V → Hp → VK → Prop} (h : ta σ H fun x H1 => r x H1 Q) : tUn r ta σ H Q := h
theorem go_rI0 {g : Int → Int → V} {a b : Int} (h : Q (g a b) H) : rI0 g (.int a) (.int b) H Q := ⟨a, b, rfl, rfl, h⟩
theorem go_rI {C : Int → Int → Prop} {g : Int → Int → V} {a b : Int} (hc : C a b) (h : Q (g a b) H) : rI C g (.int a) (.int b) H Q := ⟨a, b, rfl, rfl, hc, h⟩
theorem go_rU {g : Int → V} {a : Int} (h : Q (g a) H) : rU g (.int a) H Q := ⟨a, rfl, h⟩
theorem go_eqI {a b : Int} (h : Q (.bl (decide (a = b))) H) : rEq (.int a) (.int b) H Q := ⟨rfl, by simpa using h⟩
theorem go_neI {a b : Int} (h : Q (.bl (!decide (a = b))) H) : rNe (.int a) (.int b) H Q := ⟨rfl, by simpa using h⟩
theorem go_eqS {a b : Str} (h : Q (.bl (decide (a = b))) H) : rEq (.str a) (.str b) H Q := ⟨rfl, by simpa using h⟩
theorem go_neS {a b : Str} (h : Q (.bl (!decide (a = b))) H) : rNe (.str a) (.str b) H Q := ⟨rfl, by simpa using h⟩
theorem go_eqB {a b : Bool} (h : Q (.bl (decide (a = b))) H) : rEq (.bl a) (.bl b) H Q := ⟨rfl, by simpa using h⟩
theorem go_neB {a b : Bool} (h : Q (.bl (!decide (a = b))) H) : rNe (.bl a) (.bl b) H Q := ⟨rfl, by simpa using h⟩
theorem go_eqN (h : Q (.bl true) H) : rEq .non .non H Q := ⟨rfl, by simpa using h⟩
theorem ite_dt {α : Type} [DecidableEq α] {a : α} {A B : Prop} (h : A) : if decide (a = a) = true then A else B := by rw [decide_eq_true rfl]; exact h
theorem go_test (h : te σ H fun x H1 => ∃ k, x = .bl k ∧ QB k H1) : tTest te σ H QB := h
theorem go_B (h : te σ H fun x H1 => ∃ k, x = .bl k ∧ QB k H1) : tB te σ H QB := h
theorem go_bl {b : Bool} (h : QB b H) : ∃ k, V.bl b = .bl k ∧ QB k H := ⟨b, rfl, h⟩
theorem go_and {t u : TT} (h : t σ H fun b H1 => if b = true then u σ H1 QB else QB false H1) : tAnd t u σ H QB := h
theorem go_or {t u : TT} (h : t σ H fun b H1 => if b = true then QB true H1 else u σ H1 QB) : tOr t u σ H QB := h
theorem go_not {t : TT} (h : t σ H fun b H1 => QB (!b) H1) : tNot t σ H QB := h
theorem go_andV (h : ta σ H fun x H1 => ∃ c, x = .bl c ∧ if c = true then tb σ H1 Q else Q (.bl false) H1) : tAndV ta tb σ H Q := h
theorem go_orV (h : ta σ H fun x H1 => ∃ c, x = .bl c ∧ if c = true then Q (.bl true) H1 else tb σ H1 Q) : tOrV ta tb σ H Q := h
theorem go_notV (h : ta σ H fun x H1 => ∃ c, x = .bl c ∧ Q (.bl (!c)) H1) : tNotV ta σ H Q := h
theorem go_ifE {t : TT} (h : t σ H fun c H1 => if c = true then ta σ H1 Q else tb σ H1 Q) : tIf t ta tb σ H Q := h
theorem go_blA {b : Bool} {R : Bool → Prop} (h : R b) : ∃ k, V.bl b = .bl k ∧ R k := ⟨b, rfl, h⟩
theorem go_not_t {QB : Bool → Hp → Prop} (h : QB false H) : QB (!true) H := h
theorem go_not_f {QB : Bool → Hp → Prop} (h : QB true H) : QB (!false) H := h
theorem go_chain {r r' : R2} (h : ta σ H fun x H1 => tb σ H1 fun y H2 => r x y H2 fun z H3 => ∃ k, z = .bl k ∧ (if k = true then tc σ H3 fun w' H4 => r' y w' H4 Q else Q (.bl false) H3)) : tChain r r' ta tb tc σ H Q := h
/-! ### calls -/
theorem go_CB {r : List V → Hp → VK → Prop} {t : TA} (h : t σ H fun vs H1 => r vs H1 Q) : tCB r t σ H Q := h
theorem go_cons {t : TA} {R : List V → Hp → Prop} (h : ta σ H fun x H1 => t σ H1 fun xs H2 => R (x :: xs) H2) : tCons ta t σ H R := h
theorem go_nil {R : List V → Hp → Prop} (h : R [] H) : tNil σ H R := h
theorem go_call {sp : Sp} {dvs : List V} {E : XK} {t : TA} (h : t σ H fun vs H1 => sp (vs ++ dvs) H1 Q E) : tCall sp dvs E t σ H Q := h
theorem go_isi {K : PySem.W.Frag} {x c : V} {t u : Value} {b : Bool} (k : ClsV c u) (ty : TyX K H x t) (e : PySem.W.kitOne K t u = some b) (h : Q (.bl b) H) : rIsi K [x, c] H Q := ⟨x, c, t, u, b, rfl, k, ty, e, h⟩
theorem go_isiB {K : PySem.W.Frag} {x : V} {a c : String} {b : Bool} (ty : TyX K H x (.type a)) (e : kitB a c = some b) (h : Q (.bl b) H) : rIsi K [x, .ty c] H Q := ⟨x, .ty c, .type a, .type c, b, rfl, .ty c, ty, kit_ty e, h⟩
theorem go_lst {t : TA} (h : t σ H fun vs H1 => vs.length ≤ sizeLine ∧ ∀ l, H1 l = none → Q (.ref l) (upd H1 l (.lst vs))) : tLst t σ H Q := h
theorem go_tup {t : TA} (h : t σ H fun vs H1 => vs.length ≤ sizeLine ∧ ∀ l, H1 l = none → Q (.ref l) (upd H1 l (.tup vs))) : tTup t σ H Q := h
theorem go_sl {r : V → Option Int → Option Int → Hp → VK → Prop} {tlo tho : TO} (h : te σ H fun x H1 => tlo σ H1 fun lo H2 => tho σ H2 fun hi H3 => r x lo hi H3 Q) : tSl r te tlo tho σ H Q := h
theorem go_noPart {R : Option Int → Hp → Prop} (h : R none H) : tNoPart σ H R := h
theorem go_part {R : Option Int → Hp → Prop} (h : te σ H fun x H1 => ∃ i, x = .int i ∧ R (some i) H1) : tPart te σ H R := h
theorem go_partI {a : Int} {R : Int → Prop} (h : R a) : ∃ i, V.int a = .int i ∧ R i := ⟨a, rfl, h⟩
theorem go_slL {K : PySem.W.Frag} {a : Addr} {xs : List V} {lo hi : Option Int} (hs : SqL K H a xs) (h : ∀ p, H p = none → Q (.ref p) (upd H p (.lst (cutV xs lo hi)))) : rSlL K (.ref a) lo hi H Q := ⟨a, xs, rfl, hs, h⟩
theorem go_ixL {K : PySem.W.Frag} {a : Addr} {xs : List V} {k : Int} {v : V} (hs : SqL K H a xs) (e : atI xs k = some v) (h : Q v H) : rIxL K (.ref a) (.int k) H Q := ⟨a, xs, k, v, rfl, rfl, hs, e, h⟩
theorem go_ixT {K : PySem.W.Frag} {a : Addr} {xs : List V} {k : Int} {v : V} (hs : SqT K H a xs) (e : atI xs k = some v) (h : Q v H) : rIxT K (.ref a) (.int k) H Q := ⟨a, xs, k, v, rfl, rfl, hs, e, h⟩
end
/-! ### isinstance of scalars -/
theorem isi_int_int {K : PySem.W.Frag} {H : Hp} {Q : VK} {k : Int} (h : Q (.bl true) H) : rIsi K [(V.int k), .ty "int"] H Q := go_isiB (.base (.int _)) (by decide +kernel) h
theorem isi_int_bool {K : PySem.W.Frag} {H : Hp} {Q : VK} {k : Int} (h : Q (.bl false) H) : rIsi K [(V.int k), .ty "bool"] H Q := go_isiB (.base (.int _)) (by decide +kernel) h
theorem isi_int_str {K : PySem.W.Frag} {H : Hp} {Q : VK} {k : Int} (h : Q (.bl false) H) : rIsi K [(V.int k), .ty "str"] H Q := go_isiB (.base (.int _)) (by decide +kernel) h
theorem isi_int_list {K : PySem.W.Frag} {H : Hp} {Q : VK} {k : Int} (h : Q (.bl false) H) : rIsi K [(V.int k), .ty "list"] H Q := go_isiB (.base (.int _)) (by decide +kernel) h
theorem isi_int_tuple {K : PySem.W.Frag} {H : Hp} {Q : VK} {k : Int} (h : Q (.bl false) H) : rIsi K [(V.int k), .ty "tuple"] H Q := go_isiB (.base (.int _)) (by decide +kernel) h
theorem isi_bool_int {K : PySem.W.Frag} {H : Hp} {Q : VK} {k : Bool} (h : Q (.bl true) H) : rIsi K [(V.bl k), .ty "int"] H Q := go_isiB (.base (.bl _)) (by decide +kernel) h
theorem isi_bool_bool {K : PySem.W.Frag} {H : Hp} {Q : VK} {k : Bool} (h : Q (.bl true) H) : rIsi K [(V.bl k), .ty "bool"] H Q := go_isiB (.base (.bl _)) (by decide +kernel) h
theorem isi_bool_str {K : PySem.W.Frag} {H : Hp} {Q : VK} {k : Bool} (h : Q (.bl false) H) : rIsi K [(V.bl k), .ty "str"] H Q := go_isiB (.base (.bl _)) (by decide +kernel) h
theorem isi_bool_list {K : PySem.W.Frag} {H : Hp} {Q : VK} {k : Bool} (h : Q (.bl false) H) : rIsi K [(V.bl k), .ty "list"] H Q := go_isiB (.base (.bl _)) (by decide +kernel) h
theorem isi_bool_tuple {K : PySem.W.Frag} {H : Hp} {Q : VK} {k : Bool} (h : Q (.bl false) H) : rIsi K [(V.bl k), .ty "tuple"] H Q := go_isiB (.base (.bl _)) (by decide +kernel) h
theorem isi_str_int {K : PySem.W.Frag} {H : Hp} {Q : VK} {k : Str} (h : Q (.bl false) H) : rIsi K [(V.str k), .ty "int"] H Q := go_isiB (.base (.str _)) (by decide +kernel) h
theorem isi_str_bool {K : PySem.W.Frag} {H : Hp} {Q : VK} {k : Str} (h : Q (.bl false) H) : rIsi K [(V.str k), .ty "bool"] H Q := go_isiB (.base (.str _)) (by decide +kernel) h
theorem isi_str_str {K : PySem.W.Frag} {H : Hp} {Q : VK} {k : Str} (h : Q (.bl true) H) : rIsi K [(V.str k), .ty "str"] H Q := go_isiB (.base (.str _)) (by decide +kernel) h
theorem isi_str_list {K : PySem.W.Frag} {H : Hp} {Q : VK} {k : Str} (h : Q (.bl false) H) : rIsi K [(V.str k), .ty "list"] H Q := go_isiB (.base (.str _)) (by decide +kernel) h
theorem isi_str_tuple {K : PySem.W.Frag} {H : Hp} {Q : VK} {k : Str} (h : Q (.bl false) H) : rIsi K [(V.str k), .ty "tuple"] H Q := go_isiB (.base (.str _)) (by decide +kernel) h
theorem isi_NoneType_int {K : PySem.W.Frag} {H : Hp} {Q : VK} (h : Q (.bl false) H) : rIsi K [V.non, .ty "int"] H Q := go_isiB (.base .non) (by decide +kernel) h
theorem isi_NoneType_bool {K : PySem.W.Frag} {H : Hp} {Q : VK} (h : Q (.bl false) H) : rIsi K [V.non, .ty "bool"] H Q := go_isiB (.base .non) (by decide +kernel) h
theorem isi_NoneType_str {K : PySem.W.Frag} {H : Hp} {Q : VK} (h : Q (.bl false) H) : rIsi K [V.non, .ty "str"] H Q := go_isiB (.base .non) (by decide +kernel) h
theorem isi_NoneType_list {K : PySem.W.Frag} {H : Hp} {Q : VK} (h : Q (.bl false) H) : rIsi K [V.non, .ty "list"] H Q := go_isiB (.base .non) (by decide +kernel) h
theorem isi_NoneType_tuple {K : PySem.W.Frag} {H : Hp} {Q : VK} (h : Q (.bl false) H) : rIsi K [V.non, .ty "tuple"] H Q := go_isiB (.base .non) (by decide +kernel) h
theorem isi_list_int {K : PySem.W.Frag} {H : Hp} {Q : VK} {p : Addr} {xs : List V} (e : H p = some (.lst xs)) (h : Q (.bl false) H) : rIsi K [.ref p, .ty "int"] H Q := go_isiB (.base (.lst e)) (by decide +kernel) h
theorem isi_list_bool {K : PySem.W.Frag} {H : Hp} {Q : VK} {p : Addr} {xs : List V} (e : H p = some (.lst xs)) (h : Q (.bl false) H) : rIsi K [.ref p, .ty "bool"] H Q := go_isiB (.base (.lst e)) (by decide +kernel) h
theorem isi_list_str {K : PySem.W.Frag} {H : Hp} {Q : VK} {p : Addr} {xs : List V} (e : H p = some (.lst xs)) (h : Q (.bl false) H) : rIsi K [.ref p, .ty "str"] H Q := go_isiB (.base (.lst e)) (by decide +kernel) h
theorem isi_list_list {K : PySem.W.Frag} {H : Hp} {Q : VK} {p : Addr} {xs : List V} (e : H p = some (.lst xs)) (h : Q (.bl true) H) : rIsi K [.ref p, .ty "list"] H Q := go_isiB (.base (.lst e)) (by decide +kernel) h
theorem isi_list_tuple {K : PySem.W.Frag} {H : Hp} {Q : VK} {p : Addr} {xs : List V} (e : H p = some (.lst xs)) (h : Q (.bl false) H) : rIsi K [.ref p, .ty "tuple"] H Q := go_isiB (.base (.lst e)) (by decide +kernel) h
theorem isi_tuple_int {K : PySem.W.Frag} {H : Hp} {Q : VK} {p : Addr} {xs : List V} (e : H p = some (.tup xs)) (h : Q (.bl false) H) : rIsi K [.ref p, .ty "int"] H Q := go_isiB (.base (.tup e)) (by decide +kernel) h
theorem isi_tuple_bool {K : PySem.W.Frag} {H : Hp} {Q : VK} {p : Addr} {xs : List V} (e : H p = some (.tup xs)) (h : Q (.bl false) H) : rIsi K [.ref p, .ty "bool"] H Q := go_isiB (.base (.tup e)) (by decide +kernel) h
theorem isi_tuple_str {K : PySem.W.Frag} {H : Hp} {Q : VK} {p : Addr} {xs : List V} (e : H p = some (.tup xs)) (h : Q (.bl false) H) : rIsi K [.ref p, .ty "str"] H Q := go_isiB (.base (.tup e)) (by decide +kernel) h
theorem isi_tuple_list {K : PySem.W.Frag} {H : Hp} {Q : VK} {p : Addr} {xs : List V} (e : H p = some (.tup xs)) (h : Q (.bl false) H) : rIsi K [.ref p, .ty "list"] H Q := go_isiB (.base (.tup e)) (by decide +kernel) h
theorem isi_tuple_tuple {K : PySem.W.Frag} {H : Hp} {Q : VK} {p : Addr} {xs : List V} (e : H p = some (.tup xs)) (h : Q (.bl true) H) : rIsi K [.ref p, .ty "tuple"] H Q := go_isiB (.base (.tup e)) (by decide +kernel) h
section
variable {D : Ends} {σ : L2.St} {H : Hp} {t u c : TS} {te ta tb tc tl th : TE} {i : Nat} {Q : VK} {QB : Bool → Hp → Prop}
/-! ### what a test comes to -/
theorem ite_d {p : Prop} [Decidable p] {A B : Prop} (h1 : p → A) (h2 : ¬ p → B) : if decide p = true then A else B := by
  by_cases h : p
  · rw [decide_eq_true h]; exact h1 h
  · rw [decide_eq_false h]; exact h2 h
theorem ite_nd {p : Prop} [Decidable p] {A B : Prop} (h1 : ¬ p → A) (h2 : p → B) : if (!decide p) = true then A else B := by
  by_cases h : p
  · rw [decide_eq_true h]; exact h2 h
  · rw [decide_eq_false h]; exact h1 h
theorem ite_nt {A B : Prop} (h : B) : if (!true) = true then A else B := h
theorem ite_nf {A B : Prop} (h : A) : if (!false) = true then A else B := h
theorem ite_b {b : Bool} {A B : Prop} (h1 : b = true → A) (h2 : b = false → B) : if b = true then A else B := by
  cases b with
  | true => exact h1 rfl
  | false => exact h2 rfl
end
/-! ### readings by name -/
section
variable {X : Cx} {H : Hp} {Q : VK} {K : PySem.W.Frag}
def qInt1 : List V → Hp → VK → Prop := fun xs H Q => (∃ i, xs = [.int i] ∧ Q (.int i) H) ∨ ∃ k, xs = [.bl k] ∧ Q (.int (if k then 1 else 0)) H
theorem k_int1 : CallR X (.type "int") qInt1 := call_int1
theorem go_int1 {a : Int} (h : Q (.int a) H) : qInt1 [.int a] H Q := .inl ⟨a, rfl, h⟩
theorem go_intB {b : Bool} (h : Q (.int (if b then 1 else 0)) H) : qInt1 [.bl b] H Q := .inr ⟨b, rfl, h⟩
def qBool1 : List V → Hp → VK → Prop := fun xs H Q => (∃ i, xs = [.int i] ∧ Q (.bl (i != 0)) H) ∨ ∃ k, xs = [.bl k] ∧ Q (.bl k) H
theorem k_bool1 : CallR X (.type "bool") qBool1 := call_bool1
theorem go_bool1 {a : Int} (h : Q (.bl (a != 0)) H) : qBool1 [.int a] H Q := .inl ⟨a, rfl, h⟩
theorem go_boolB {b : Bool} (h : Q (.bl b) H) : qBool1 [.bl b] H Q := .inr ⟨b, rfl, h⟩
def qStrInt : List V → Hp → VK → Prop := fun xs H Q => ∃ i, xs = [.int i] ∧ i.natAbs.log2 < 1920 ∧ Q (.str (toString i)) H
theorem k_str_int : CallR X (.type "str") qStrInt := call_str_int
theorem go_str_int {a : Int} (ha : a.natAbs.log2 < 1920) (h : Q (.str (toString a)) H) : qStrInt [.int a] H Q := ⟨a, rfl, ha, h⟩
def qAbs : List V → Hp → VK → Prop := fun xs H Q => ∃ i, xs = [.int i] ∧ Q (.int (if i < 0 then -i else i)) H
theorem k_abs : CallR X (.builtin "abs") qAbs := call_abs
theorem go_abs {a : Int} (h : Q (.int (if a < 0 then -a else a)) H) : qAbs [.int a] H Q := ⟨a, rfl, h⟩
def qMax2 : List V → Hp → VK → Prop := fun xs H Q => ∃ i j, xs = [.int i, .int j] ∧ Q (.int (if j > i then j else i)) H
theorem k_max2 (hc : X.calm = true) : CallR X (.builtin "max") qMax2 := call_max2 hc
theorem go_max2 {a b : Int} (h : Q (.int (if b > a then b else a)) H) : qMax2 [.int a, .int b] H Q := ⟨a, b, rfl, h⟩
def qMin2 : List V → Hp → VK → Prop := fun xs H Q => ∃ i j, xs = [.int i, .int j] ∧ Q (.int (if j < i then j else i)) H
theorem k_min2 (hc : X.calm = true) : CallR X (.builtin "min") qMin2 := call_min2 hc
theorem go_min2 {a b : Int} (h : Q (.int (if b < a then b else a)) H) : qMin2 [.int a, .int b] H Q := ⟨a, b, rfl, h⟩
def qOrd : List V → Hp → VK → Prop := fun xs H Q => ∃ x, xs = [.str x] ∧ x.length = 1 ∧ Q (.int (x.cps.getD 0 0 : Nat)) H
theorem k_ord : CallR X (.builtin "ord") qOrd := call_ord
theorem go_ord {c : Nat} (h : Q (.int (c : Nat)) H) : qOrd [.str ⟨#[c]⟩] H Q := ⟨⟨#[c]⟩, rfl, rfl, h⟩
def qLen (K : PySem.W.Frag) : List V → Hp → VK → Prop := fun xs H Q => ∃ x n, xs = [x] ∧ LenV K x H n ∧ Q (.int n) H
theorem k_len : CallR X (.builtin "len") (qLen X.K) := call_len
theorem go_lenL {a : Addr} {xs : List V} (hs : SqL K H a xs) (h : Q (.int (xs.length : Nat)) H) : qLen K [.ref a] H Q := ⟨.ref a, xs.length, rfl, .inl ⟨xs, hs, rfl⟩, h⟩
theorem go_lenT {a : Addr} {xs : List V} (hs : SqT K H a xs) (h : Q (.int (xs.length : Nat)) H) : qLen K [.ref a] H Q := ⟨.ref a, xs.length, rfl, .inr ⟨xs, hs, rfl⟩, h⟩
theorem go_lenS {y : Str} (hz : y.length ≤ sizeLine) (h : Q (.int (y.length : Nat)) H) : qLen K [.str y] H Q := ⟨.str y, y.length, rfl, ⟨hz, rfl⟩, h⟩
def qListOf (K : PySem.W.Frag) : List V → Hp → VK → Prop := fun xs H Q => ∃ p ys, xs = [.ref p] ∧ (SqL K H p ys ∨ SqT K H p ys) ∧ ∀ l, H l = none → Q (.ref l) (upd H l (.lst ys))
theorem k_list_of : CallR X (.type "list") (qListOf X.K) := call_list_of
theorem go_listOfL {a : Addr} {xs : List V} (hs : SqL K H a xs) (h : ∀ l, H l = none → Q (.ref l) (upd H l (.lst xs))) : qListOf K [.ref a] H Q := ⟨a, xs, rfl, .inl hs, h⟩
theorem go_listOfT {a : Addr} {xs : List V} (hs : SqT K H a xs) (h : ∀ l, H l = none → Q (.ref l) (upd H l (.lst xs))) : qListOf K [.ref a] H Q := ⟨a, xs, rfl, .inr hs, h⟩
def qTupOf (K : PySem.W.Frag) : List V → Hp → VK → Prop := fun xs H Q => ∃ p ys, xs = [.ref p] ∧ ((SqL K H p ys ∧ ∀ l, H l = none → Q (.ref l) (upd H l (.tup ys))) ∨ (SqT K H p ys ∧ Q (.ref p) H))
theorem k_tuple_of : CallR X (.type "tuple") (qTupOf X.K) := call_tuple_of
theorem go_tupOfL {a : Addr} {xs : List V} (hs : SqL K H a xs) (h : ∀ l, H l = none → Q (.ref l) (upd H l (.tup xs))) : qTupOf K [.ref a] H Q := ⟨a, xs, rfl, .inl ⟨hs, h⟩⟩
theorem go_tupOfT {a : Addr} {xs : List V} (hs : SqT K H a xs) (h : Q (.ref a) H) : qTupOf K [.ref a] H Q := ⟨a, xs, rfl, .inr ⟨hs, h⟩⟩
theorem go_sum {a : Addr} {ns : List Int} (hs : SqL K H a (ns.map V.int)) (h : Q (.int ns.sum) H) : rSum K [.ref a] H Q := ⟨a, ns, rfl, hs, h⟩
theorem go_all {a : Addr} {bs : List Bool} (hs : SqL K H a (bs.map V.bl)) (h : Q (.bl (bs.all id)) H) : rAll K [.ref a] H Q := ⟨a, bs, rfl, hs, h⟩
theorem go_any {a : Addr} {bs : List Bool} (hs : SqL K H a (bs.map V.bl)) (h : Q (.bl (bs.any id)) H) : rAny K [.ref a] H Q := ⟨a, bs, rfl, hs, h⟩
def qIsN : R2 := fun x y H Q => y = .non ∧ Q (.bl (decide (x = .non))) H
theorem o_isN : OpR X (compareOp .Is) qIsN := op_isN
def qNotN : R2 := fun x y H Q => y = .non ∧ Q (.bl (!decide (x = .non))) H
theorem o_notN : OpR X (compareOp .IsNot) qNotN := op_notN
theorem go_isN0 (h : Q (.bl true) H) : qIsN .non .non H Q := ⟨rfl, by simpa using h⟩
theorem go_isNI {i : Int} (h : Q (.bl false) H) : qIsN (.int i) .non H Q := ⟨rfl, by simpa using h⟩
theorem go_isNS {i : Str} (h : Q (.bl false) H) : qIsN (.str i) .non H Q := ⟨rfl, by simpa using h⟩
theorem go_isNB {i : Bool} (h : Q (.bl false) H) : qIsN (.bl i) .non H Q := ⟨rfl, by simpa using h⟩
theorem go_isNR {i : Addr} (h : Q (.bl false) H) : qIsN (.ref i) .non H Q := ⟨rfl, by simpa using h⟩
theorem go_notN0 (h : Q (.bl false) H) : qNotN .non .non H Q := ⟨rfl, by simpa using h⟩
theorem go_notNI {i : Int} (h : Q (.bl true) H) : qNotN (.int i) .non H Q := ⟨rfl, by simpa using h⟩
theorem go_notNS {i : Str} (h : Q (.bl true) H) : qNotN (.str i) .non H Q := ⟨rfl, by simpa using h⟩
theorem go_notNB {i : Bool} (h : Q (.bl true) H) : qNotN (.bl i) .non H Q := ⟨rfl, by simpa using h⟩
theorem go_notNR {i : Addr} (h : Q (.bl true) H) : qNotN (.ref i) .non H Q := ⟨rfl, by simpa using h⟩
def qLtS : R2 := fun x y H Q => ∃ i j, x = .str i ∧ y = .str j ∧ Q (.bl (decide (i.cps.toList < j.cps.toList))) H
theorem o_lt_str : OpR X (compareOp .Lt) qLtS := op_lt_str
theorem go_ltS {a b : Str} (h : Q (.bl (decide (a.cps.toList < b.cps.toList))) H) : qLtS (.str a) (.str b) H Q := ⟨a, b, rfl, rfl, h⟩
def qLeS : R2 := fun x y H Q => ∃ i j, x = .str i ∧ y = .str j ∧ Q (.bl (!decide (j.cps.toList < i.cps.toList))) H
theorem o_le_str : OpR X (compareOp .LtE) qLeS := op_le_str
theorem go_leS {a b : Str} (h : Q (.bl (!decide (b.cps.toList < a.cps.toList))) H) : qLeS (.str a) (.str b) H Q := ⟨a, b, rfl, rfl, h⟩
def qAddS : R2 := fun x y H Q => ∃ i j, x = .str i ∧ y = .str j ∧ i.length + j.length ≤ sizeLine ∧ Q (.str (i ++ j)) H
theorem o_add_str : OpR X (binaryOp .Add) qAddS := op_add_str
theorem go_addS {a b : Str} (hz : a.length + b.length ≤ sizeLine) (h : Q (.str (a ++ b)) H) : qAddS (.str a) (.str b) H Q := ⟨a, b, rfl, rfl, hz, h⟩
theorem go_cat {l b : Addr} {xs zs : List V} (h1 : H l = some (.lst xs)) (h2 : H b = some (.lst zs)) (hz : xs.length + zs.length ≤ sizeLine) (h : ∀ p, H p = none → Q (.ref p) (upd H p (.lst (xs ++ zs)))) : rCat (.ref l) (.ref b) H Q := ⟨l, b, xs, zs, rfl, rfl, h1, h2, hz, h⟩
theorem go_slS {z : Str} {lo hi : Option Int} (hz : z.length ≤ sizeLine) (h : Q (.str (cutS z lo hi)) H) : rSlS (.str z) lo hi H Q := ⟨z, rfl, hz, h⟩
theorem go_ixS {z : Str} {i : Int} {c : Nat} (hz : z.length ≤ sizeLine) (e : atI z.cps.toList i = some c) (h : Q (.str ⟨#[c]⟩) H) : rIxS (.str z) (.int i) H Q := ⟨z, i, c, rfl, rfl, hz, e, h⟩
theorem go_append {l : Addr} {xs : List V} {y : V} (e : H l = some (.lst xs)) (hz : xs.length < sizeLine) (h : Q .non (upd H l (.lst (xs ++ [y])))) : rAppend (.ref l) [y] H Q := ⟨l, xs, y, rfl, rfl, e, hz, h⟩
theorem go_BM {T : String} {r : V → List V → Hp → VK → Prop} {to : TE} {t : TA} {σ : L2.St} (h : to σ H fun x H1 => tyV K T x H1 ∧ t σ H1 fun xs H2 => r x xs H2 Q) : tBM K T r to t σ H Q := h
theorem go_BM0 {T : String} {r : V → List V → Hp → VK → Prop} {to : TE} {σ : L2.St} (h : to σ H fun x H1 => tyV K T x H1 ∧ r x [] H1 Q) : tBM0 K T r to σ H Q := h
end
/-! ### rules within a comprehension: the written part told apart -/
section
variable {X : Cx} {K : PySem.W.Frag} {e : Expr} {ta : TE} {f : Str} {pos : Pos}
theorem pe_fldK (hK : X.K = K) (he : PE X e ta) (hb : attributeBase e f X.env (eval e X.env) = eval e X.env) : PE X (.Attribute e f pos) (tFld K ta f) := by subst hK; exact pe_fld he hb
theorem ix_listK (hK : X.K = K) : IxR X (rIxL K) := by subst hK; exact ix_list
theorem ix_tupK (hK : X.K = K) : IxR X (rIxT K) := by subst hK; exact ix_tup
theorem ix_seqK (hK : X.K = K) : IxR X (rIx K) := by subst hK; exact ix_seq
theorem sl_listK (hK : X.K = K) : SlR X (rSlL K) := by subst hK; exact sl_list
theorem k_lenK (hK : X.K = K) : CallR X (.builtin "len") (qLen K) := by subst hK; exact k_len
theorem call_isiK (hK : X.K = K) : CallR X (.builtin "isinstance") (rIsi K) := by subst hK; exact call_isi
theorem k_list_ofK (hK : X.K = K) : CallR X (.type "list") (qListOf K) := by subst hK; exact k_list_of
theorem k_tuple_ofK (hK : X.K = K) : CallR X (.type "tuple") (qTupOf K) := by subst hK; exact k_tuple_of
theorem cr_sumK (hK : X.K = K) (hc : X.calm = true) : CallR X (.builtin "sum") (rSum K) := by subst hK; exact cr_sum hc
theorem cr_allK (hK : X.K = K) (hc : X.calm = true) : CallR X (.builtin "all") (rAll K) := by subst hK; exact cr_all hc
theorem cr_anyK (hK : X.K = K) (hc : X.calm = true) : CallR X (.builtin "any") (rAny K) := by subst hK; exact cr_any hc
theorem op_in_seqK (hK : X.K = K) : OpR X (compareOp .In) (rIn K false) := by subst hK; exact op_in_seq
theorem op_notIn_seqK (hK : X.K = K) : OpR X (compareOp .NotIn) (rIn K true) := by subst hK; exact op_notIn_seq
theorem op_eqDK (hK : X.K = K) (hu : X.A.units + 64 < cLine) : OpR X (compareOp .Eq) (rEqD K) := by subst hK; exact op_eqD hu
theorem op_neDK (hK : X.K = K) (hu : X.A.units + 64 < cLine) : OpR X (compareOp .NotEq) (rNeD K) := by subst hK; exact op_neD hu
end
/-! ### heaps -/
theorem same_new {H : Hp} {p : Addr} {o : HO} (h : H p = none) : Same H (upd H p o) := fun b x e => by
  rw [upd_ne (ne_of_none e h)]
  exact e
/-- an object that H does not know may change -/
theorem same_mut {H H' : Hp} {p : Addr} {o : HO} (e : Same H H') (h : H p = none) : Same H (upd H' p o) := fun a u ha => by
  rw [upd_ne (ne_of_none ha h)]
  exact e a u ha
theorem same_sqL {K : PySem.W.Frag} {H H' : Hp} {a : Addr} {xs : List V} (e : Same H H') (h : SqL K H a xs) : SqL K H' a xs := e.seq h
theorem same_rd {H H' : Hp} {a : Addr} {u : HO} (e : Same H H') (h : Rd H a u) : Rd H' a u := by
  rcases h with h | ⟨o, h⟩
  · exact Or.inl (e a _ h)
  · exact Or.inr ⟨o, e a _ h⟩
theorem same_sqT {K : PySem.W.Frag} {H H' : Hp} {a : Addr} {xs : List V} (e : Same H H') (h : SqT K H a xs) : SqT K H' a xs := by
  rcases h with h | h
  · exact Or.inl (same_rd e h)
  · exact Or.inr h
theorem sz {n : Nat} (h : n ≤ 100000) : n ≤ sizeLine := Nat.le_trans h (by decide)
theorem szlt {n : Nat} (h : n ≤ 100000) : n < sizeLine := Nat.lt_of_le_of_lt h (by decide)
/-- the list of ints at a place in bounds -/
theorem at_nat {xs : List V} {i : Nat} {v : V} (h : xs[i]? = some v) : atI xs (i : Int) = some v := atI_nat h
theorem at_int {ns : List Int} {k : Int} (h0 : 0 ≤ k) (h : k < ns.length) : atI (ns.map V.int) k = some (.int (ns.getD k.toNat 0)) := by
  have e : k = (k.toNat : Int) := by omega
  have h2 : k.toNat < ns.length := by omega
  rw [e]
  refine at_nat ?_
  rw [List.getElem?_map, Int.toNat_natCast, List.getElem?_eq_getElem h2, List.getD_eq_getElem?_getD, List.getElem?_eq_getElem h2]
  rfl
/-! ### lists of ints: ==, slices, sums -/
theorem dp_ints {K : PySem.W.Frag} {H : Hp} : ∀ ns : List Int, DpAll K H (ns.map V.int) (ns.map PyData.int)
  | [] => .nil
  | n :: r => .cons (.int n) (dp_ints r)
theorem eqv_int (a b : Int) : PyData.eqv (.int a) (.int b) = decide (a = b) := by
  simp only [PyData.eqv]
  by_cases h : a = b
  · simp [h]
  · simp [h]
theorem eqvAll_ints : ∀ xs ys : List Int, PyData.eqvAll (xs.map PyData.int) (ys.map PyData.int) = decide (xs = ys)
  | [], [] => by simp [PyData.eqvAll]
  | [], _ :: _ => by simp [PyData.eqvAll]
  | _ :: _, [] => by simp [PyData.eqvAll]
  | x :: xs, y :: ys => by
    simp only [List.map_cons, PyData.eqvAll, eqv_int, eqvAll_ints xs ys]
    by_cases h : x = y <;> by_cases h2 : xs = ys <;> simp [h, h2]
theorem eqv_ints (xs ys : List Int) : PyData.eqv (.list (xs.map PyData.int)) (.list (ys.map PyData.int)) = decide (xs = ys) := by
  rw [PyData.eqv]
  exact eqvAll_ints xs ys
theorem depth_ints : ∀ xs : List Int, PyData.depthAll (xs.map PyData.int) = 0
  | [] => rfl
  | x :: xs => by
    rw [List.map_cons]
    unfold PyData.depthAll
    rw [depth_ints xs]
    rfl
theorem canLay_ints : ∀ xs : List Int, PyData.canLayAll0 (xs.map PyData.int) = true
  | [] => rfl
  | x :: xs => by
    rw [List.map_cons]
    simp only [PyData.canLayAll0, PyData.canLay0, canLay_ints xs, Bool.and_self]
theorem shaped_ints (xs : List Int) : SeqAt.shaped (.list (xs.map PyData.int)) = true := by
  unfold SeqAt.shaped
  have h1 : PyData.canLay0 (.list (xs.map PyData.int)) = true := by
    simp only [PyData.canLay0]
    exact canLay_ints xs
  have h2 : PyData.depth (.list (xs.map PyData.int)) ≤ 64 := by
    unfold PyData.depth
    rw [depth_ints xs]
    decide
  rw [h1, decide_eq_true h2]
  rfl
theorem go_eqInts {K : PySem.W.Frag} {H : Hp} {Q : VK} {a b : Addr} {xs ys : List Int} (h1 : SqL K H a (xs.map V.int)) (h2 : SqL K H b (ys.map V.int)) (h : Q (.bl (decide (xs = ys))) H) : rEqD K (.ref a) (.ref b) H Q :=
  ⟨_, _, .lst h1 (dp_ints xs), .lst h2 (dp_ints ys), shaped_ints xs, shaped_ints ys, by rw [eqv_ints]; exact h⟩
theorem go_neInts {K : PySem.W.Frag} {H : Hp} {Q : VK} {a b : Addr} {xs ys : List Int} (h1 : SqL K H a (xs.map V.int)) (h2 : SqL K H b (ys.map V.int)) (h : Q (.bl (!decide (xs = ys))) H) : rNeD K (.ref a) (.ref b) H Q :=
  ⟨_, _, .lst h1 (dp_ints xs), .lst h2 (dp_ints ys), shaped_ints xs, shaped_ints ys, by rw [eqv_ints]; exact h⟩
theorem cut_to (xs : List V) (k : Nat) : cutV xs none (some (k : Int)) = xs.take k := by
  unfold cutV
  rw [HT.sIx_none, HT.sIx_nat, List.drop_zero, Nat.sub_zero]
  rcases Nat.le_total k xs.length with h | h
  · rw [Nat.min_eq_left h]
  · rw [Nat.min_eq_right h, List.take_of_length_le (Nat.le_refl _), List.take_of_length_le h]
theorem cut_from (xs : List V) (k : Nat) : cutV xs (some (k : Int)) none = xs.drop k := by
  unfold cutV
  rw [HT.sIx_none, HT.sIx_nat]
  rcases Nat.le_total k xs.length with h | h
  · rw [Nat.min_eq_left h, List.take_of_length_le]
    rw [List.length_drop]
    exact Nat.le_refl _
  · rw [Nat.min_eq_right h, List.drop_of_length_le (Nat.le_refl _), List.drop_of_length_le h, List.take_nil]
theorem sum_take_succ (ws : List Int) (i : Nat) (h : i < ws.length) : (ws.take (i + 1)).sum = (ws.take i).sum + ws.getD i 0 := by
  rw [List.take_add_one, List.getElem?_eq_getElem h, List.sum_append, List.getD_eq_getElem?_getD, List.getElem?_eq_getElem h]
  simp
theorem sum_nonneg : ∀ {ws : List Int}, (∀ w ∈ ws, 0 ≤ w) → 0 ≤ ws.sum
  | [], _ => by simp
  | w :: r, h => by
    have h1 := h w (by simp)
    have h2 := sum_nonneg (ws := r) fun z hz => h z (by simp [hz])
    rw [List.sum_cons]
    omega
theorem sum_take_le {ws : List Int} (h : ∀ w ∈ ws, 0 ≤ w) (i : Nat) : (ws.take i).sum ≤ ws.sum := by
  have e := congrArg List.sum (List.take_append_drop i ws)
  rw [List.sum_append] at e
  have h2 := sum_nonneg (ws := ws.drop i) fun z hz => h z (List.mem_of_mem_drop hz)
  omega
/-- min, max as they are told -/
theorem lt_of_len {a b : Nat} (h : a < b) : (a : Int) < (b : Int) := by omega
/-! ### list comprehensions whose element changes nothing that stood -/
section
variable {K : PySem.W.Frag} {σ : L2.St} {H H1 : Hp} {Q : VK} {tl te : TE} {g : TG} {tt : TT} {vs : List Nat} {j : Nat} {wi : TI}
theorem go_iList {R : It → Hp → Prop} (h : tl σ H fun x H1 => ∃ a, x = .ref a ∧ (∃ xs, SqL K H1 a xs) ∧ R (Itl K a) H1) : iList K tl σ H R := h
theorem go_iListR {a : Addr} {xs : List V} {R : Addr → Prop} (hs : SqL K H a xs) (h : R a) : ∃ b, V.ref a = .ref b ∧ (∃ xs, SqL K H b xs) ∧ R b := ⟨a, rfl, ⟨xs, hs⟩, h⟩
theorem go_iRng1 {ta : TA} {R : It → Hp → Prop} (h : ta σ H fun vs H1 => ∃ j : Int, vs = [.int j] ∧ -(2 ^ 62) ≤ j ∧ j < 2 ^ 62 ∧ R (Itr 0 j.toNat) H1) : iRng1 ta σ H R := h
theorem go_iRng2 {ta : TA} {R : It → Hp → Prop} (h : ta σ H fun vs H1 => ∃ i j : Int, vs = [.int i, .int j] ∧ (-(2 ^ 62) ≤ i ∧ i < 2 ^ 62 ∧ -(2 ^ 62) ≤ j ∧ j < 2 ^ 62) ∧ R (Itr i (j - i).toNat) H1) : iRng2 ta σ H R := h
theorem go_rng1 {n : Int} {R : It → Hp → Prop} (hn : -(2 ^ 62) ≤ n ∧ n < 2 ^ 62) (h : R (Itr 0 n.toNat) H) : ∃ j : Int, [V.int n] = [.int j] ∧ -(2 ^ 62) ≤ j ∧ j < 2 ^ 62 ∧ R (Itr 0 j.toNat) H := ⟨n, rfl, hn.1, hn.2, h⟩
theorem go_rng2 {m n : Int} {R : It → Hp → Prop} (hm : -(2 ^ 62) ≤ m ∧ m < 2 ^ 62 ∧ -(2 ^ 62) ≤ n ∧ n < 2 ^ 62) (h : R (Itr m (n - m).toNat) H) :
    ∃ i j : Int, [V.int m, V.int n] = [.int i, .int j] ∧ (-(2 ^ 62) ≤ i ∧ i < 2 ^ 62 ∧ -(2 ^ 62) ≤ j ∧ j < 2 ^ 62) ∧ R (Itr i (j - i).toNat) H := ⟨m, n, rfl, hm, h⟩
theorem go_yes {QB : Bool → Hp → Prop} (h : QB true H) : tYes σ H QB := h
theorem go_lc (h : wi σ H fun J H1 => ∀ D, H1 D = none → ∃ W : Nat → Nat → Hp → Prop, (∃ m, W 0 m (upd H1 D (.lst []))) ∧ ∀ i m H, W i m H →
  (J.stop i H ∧ Q (.ref D) H) ∨ (J.go i H ∧ ∃ Nx : Hp → Prop, (∀ H', Nx H' → ∃ m', m' < m ∧ W (i + 1) m' H') ∧ ∀ x H', J.yld i H x H' → g x (wipe σ vs) H' fun σ2 H2 => wipe σ2 vs = wipe σ vs ∧ tt σ2 H2 fun b H3 =>
    if b = true then te σ2 H3 fun y H4 => ∃ acc, H4 D = some (.lst acc) ∧ acc.length < sizeLine ∧ Nx (upd H4 D (.lst (acc ++ [y]))) else Nx H3)) : tLc wi g tt te vs σ H Q := h
theorem go_for {D : Ends} {tb : TS} (h : wi σ H fun J H1 => ∃ W : Nat → Nat → L2.St → Hp → Prop, (∃ m, W 0 m σ H1) ∧ ∀ i m σ H, W i m σ H →
  (J.stop i H ∧ D.nx σ H) ∨ (J.go i H ∧ ∃ N : L2.St → Hp → Prop, (∀ σ' H', N σ' H' → ∃ m', m' < m ∧ W (i + 1) m' σ' H') ∧ ∀ x H', J.yld i H x H' → g x σ H' fun σ2 H2 => tb { D with nx := N, ct := N, bk := D.nx } σ2 H2)) : tFor wi g tb D σ H := h
/-- what is in the list being made: all of them so, and all else as it was -/
structure Acc (P : Nat → V → Prop) (H : Hp) (D : Addr) (i : Nat) (H' : Hp) : Prop where
  made : ∃ ys : List V, H' D = some (.lst ys) ∧ ys.length = i ∧ ∀ k y, ys[k]? = some y → P k y
  same : Same H H'
theorem acc_step {P : Nat → V → Prop} {H H' : Hp} {D : Addr} {i : Nat} {y : V} (hD : H D = none) (a : Acc P H D i H') (hy : P i y) (hi : i < 100000) : ∃ acc, H' D = some (.lst acc) ∧ acc.length < sizeLine ∧ Acc P H D (i + 1) (upd H' D (.lst (acc ++ [y]))) := by
  obtain ⟨⟨ys, e, hl, hp⟩, hs⟩ := a
  refine ⟨ys, e, szlt (by omega), ⟨ys ++ [y], upd_same, by simp [hl], fun k z hz => ?_⟩, same_mut hs hD⟩
  rcases Nat.lt_or_ge k ys.length with h | h
  · rw [List.getElem?_append_left h] at hz
    exact hp k z hz
  · rw [List.getElem?_append_right h] at hz
    rcases Nat.eq_or_lt_of_le h with e2 | e2
    · rw [← e2, Nat.sub_self] at hz
      cases hz
      rw [← e2, hl]
      exact hy
    · rw [List.getElem?_eq_none (by simp; omega)] at hz
      cases hz
theorem Acc.keep {P : Nat → V → Prop} {H H' H2 : Hp} {D : Addr} {i : Nat} (a : Acc P H D i H') (s : Same H' H2) : Acc P H D i H2 := by
  obtain ⟨⟨ys, e, hl, hp⟩, hs⟩ := a
  exact ⟨⟨ys, s _ _ e, hl, hp⟩, hs.trans s⟩
/-- [e for x in a list], behind the list's reading -/
theorem lcL {R : Addr → Hp → Prop} {a : Addr} (xs : List V) (P : Nat → V → Prop) (hs : SqL K H1 a xs) (hz : xs.length ≤ 100000) (hw : ∀ x, wipe ((wipe σ vs).set j x) vs = wipe σ vs)
    (he : ∀ (i : Nat) x H', xs[i]? = some x → Same H1 H' → ∀ R : VK, (∀ y H'', Same H' H'' → P i y → R y H'') → te ((wipe σ vs).set j (some x)) H' R)
    (q : ∀ D (ys : List V) H2, H1 D = none → Same H1 H2 → H2 D = some (.lst ys) → ys.length = xs.length → (∀ k y, ys[k]? = some y → P k y) → R D H2) :
    ∃ b, V.ref a = .ref b ∧ (∃ xs, SqL K H1 b xs) ∧ ∀ D, H1 D = none → ∃ W : Nat → Nat → Hp → Prop, (∃ m, W 0 m (upd H1 D (.lst []))) ∧ ∀ i m H, W i m H →
      ((Itl K b).stop i H ∧ R D H) ∨ ((Itl K b).go i H ∧ ∃ Nx : Hp → Prop, (∀ H', Nx H' → ∃ m', m' < m ∧ W (i + 1) m' H') ∧ ∀ x H', (Itl K b).yld i H x H' → gName j x (wipe σ vs) H' fun σ2 H2 => wipe σ2 vs = wipe σ vs ∧ tYes σ2 H2 fun b H3 =>
        if b = true then te σ2 H3 fun y H4 => ∃ acc, H4 D = some (.lst acc) ∧ acc.length < sizeLine ∧ Nx (upd H4 D (.lst (acc ++ [y]))) else Nx H3) := by
  refine ⟨a, rfl, ⟨xs, hs⟩, fun D hD => ?_⟩
  refine lc_list (xs := xs) (Acc P H1 D) ⟨⟨[], upd_same, rfl, fun k y h => by simp at h⟩, same_new hD⟩ (fun i H _ p => same_sqL p.same hs) (fun i x H hx p => ?_) fun H p => ?_
  · refine ⟨hw _, ?_⟩
    refine go_yes ?_
    refine iteT ?_
    refine he i x H hx p.same _ fun y H4 s4 hy => ?_
    have hi := (List.getElem?_eq_some_iff.mp hx).1
    exact acc_step hD (p.keep s4) hy (by omega)
  · obtain ⟨⟨ys, e, hl, hp⟩, s⟩ := p
    exact q D ys H hD s e hl hp
/-- [e for x in range(n)], behind the reading of n -/
theorem lcR1 {R : Addr → Hp → Prop} {n : Int} (P : Nat → V → Prop) (hz : n ≤ 100000) (hn : -(2 ^ 62) ≤ n) (hw : ∀ x, wipe ((wipe σ vs).set j x) vs = wipe σ vs)
    (he : ∀ (i : Nat) H', i < n.toNat → Same H1 H' → ∀ R : VK, (∀ y H'', Same H' H'' → P i y → R y H'') → te ((wipe σ vs).set j (some (.int i))) H' R)
    (q : ∀ D (ys : List V) H2, H1 D = none → Same H1 H2 → H2 D = some (.lst ys) → ys.length = n.toNat → (∀ k y, ys[k]? = some y → P k y) → R D H2) :
    ∃ k : Int, [V.int n] = [.int k] ∧ -(2 ^ 62) ≤ k ∧ k < 2 ^ 62 ∧ ∀ D, H1 D = none → ∃ W : Nat → Nat → Hp → Prop, (∃ m, W 0 m (upd H1 D (.lst []))) ∧ ∀ i m H, W i m H →
      ((Itr 0 k.toNat).stop i H ∧ R D H) ∨ ((Itr 0 k.toNat).go i H ∧ ∃ Nx : Hp → Prop, (∀ H', Nx H' → ∃ m', m' < m ∧ W (i + 1) m' H') ∧ ∀ x H', (Itr 0 k.toNat).yld i H x H' → gName j x (wipe σ vs) H' fun σ2 H2 => wipe σ2 vs = wipe σ vs ∧ tYes σ2 H2 fun b H3 =>
        if b = true then te σ2 H3 fun y H4 => ∃ acc, H4 D = some (.lst acc) ∧ acc.length < sizeLine ∧ Nx (upd H4 D (.lst (acc ++ [y]))) else Nx H3) := by
  refine ⟨n, rfl, hn, by omega, fun D hD => ?_⟩
  refine lc_range (lo := 0) (n := n.toNat) (Acc P H1 D) ⟨⟨[], upd_same, rfl, fun k y h => by simp at h⟩, same_new hD⟩ (fun i H hi p => ?_) fun H p => ?_
  · refine ⟨hw _, ?_⟩
    refine go_yes ?_
    refine iteT ?_
    rw [Int.zero_add]
    refine he i H hi p.same _ fun y H4 s4 hy => ?_
    exact acc_step hD (p.keep s4) hy (by omega)
  · obtain ⟨⟨ys, e, hl, hp⟩, s⟩ := p
    exact q D ys H hD s e hl hp
/-- for x in a list, behind the list's reading -/
theorem foL {D : Ends} {tb : TS} {a : Addr} (xs : List V) (Pv : Nat → L2.St → Hp → Prop) (h0 : Pv 0 σ H1) (hl : ∀ i σ H, i ≤ xs.length → Pv i σ H → SqL K H a xs)
    (hs : ∀ i x σ H, xs[i]? = some x → Pv i σ H → g x σ H fun σ2 H2 => tb { D with nx := Pv (i + 1), ct := Pv (i + 1), bk := D.nx } σ2 H2) (hd : ∀ σ H, Pv xs.length σ H → D.nx σ H) :
    ∃ b, V.ref a = .ref b ∧ (∃ xs, SqL K H1 b xs) ∧ ∃ W : Nat → Nat → L2.St → Hp → Prop, (∃ m, W 0 m σ H1) ∧ ∀ i m σ H, W i m σ H →
      ((Itl K b).stop i H ∧ D.nx σ H) ∨ ((Itl K b).go i H ∧ ∃ N : L2.St → Hp → Prop, (∀ σ' H', N σ' H' → ∃ m', m' < m ∧ W (i + 1) m' σ' H') ∧ ∀ x H', (Itl K b).yld i H x H' → g x σ H' fun σ2 H2 => tb { D with nx := N, ct := N, bk := D.nx } σ2 H2) :=
  ⟨a, rfl, ⟨xs, hl 0 σ H1 (Nat.zero_le _) h0⟩, for_list Pv h0 hl hs hd⟩
/-- for x in range(n), behind the reading of n -/
theorem foR1 {D : Ends} {tb : TS} {n : Int} (Pv : Nat → L2.St → Hp → Prop) (hn : -(2 ^ 62) ≤ n ∧ n < 2 ^ 62) (h0 : Pv 0 σ H1)
    (hs : ∀ (i : Nat) σ H, (i : Int) < n → Pv i σ H → g (.int i) σ H fun σ2 H2 => tb { D with nx := Pv (i + 1), ct := Pv (i + 1), bk := D.nx } σ2 H2) (hd : ∀ σ H, Pv n.toNat σ H → D.nx σ H) :
    ∃ k : Int, [V.int n] = [.int k] ∧ -(2 ^ 62) ≤ k ∧ k < 2 ^ 62 ∧ ∃ W : Nat → Nat → L2.St → Hp → Prop, (∃ m, W 0 m σ H1) ∧ ∀ i m σ H, W i m σ H →
      ((Itr 0 k.toNat).stop i H ∧ D.nx σ H) ∨ ((Itr 0 k.toNat).go i H ∧ ∃ N : L2.St → Hp → Prop, (∀ σ' H', N σ' H' → ∃ m', m' < m ∧ W (i + 1) m' σ' H') ∧ ∀ x H', (Itr 0 k.toNat).yld i H x H' → g x σ H' fun σ2 H2 => tb { D with nx := N, ct := N, bk := D.nx } σ2 H2) :=
  ⟨n, rfl, hn.1, hn.2, for_range Pv h0 (fun i σ H hi p => by rw [Int.zero_add]; exact hs i σ H (by omega) p) hd⟩
/-- while, by a measure that the invariant bears -/
theorem go_while {D : Ends} {c : TT} {tb : TS} (W : Nat → L2.St → Hp → Prop) (m : Nat) (h0 : W m σ H) (hs : ∀ m σ H, W m σ H → c σ H fun b H1 => if b = true then ∃ N : L2.St → Hp → Prop, (∀ σ' H', N σ' H' → ∃ m', m' < m ∧ W m' σ' H') ∧ tb { D with nx := N, ct := N, bk := D.nx } σ H1 else D.nx σ H1) :
    tWhile c tb D σ H := ⟨W, ⟨m, h0⟩, hs⟩
theorem go_loop {D : Ends} {tb : TS} {W : Nat → L2.St → Hp → Prop} {m : Nat} (h : tb { D with nx := fun σ' H' => ∃ m', m' < m ∧ W m' σ' H', ct := fun σ' H' => ∃ m', m' < m ∧ W m' σ' H', bk := D.nx } σ H) :
    ∃ N : L2.St → Hp → Prop, (∀ σ' H', N σ' H' → ∃ m', m' < m ∧ W m' σ' H') ∧ tb { D with nx := N, ct := N, bk := D.nx } σ H := ⟨_, fun _ _ h => h, h⟩
end
/-- all ints, each so -/
theorem ints_of {P : Int → Prop} : ∀ {ys : List V}, (∀ (k : Nat) y, ys[k]? = some y → ∃ w, y = V.int w ∧ P w) → ∃ ws : List Int, ys = ws.map V.int ∧ ∀ w ∈ ws, P w
  | [], _ => ⟨[], rfl, fun _ h => nomatch h⟩
  | y :: r, h => by
    obtain ⟨w, e, p⟩ := h 0 y rfl
    obtain ⟨ws, e2, p2⟩ := ints_of (ys := r) fun k z hz => h (k + 1) z hz
    refine ⟨w :: ws, by rw [e, e2, List.map_cons], fun z hz => ?_⟩
    rcases List.mem_cons.mp hz with rfl | hz
    · exact p
    · exact p2 z hz
end Gx

set_option Elab.async false
set_option linter.all false
set_option maxRecDepth 100000
set_option maxHeartbeats 4000000
/-! Own lemmas: a pool of numbers (a list that is changed by place), data, comprehensions that change it. -/
namespace Gx
open PySem PySem.Spec PyProof.Rows L2
section
variable {K : PySem.W.Frag} {σ : L2.St} {H H1 : Hp} {Q : VK} {tl te to ti : TE} {g : TG} {tt : TT} {vs : List Nat} {j : Nat} {wi : TI}
theorem go_sub {t : TSet} {v : V} {R : L2.St → Hp → Prop} (h : to σ H fun o H1 => ti σ H1 fun i H2 => t o i v H2 fun H3 => R σ H3) : gSub to ti t v σ H R := h
theorem go_setL {p : Addr} {xs : List V} {k : Int} {i : Nat} {v : V} {R : Hp → Prop} (e : H p = some (.lst xs)) (hi : ixN xs.length k = some i) (h : R (upd H p (.lst (xs.set i v)))) : rSetL (.ref p) (.int k) v H R :=
  ⟨p, xs, k, i, rfl, rfl, e, hi, h⟩
theorem go_setL2 {p : Addr} {xs : List V} {k : Int} {i : Nat} {v : V} {R : Hp → Prop} (hi : ixN xs.length k = some i) (h : R (upd H p (.lst (xs.set i v)))) : rSetL (.ref p) (.int k) v (upd H p (.lst xs)) R :=
  ⟨p, xs, k, i, rfl, rfl, upd_same, hi, by rw [upd_upd]; exact h⟩
theorem go_ixL2 {p : Addr} {xs : List V} {k : Int} {v : V} (e : atI xs k = some v) (h : Q v (upd H p (.lst xs))) : rIxL K (.ref p) (.int k) (upd H p (.lst xs)) Q := ⟨p, xs, k, v, rfl, rfl, .of upd_same, e, h⟩
theorem go_ixL1 {p : Addr} {xs : List V} {k : Int} {v : V} (h : H p = some (.lst xs)) (e : atI xs k = some v) (q : Q v H) : rIxL K (.ref p) (.int k) H Q := ⟨p, xs, k, v, rfl, rfl, .of h, e, q⟩
theorem go_ixT1 {p : Addr} {xs : List V} {k : Int} {v : V} (h : H p = some (.tup xs)) (e : atI xs k = some v) (q : Q v H) : rIxT K (.ref p) (.int k) H Q := ⟨p, xs, k, v, rfl, rfl, .of h, e, q⟩
end
/-- all else as it was -/
def But (a : Addr) (H H' : Hp) : Prop := ∀ b o, b ≠ a → H b = some o → H' b = some o
theorem But.refl (a : Addr) (H : Hp) : But a H H := fun _ _ _ h => h
theorem But.trans {a : Addr} {H H1 H2 : Hp} (h : But a H H1) (k : But a H1 H2) : But a H H2 := fun b o n e => k b o n (h b o n e)
theorem But.upd {a : Addr} {H H' : Hp} {o : HO} (h : But a H H') : But a H (upd H' a o) := fun b u n e => by rw [upd_ne n]; exact h b u n e
theorem But.new {a p : Addr} {H H' : Hp} {o : HO} (h : But a H H') (n : H' p = none) : But a H (L2.upd H' p o) := fun b u z e => by
  have q := h b u z e
  rw [upd_ne (ne_of_none q n)]
  exact q
theorem Same.but {a : Addr} {H H' : Hp} (s : Same H H') : But a H H' := fun b o _ e => s b o e
/-- a pool: where it stands, where its list of the script's numbers stands, these -/
structure Pl where
  a : Addr
  l : Addr
  ns : List Int
/-- the pool p stands in H; b: its budget -/
structure Pool (H : Hp) (p : Pl) (b : Int) : Prop where
  ex : ∃ (p1 p2 p3 p4 : Int), H p.a = some (.lst [.ref p.l, .int p1, .int p2, .int p3, .int p4, .int b]) ∧ 0 ≤ p1 ∧ 0 ≤ p3 ∧ p3 < 2147483647
  li : H p.l = some (.lst (p.ns.map V.int))
  ne : p.l ≠ p.a
theorem Pool.there {H : Hp} {p : Pl} {b : Int} (h : Pool H p b) : ∃ xs, H p.a = some (.lst xs) := let ⟨_, _, _, _, e, _⟩ := h.ex; ⟨_, e⟩
theorem Pool.same {H H' : Hp} {p : Pl} {b : Int} (h : Pool H p b) (s : Same H H') : Pool H' p b := by
  obtain ⟨p1, p2, p3, p4, e, k⟩ := h.ex
  exact ⟨⟨p1, p2, p3, p4, s _ _ e, k⟩, s _ _ h.li, h.ne⟩
theorem Pool.new {H : Hp} {p : Pl} {q : Addr} {b : Int} {o : HO} (h : Pool H p b) (n : H q = none) : Pool (upd H q o) p b := h.same (same_new n)
/-- another object is written -/
theorem Pool.upd {H : Hp} {p : Pl} {q : Addr} {b : Int} {o : HO} (h : Pool H p b) (n : q ≠ p.a) (n2 : q ≠ p.l) : Pool (upd H q o) p b := by
  obtain ⟨p1, p2, p3, p4, e, k⟩ := h.ex
  exact ⟨⟨p1, p2, p3, p4, by rw [upd_ne n.symm]; exact e, k⟩, by rw [upd_ne n2.symm]; exact h.li, h.ne⟩
/-- what is free behind was free before -/
theorem But.free {a p : Addr} {H H' : Hp} {o : HO} (h : But a H H') (e : H' a = some o) (n : H' p = none) : H p = none := by
  cases q : H p with
  | none => rfl
  | some u =>
    have ne : p ≠ a := fun z => by rw [z, e] at n; cases n
    rw [h p u ne q] at n
    cases n
/-- one pool's turn: the pool stands, all else is as it was -/
structure Turn (p : Pl) (b : Int) (H H' : Hp) : Prop where
  pool : Pool H' p b
  but : But p.a H H'
theorem Turn.refl {p : Pl} {b : Int} {H : Hp} (h : Pool H p b) : Turn p b H H := ⟨h, .refl p.a H⟩
theorem Turn.trans {p : Pl} {b b' : Int} {H H1 H2 : Hp} (h : Turn p b H H1) (k : Turn p b' H1 H2) : Turn p b' H H2 := ⟨k.pool, h.but.trans k.but⟩
theorem Turn.new {p : Pl} {q : Addr} {b : Int} {H H1 : Hp} {o : HO} (h : Turn p b H H1) (n : H1 q = none) : Turn p b H (upd H1 q o) := ⟨h.pool.new n, h.but.new n⟩
theorem Turn.same {p : Pl} {b : Int} {H H1 H2 : Hp} (h : Turn p b H H1) (s : Same H1 H2) : Turn p b H H2 := ⟨h.pool.same s, h.but.trans (Same.but s)⟩
theorem Turn.free {p : Pl} {q : Addr} {b : Int} {H H' : Hp} (h : Turn p b H H') (n : H' q = none) : H q = none := let ⟨_, e⟩ := h.pool.there; h.but.free e n
theorem Pool.nea {p : Pl} {q : Addr} {b : Int} {H : Hp} (h : Pool H p b) (n : H q = none) : q ≠ p.a := fun z => by
  obtain ⟨_, e⟩ := h.there
  rw [z, e] at n
  cases n
theorem Pool.nel {p : Pl} {q : Addr} {b : Int} {H : Hp} (h : Pool H p b) (n : H q = none) : q ≠ p.l := fun z => by
  rw [z, h.li] at n
  cases n
/-- a new list is written further -/
theorem Turn.mut {p : Pl} {q : Addr} {b b' : Int} {H H2 : Hp} {o : HO} (h0 : Pool H p b') (n : H q = none) (h : Turn p b H H2) : Turn p b H (upd H2 q o) :=
  ⟨h.pool.upd (h0.nea n) (h0.nel n), fun c u nc ec => by rw [upd_ne (ne_of_none ec n)]; exact h.but c u nc ec⟩

section
variable {K : PySem.W.Frag} {σ : L2.St} {H H1 : Hp} {Q : VK} {tl te : TE} {g : TG} {tt : TT} {vs : List Nat} {j : Nat} {wi : TI}
/-- [e for x in range(n)] whose element turns a pool -/
theorem lcPool {R : Addr → Hp → Prop} {n : Int} {p : Pl} {b : Int} (P : Nat → V → Prop) (hp : Pool H1 p b) (hz : n ≤ 100000) (hn : -(2 ^ 62) ≤ n) (hw : ∀ x, wipe ((wipe σ vs).set j x) vs = wipe σ vs)
    (he : ∀ (i : Nat) H', (i : Int) < n → Turn p b H1 H' → ∀ R : VK, (∀ y H'', Turn p b H' H'' → P i y → R y H'') → te ((wipe σ vs).set j (some (.int i))) H' R)
    (q : ∀ D (ys : List V) H2, H1 D = none → Turn p b H1 H2 → H2 D = some (.lst ys) → ys.length = n.toNat → (∀ k y, ys[k]? = some y → P k y) → R D H2) :
    ∃ k : Int, [V.int n] = [.int k] ∧ -(2 ^ 62) ≤ k ∧ k < 2 ^ 62 ∧ ∀ D, H1 D = none → ∃ W : Nat → Nat → Hp → Prop, (∃ m, W 0 m (upd H1 D (.lst []))) ∧ ∀ i m H, W i m H →
      ((Itr 0 k.toNat).stop i H ∧ R D H) ∨ ((Itr 0 k.toNat).go i H ∧ ∃ Nx : Hp → Prop, (∀ H', Nx H' → ∃ m', m' < m ∧ W (i + 1) m' H') ∧ ∀ x H', (Itr 0 k.toNat).yld i H x H' → gName j x (wipe σ vs) H' fun σ2 H2 => wipe σ2 vs = wipe σ vs ∧ tYes σ2 H2 fun b H3 =>
        if b = true then te σ2 H3 fun y H4 => ∃ acc, H4 D = some (.lst acc) ∧ acc.length < sizeLine ∧ Nx (upd H4 D (.lst (acc ++ [y]))) else Nx H3) := by
  refine ⟨n, rfl, hn, by omega, fun D hD => ?_⟩
  have nD : D ≠ p.a := hp.nea hD
  refine lc_range (lo := 0) (n := n.toNat) (fun i H' => (∃ ys : List V, H' D = some (.lst ys) ∧ ys.length = i ∧ ∀ k y, ys[k]? = some y → P k y) ∧ Turn p b H1 H') ⟨⟨[], upd_same, rfl, fun k y h => by simp at h⟩, (Turn.refl hp).new hD⟩ (fun i H hi p => ?_) fun H p => ?_
  · refine ⟨hw _, ?_⟩
    refine go_yes ?_
    refine iteT ?_
    rw [Int.zero_add]
    obtain ⟨⟨ys, e, hl, hP⟩, t⟩ := p
    refine he i H (by omega) t _ fun y H4 s4 hy => ?_
    have e4 := s4.but D _ nD e
    refine ⟨ys, e4, szlt (by omega), ⟨ys ++ [y], upd_same, by simp [hl], fun k z hz => ?_⟩, Turn.mut hp hD (t.trans s4)⟩
    rcases Nat.lt_or_ge k ys.length with h | h
    · rw [List.getElem?_append_left h] at hz
      exact hP k z hz
    · rw [List.getElem?_append_right h] at hz
      rcases Nat.eq_or_lt_of_le h with e2 | e2
      · rw [← e2, Nat.sub_self] at hz
        cases hz
        rw [← e2, hl]
        exact hy
      · rw [List.getElem?_eq_none (by simp; omega)] at hz
        cases hz
  · obtain ⟨⟨ys, e, hl, hP⟩, t⟩ := p
    exact q D ys H hD t e hl hP
end
/-! ### data -/
theorem tyx_list {K : PySem.W.Frag} {H : Hp} {a : Addr} {xs : List V} (h : SqL K H a xs) : TyX K H (.ref a) (.type "list") := by
  rcases h with (h | ⟨o, h⟩) | ⟨o, its, n, e, c, _⟩
  · exact .base (.lst h)
  · exact .base (.frz h)
  · exact .kList e c
theorem tyx_tup {K : PySem.W.Frag} {H : Hp} {a : Addr} {xs : List V} (h : SqT K H a xs) : TyX K H (.ref a) (.type "tuple") := by
  rcases h with (h | ⟨o, h⟩) | ⟨o, its, n, e, c, _⟩
  · exact .base (.tup h)
  · exact .fTuple h
  · exact .kTuple e c
/-- the same data, at most n deep -/
inductive Eqd (K : PySem.W.Frag) (H : Hp) : Nat → V → V → Prop where
  | non {n : Nat} : Eqd K H n .non .non
  | bl {n : Nat} (b : Bool) : Eqd K H n (.bl b) (.bl b)
  | int {n : Nat} (i : Int) : Eqd K H n (.int i) (.int i)
  | str {n : Nat} (x : Str) : Eqd K H n (.str x) (.str x)
  | lst {n : Nat} {a b : Addr} {xs ys : List V} (h1 : SqL K H a xs) (h2 : SqL K H b ys) (hl : xs.length = ys.length) (hz : xs.length ≤ 100000) (h : ∀ (i : Nat) x y, xs[i]? = some x → ys[i]? = some y → Eqd K H n x y) : Eqd K H (n + 1) (.ref a) (.ref b)
  | tup {n : Nat} {a b : Addr} {xs ys : List V} (h1 : SqT K H a xs) (h2 : SqT K H b ys) (hl : xs.length = ys.length) (hz : xs.length ≤ 100000) (h : ∀ (i : Nat) x y, xs[i]? = some x → ys[i]? = some y → Eqd K H n x y) : Eqd K H (n + 1) (.ref a) (.ref b)
section
variable {K : PySem.W.Frag} {H H1 : Hp} {Q : VK}
theorem go_isiL (c : String) {b : Bool} {a : Addr} {xs : List V} (h : SqL K H a xs) (e : kitB "list" c = some b) (q : Q (.bl b) H) : rIsi K [.ref a, .ty c] H Q := go_isiB (tyx_list h) e q
theorem go_isiT (c : String) {b : Bool} {a : Addr} {xs : List V} (h : SqT K H a xs) (e : kitB "tuple" c = some b) (q : Q (.bl b) H) : rIsi K [.ref a, .ty c] H Q := go_isiB (tyx_tup h) e q
theorem sq_list_int {a : Addr} {xs : List V} (h : SqL K H a xs) (q : Q (.bl false) H) : rIsi K [.ref a, .ty "int"] H Q := go_isiB (tyx_list h) (by decide +kernel) q
theorem sq_list_bool {a : Addr} {xs : List V} (h : SqL K H a xs) (q : Q (.bl false) H) : rIsi K [.ref a, .ty "bool"] H Q := go_isiB (tyx_list h) (by decide +kernel) q
theorem sq_list_str {a : Addr} {xs : List V} (h : SqL K H a xs) (q : Q (.bl false) H) : rIsi K [.ref a, .ty "str"] H Q := go_isiB (tyx_list h) (by decide +kernel) q
theorem sq_list_list {a : Addr} {xs : List V} (h : SqL K H a xs) (q : Q (.bl true) H) : rIsi K [.ref a, .ty "list"] H Q := go_isiB (tyx_list h) (by decide +kernel) q
theorem sq_list_tuple {a : Addr} {xs : List V} (h : SqL K H a xs) (q : Q (.bl false) H) : rIsi K [.ref a, .ty "tuple"] H Q := go_isiB (tyx_list h) (by decide +kernel) q
theorem sq_tuple_int {a : Addr} {xs : List V} (h : SqT K H a xs) (q : Q (.bl false) H) : rIsi K [.ref a, .ty "int"] H Q := go_isiB (tyx_tup h) (by decide +kernel) q
theorem sq_tuple_bool {a : Addr} {xs : List V} (h : SqT K H a xs) (q : Q (.bl false) H) : rIsi K [.ref a, .ty "bool"] H Q := go_isiB (tyx_tup h) (by decide +kernel) q
theorem sq_tuple_str {a : Addr} {xs : List V} (h : SqT K H a xs) (q : Q (.bl false) H) : rIsi K [.ref a, .ty "str"] H Q := go_isiB (tyx_tup h) (by decide +kernel) q
theorem sq_tuple_list {a : Addr} {xs : List V} (h : SqT K H a xs) (q : Q (.bl false) H) : rIsi K [.ref a, .ty "list"] H Q := go_isiB (tyx_tup h) (by decide +kernel) q
theorem sq_tuple_tuple {a : Addr} {xs : List V} (h : SqT K H a xs) (q : Q (.bl true) H) : rIsi K [.ref a, .ty "tuple"] H Q := go_isiB (tyx_tup h) (by decide +kernel) q
theorem go_ixQL {a : Addr} {xs : List V} {k : Int} {v : V} (hs : SqL K H a xs) (e : atI xs k = some v) (h : Q v H) : rIx K (.ref a) (.int k) H Q := .inl ⟨a, xs, k, v, rfl, rfl, hs, e, h⟩
theorem go_ixQT {a : Addr} {xs : List V} {k : Int} {v : V} (hs : SqT K H a xs) (e : atI xs k = some v) (h : Q v H) : rIx K (.ref a) (.int k) H Q := .inr (.inl ⟨a, xs, k, v, rfl, rfl, hs, e, h⟩)
end
/-! ### texts -/
abbrev S : List Nat → Str := SX.S
section
variable {X : Cx} {σ : L2.St} {H H1 : Hp} {Q : VK} {K : PySem.W.Frag} {o e : Expr} {to te : TE}
def qSplit : V → List V → Hp → VK → Prop := fun x xs H Q => ∃ a b, x = .str a ∧ xs = [.str b] ∧ (b.length == 0) = false ∧ a.length + 2 ≤ sizeLine ∧ rNewStrs (Txt.split a b) H Q
theorem e_split {apos pos : Pos} (ho : PE X o to) (he : PE X e te) (hs : starEach [e] X.env = [(false, eval e X.env)] := by rfl) (hbase : attributeBase o "split" X.env (eval o X.env) = eval o X.env := by rfl) (hline : (apos.endLine == pos.line) = true := by rfl) :
    PE X (.Call (.Attribute o "split" apos) [e] [] pos) (tM1 qSplit to te) := pe_split ho he hs hbase hline
theorem go_M1 {r : V → List V → Hp → VK → Prop} (h : to σ H fun x H1 => (∃ a, x = .str a) ∧ te σ H1 fun y H2 => r x [y] H2 Q) : tM1 r to te σ H Q := h
theorem go_M0 {r : V → List V → Hp → VK → Prop} (h : to σ H fun x H1 => (∃ a, x = .str a) ∧ r x [] H1 Q) : tM0 r to σ H Q := h
theorem go_isS {a : Str} {B : Prop} (h : B) : (∃ b, V.str a = .str b) ∧ B := ⟨⟨a, rfl⟩, h⟩
theorem go_split {a : List Nat} (ha : a.length ≤ 90000) {c : Nat} (hc : c < 256) (h : ∀ p, H p = none → Q (.ref p) (upd H p (.lst ((TL.spl [c] 0 [] a).map fun w => V.str (S w))))) : qSplit (.str (S a)) [.str (S [c])] H Q := by
  refine ⟨S a, S [c], rfl, rfl, rfl, by rw [SX.S_len]; exact sz (by omega), ?_⟩
  rw [SX.split_S (by simp) (by simp [hc])]
  intro p hp
  rw [List.map_map]
  exact h p hp
def qJoin (K : PySem.W.Frag) : V → List V → Hp → VK → Prop := fun x xs H Q => ∃ a p, ∃ ys : List Str, x = .str a ∧ xs = [.ref p] ∧ (SqL K H p (ys.map V.str) ∨ SqT K H p (ys.map V.str)) ∧ (ys.map (·.length)).sum + ys.length * a.length ≤ 16777216 ∧ Q (.str (Txt.join a ys)) H
theorem e_join {apos pos : Pos} (ho : PE X o to) (he : PE X e te) (hs : starEach [e] X.env = [(false, eval e X.env)] := by rfl) (hbase : attributeBase o "join" X.env (eval o X.env) = eval o X.env := by rfl) (hline : (apos.endLine == pos.line) = true := by rfl) :
    PE X (.Call (.Attribute o "join" apos) [e] [] pos) (tM1 (qJoin X.K) to te) := pe_join ho he hs hbase hline
theorem go_join {a : List Nat} {p : Addr} {ws : List (List Nat)} (hs : SqL K H p (ws.map fun w => V.str (S w))) (hz : (ws.map List.length).sum + ws.length * a.length ≤ 16777216) (h : Q (.str (S (TL.joinL a ws))) H) : qJoin K (.str (S a)) [.ref p] H Q := by
  refine ⟨S a, p, ws.map S, rfl, rfl, .inl (by rw [List.map_map]; exact hs), ?_, by rw [SX.join_S]; exact h⟩
  rw [SX.lens, List.length_map, SX.S_len]
  exact hz
/-- for c in a text -/
theorem go_iStr {R : It → Hp → Prop} (h : te σ H fun v H1 => ∃ x, v = .str x ∧ R (Its x) H1) : iStr te σ H R := h
theorem foS {D : Ends} {tb : TS} {g : TG} (cs : List Nat) (Pv : Nat → L2.St → Hp → Prop) (h0 : Pv 0 σ H1)
    (hs : ∀ i c σ H, cs[i]? = some c → Pv i σ H → g (.str (S [c])) σ H fun σ2 H2 => tb { D with nx := Pv (i + 1), ct := Pv (i + 1), bk := D.nx } σ2 H2) (hd : ∀ σ H, Pv cs.length σ H → D.nx σ H) :
    ∃ x, V.str (S cs) = .str x ∧ ∃ W : Nat → Nat → L2.St → Hp → Prop, (∃ m, W 0 m σ H1) ∧ ∀ i m σ H, W i m σ H →
      ((Its x).stop i H ∧ D.nx σ H) ∨ ((Its x).go i H ∧ ∃ N : L2.St → Hp → Prop, (∀ σ' H', N σ' H' → ∃ m', m' < m ∧ W (i + 1) m' σ' H') ∧ ∀ x2 H', (Its x).yld i H x2 H' → g x2 σ H' fun σ2 H2 => tb { D with nx := N, ct := N, bk := D.nx } σ2 H2) := by
  refine ⟨S cs, rfl, fun i m σ H => m = cs.length - i ∧ i ≤ cs.length ∧ Pv i σ H, ⟨cs.length, by simp, Nat.zero_le _, h0⟩, ?_⟩
  rintro i m σ H ⟨rfl, hi, p⟩
  have hsz : (S cs).cps.size = cs.length := by simp
  by_cases hlt : i < cs.length
  · refine .inr ⟨by show i < (S cs).cps.size; rw [hsz]; exact hlt, Pv (i + 1), fun σ' H' p' => ⟨cs.length - (i + 1), by omega, rfl, hlt, p'⟩, fun x H' y => ?_⟩
    obtain ⟨e, c, hc, rfl⟩ := y
    subst e
    refine hs i c σ _ ?_ p
    have : (S cs).cps[i]? = some c := hc
    simpa using this
  · have e : i = cs.length := by omega
    subst e
    exact .inl ⟨by show (S cs).cps.size ≤ cs.length; omega, hd σ H p⟩
theorem at_mem {α : Type} {xs : List α} {i : Nat} {v : α} (h : atI xs (i : Int) = some v) : v ∈ xs := by
  unfold atI ixN at h
  rw [if_pos (by omega)] at h
  split at h
  · rw [Option.bind_some, Int.toNat_natCast] at h
    exact List.mem_of_getElem? h
  · cases h
theorem atS_ex {z : Str} {k : Int} (h0 : 0 ≤ k) (h : k < z.length) : ∃ c, atI z.cps.toList k = some c := by
  have e : k = (k.toNat : Int) := by omega
  have h2 : k.toNat < z.cps.toList.length := by
    have : z.length = z.cps.toList.length := by simp [Str.length]
    omega
  rw [e]
  exact ⟨_, atI_nat (List.getElem?_eq_getElem h2)⟩
theorem dp_strs : ∀ ws : List Str, DpAll K H (ws.map V.str) (ws.map PyData.str)
  | [] => .nil
  | n :: r => .cons (.str n) (dp_strs r)
theorem eqvAll_strs : ∀ xs : List Str, PyData.eqvAll (xs.map PyData.str) (xs.map PyData.str) = true
  | [] => by simp [PyData.eqvAll]
  | x :: xs => by simp only [List.map_cons, PyData.eqvAll, PyData.eqv, eqvAll_strs xs]; simp
theorem depth_strs : ∀ xs : List Str, PyData.depthAll (xs.map PyData.str) = 0
  | [] => rfl
  | x :: xs => by
    rw [List.map_cons]
    unfold PyData.depthAll
    rw [depth_strs xs]
    rfl
theorem canLay_strs : ∀ xs : List Str, xs.all PyData.strOk = true → PyData.canLayAll0 (xs.map PyData.str) = true
  | [], _ => rfl
  | x :: xs, h => by
    rw [List.all_cons, Bool.and_eq_true] at h
    rw [List.map_cons]
    simp only [PyData.canLayAll0, PyData.canLay0, canLay_strs xs h.2, h.1, Bool.and_self]
theorem shaped_strs (xs : List Str) (h : xs.all PyData.strOk = true) : SeqAt.shaped (.list (xs.map PyData.str)) = true := by
  unfold SeqAt.shaped
  have h1 : PyData.canLay0 (.list (xs.map PyData.str)) = true := by
    simp only [PyData.canLay0]
    exact canLay_strs xs h
  have h2 : PyData.depth (.list (xs.map PyData.str)) ≤ 64 := by
    unfold PyData.depth
    rw [depth_strs xs]
    decide
  rw [h1, decide_eq_true h2]
  rfl
theorem go_eqStrs {a b : Addr} {xs : List Str} (h1 : SqL K H a (xs.map V.str)) (h2 : SqL K H b (xs.map V.str)) (ho : xs.all PyData.strOk = true) (h : Q (.bl true) H) : rEqD K (.ref a) (.ref b) H Q :=
  ⟨_, _, .lst h1 (dp_strs xs), .lst h2 (dp_strs xs), shaped_strs xs ho, shaped_strs xs ho, by rw [PyData.eqv, eqvAll_strs]; exact h⟩
end
end Gx

set_option Elab.async false
set_option linter.all false
set_option maxRecDepth 100000
set_option maxHeartbeats 4000000
/-! Own lemmas: operators that a class defines; gcd, lcm, // of great ints. -/
namespace Gx
open PySem PySem.Spec PyProof.Rows L2
section
variable {X : Cx} {CX : CXT} {C f : Addr} {fd : FuncData} {ps : List Str} {sp : Sp} {E : XK} {k : Nat} {Q : VK} {H : Hp}
theorem back_of {pins : List (Addr × Obj)} {σ : L2.St} {M : Model} {A : Around} {R : Value → Shared → Prop} {t : Sem Value} {s : Shared} (h : wpAny M A t (EP X pins σ Q) R s) : wpAny M A t (PySem.W.CmpBack (EP X pins σ Q)) R s := by
  refine wpAny_mono h (fun v s' q => ?_) fun _ _ z => z
  cases v <;> first | exact q | (obtain ⟨x, H', I, r, q⟩ := q; cases x <;> first | (cases r; done) | (obtain ⟨_, r⟩ := r; cases r))
/-- x op y by the class's own method -/
def rOwn (C : Addr) (sp : Sp) (E : XK) : R2 := fun x y H Q => ∃ a b dx dy fs gs, x = .ref a ∧ y = .ref b ∧ H a = some (.ins C dx fs) ∧ H b = some (.ins C dy gs) ∧ sp [x, y] H Q E
theorem go_own {a b dx dy : Addr} {fs gs : List (Str × V)} (h1 : H a = some (.ins C dx fs)) (h2 : H b = some (.ins C dy gs)) (h : sp [.ref a, .ref b] H Q E) : rOwn C sp E (.ref a) (.ref b) H Q := ⟨a, b, dx, dy, fs, gs, rfl, rfl, h1, h2, h⟩
theorem op_own {op : Operator} (hc : PySem.W.selfFirst X.K C = true) (hs : PySem.W.findIn X.K (.ref C) (PySem.dunder op.info.2) = some (some (.ref f))) (hf : PySem.W.isFn X.K (.ref f) = true)
    (F : FnOk X.prog X.w X.K X.mg X.base CX k f fd ps sp) (hr : Room k X.A) (hb : Binds X.K fd ps []) (hx : Passes CX X E) : OpR X (binaryOp op) (rOwn C sp E) := by
  intro pins s σ H x y v u Q I rx ry h
  obtain ⟨a, b, dx, dy, fs, gs, rfl, rfl, ha, hb', hq⟩ := h
  have rx' := rx
  have ry' := ry
  cases rx
  cases ry
  obtain ⟨mA, J, _⟩ := ins_get I.hok ha
  obtain ⟨mB, J', _⟩ := ins_get I.hok hb'
  obtain ⟨od, J, _⟩ := J.look
  obtain ⟨od', J', _⟩ := J'.look
  obtain ⟨m, hF⟩ := I.fr
  refine PySem.W.binop_K hF I.ok.mod.kin J J'.type hc hs hf (back_of ?_)
  exact run_fn F hr hb .nil hx I (.cons rx' (.cons ry' .nil)) (by simpa using hq)
/-- x == y, x != y by the class's own method (op: its own name) -/
theorem op_ownCmp {op : CmpOp} (hcmp : ∀ v u, compareOp op v u = richCompare op v u) (hc : PySem.W.notFirst X.K C (.ref C) = true) (hs : PySem.W.findIn X.K (.ref C) (cmpInfo op).2.1 = some (some (.ref f))) (hf : PySem.W.isFn X.K (.ref f) = true)
    (F : FnOk X.prog X.w X.K X.mg X.base CX k f fd ps sp) (hr : Room k X.A) (hb : Binds X.K fd ps []) (hx : Passes CX X E) : OpR X (compareOp op) (rOwn C sp E) := by
  intro pins s σ H x y v u Q I rx ry h
  obtain ⟨a, b, dx, dy, fs, gs, rfl, rfl, ha, hb', hq⟩ := h
  have rx' := rx
  have ry' := ry
  cases rx
  cases ry
  obtain ⟨mA, J, _⟩ := ins_get I.hok ha
  obtain ⟨mB, J', _⟩ := ins_get I.hok hb'
  obtain ⟨od, J, _⟩ := J.look
  obtain ⟨od', J', _⟩ := J'.look
  obtain ⟨m, hF⟩ := I.fr
  rw [hcmp]
  refine PySem.W.cmp_K hr.units0 hF I.ok.mod.kin J J'.type hc hs hf (back_of ?_)
  exact run_fn F hr hb .nil hx I (.cons rx' (.cons ry' .nil)) (by simpa using hq)
/-- -x by the class's own method -/
def uOwn (C : Addr) (sp : Sp) (E : XK) : V → Hp → VK → Prop := fun x H Q => ∃ a dx fs, x = .ref a ∧ H a = some (.ins C dx fs) ∧ sp [x] H Q E
theorem go_uOwn {a dx : Addr} {fs : List (Str × V)} (h1 : H a = some (.ins C dx fs)) (h : sp [.ref a] H Q E) : uOwn C sp E (.ref a) H Q := ⟨a, dx, fs, rfl, h1, h⟩
theorem un_own (hs : PySem.W.findIn X.K (.ref C) "__neg__" = some (some (.ref f))) (hf : PySem.W.isFn X.K (.ref f) = true)
    (F : FnOk X.prog X.w X.K X.mg X.base CX k f fd ps sp) (hr : Room k X.A) (hb : Binds X.K fd ps []) (hx : Passes CX X E) : UnR X (unaryOp .USub) (uOwn C sp E) := by
  intro pins s σ H x v Q I rx h
  obtain ⟨a, dx, fs, rfl, ha, hq⟩ := h
  have rx' := rx
  cases rx
  obtain ⟨mA, J, _⟩ := ins_get I.hok ha
  obtain ⟨od, J, _⟩ := J.look
  unfold unaryOp
  refine wpAny_holding ?_
  dsimp only
  rw [if_neg (by decide)]
  refine wpAny_bind (PySem.W.special_fn I.kIn J hs (beq_iff_eq.mp hf) ?_)
  exact wpAny_mono (run_fn F hr hb .nil hx I (.cons rx' .nil) (by simpa using hq)) (fun v s' q => wpAny_pure q) fun _ _ z => z
/-! ### great ints -/
def CDivX (_ j : Int) : Prop := j ≠ 0 ∧ j.natAbs.log2 < 9000
theorem op_fdivX : OpR X (binaryOp .FloorDiv) (rI CDivX fun i j => .int (i.fdiv j)) := opI fun _ _ _ _ _ _ _ hc q => floordiv_int hc.1 q (.inl (PyProof.noPylong_of_log2 hc.2))
theorem divX {i j : Int} {b : Nat} (h : j ≠ 0) (hb : j.natAbs < 2 ^ b) (h0 : 0 < b) (h9 : b ≤ 9000) : CDivX i j := ⟨h, Nat.lt_of_lt_of_le (PySem.Flt.log2_lt_of h0 hb) h9⟩
theorem go_gcd {a b : Int} (h : Q (.int ((Nat.gcd a.natAbs b.natAbs : Nat) : Int)) H) : rGcd [.int a, .int b] H Q := ⟨a, b, rfl, h⟩
/-- two numbers of up to 9000 bits -/
def rLcm : List V → Hp → VK → Prop := fun vs H Q => ∃ a b : Int, vs = [.int a, .int b] ∧ a.natAbs < 2 ^ 9000 ∧ b.natAbs < 2 ^ 9000 ∧ Q (.int ((Nat.lcm a.natAbs b.natAbs : Nat) : Int)) H
theorem log2_le {n k : Nat} (h : n < 2 ^ (k + 1)) : n.log2 ≤ k := PySem.W.mg_log h
theorem cr_lcm : CallR X (.builtin "math.lcm") rLcm := by
  intro pins s σ H vs us Q I r h
  obtain ⟨a, b, rfl, ha, hb, q⟩ := h
  obtain ⟨t, u, rfl⟩ := Vals.int2 r
  have h1 : (max 1 a.natAbs).log2 ≤ 8999 := log2_le (by
    have : 1 < 2 ^ 9000 := Nat.one_lt_two_pow (by decide)
    show max 1 a.natAbs < 2 ^ 9000
    omega)
  have h2 : (max a.natAbs b.natAbs).log2 ≤ 8999 := log2_le (by show max a.natAbs b.natAbs < 2 ^ 9000; omega)
  have e : (Nat.lcm 1 a.natAbs) = a.natAbs := Nat.lcm_one_left _
  have hz : ((((Nat.lcm 1 a.natAbs).lcm b.natAbs : Nat) : Int)).natAbs.log2 < bitsLine := by
    rw [e, Int.natAbs_natCast]
    have hm : a.natAbs.lcm b.natAbs ≤ a.natAbs * b.natAbs := Nat.div_le_self _ _
    have hl : a.natAbs.lcm b.natAbs < 2 ^ (17999 + 1) := by
      have : a.natAbs * b.natAbs < 2 ^ 9000 * 2 ^ 9000 := Nat.mul_lt_mul'' ha hb
      rw [← Nat.pow_add] at this
      exact Nat.lt_of_le_of_lt hm this
    have := log2_le hl
    have hb : bitsLine = 134217728 := by decide
    omega
  have g := PySem.W.mg_run_lcm a t b u (by omega) (by omega) hz
  refine call_function_meets PySem.W.MGF.kind_lcm PySem.W.MGF.plain_lcm PySem.W.MGF.entry_lcm (PySem.W.MGF.args_lcm _ _) g.meets ?_
  rw [e]
  exact ⟨.int _, H, I.tok _, ⟨_, rfl⟩, q⟩
theorem go_lcm {a b : Int} (ha : a.natAbs < 2 ^ 9000) (hb : b.natAbs < 2 ^ 9000) (h : Q (.int ((Nat.lcm a.natAbs b.natAbs : Nat) : Int)) H) : rLcm [.int a, .int b] H Q := ⟨a, b, rfl, ha, hb, h⟩
end
end Gx

set_option Elab.async false
set_option linter.all false
set_option maxRecDepth 100000
set_option maxHeartbeats 4000000
/-! Own lemmas: fractions in lowest terms; Euclid's loop. -/
namespace Gx
open PySem PySem.Spec PyProof.Rows L2
/-- the numerator and the denominator in lowest terms -/
def rN (a b : Int) : Int := if b < 0 then (-a) / (Int.gcd a b : Int) else a / (Int.gcd a b : Int)
def rD (a b : Int) : Int := if b < 0 then (-b) / (Int.gcd a b : Int) else b / (Int.gcd a b : Int)
theorem gcd_pos {a b : Int} (h : b ≠ 0) : 0 < (Int.gcd a b : Int) := by
  have := Int.gcd_pos_of_ne_zero_right a h
  omega
theorem gcd_l (a b : Int) : (Int.gcd a b : Int) ∣ a := Int.gcd_dvd_left _ _
theorem gcd_r (a b : Int) : (Int.gcd a b : Int) ∣ b := Int.gcd_dvd_right _ _
/-- one form for both signs -/
theorem rN_mul {a b : Int} (h : b ≠ 0) : rN a b * (if b < 0 then -(Int.gcd a b : Int) else (Int.gcd a b : Int)) = a := by
  unfold rN
  split
  · rw [Int.mul_neg, Int.ediv_mul_cancel (Int.dvd_neg.mpr (gcd_l a b)), Int.neg_neg]
  · exact Int.ediv_mul_cancel (gcd_l a b)
theorem rD_mul {a b : Int} (h : b ≠ 0) : rD a b * (if b < 0 then -(Int.gcd a b : Int) else (Int.gcd a b : Int)) = b := by
  unfold rD
  split
  · rw [Int.mul_neg, Int.ediv_mul_cancel (Int.dvd_neg.mpr (gcd_r a b)), Int.neg_neg]
  · exact Int.ediv_mul_cancel (gcd_r a b)
theorem rD_pos {a b : Int} (h : b ≠ 0) : 0 < rD a b := by
  have g := gcd_pos (a := a) h
  have e := rD_mul (a := a) h
  by_cases hb : b < 0
  · rw [if_pos hb] at e
    by_cases q : 0 < rD a b
    · exact q
    · have : 0 ≤ rD a b * -(Int.gcd a b : Int) := Int.mul_nonneg_of_nonpos_of_nonpos (by omega) (by omega)
      omega
  · rw [if_neg hb] at e
    by_cases q : 0 < rD a b
    · exact q
    · have : rD a b * (Int.gcd a b : Int) ≤ 0 := Int.mul_nonpos_of_nonpos_of_nonneg (by omega) (by omega)
      omega
theorem r_cross {a b : Int} (h : b ≠ 0) : rN a b * b = a * rD a b := by
  have e1 := rN_mul (a := a) h
  have e2 := rD_mul (a := a) h
  generalize (if b < 0 then -(Int.gcd a b : Int) else (Int.gcd a b : Int)) = g at e1 e2
  calc rN a b * b = rN a b * (rD a b * g) := by rw [e2]
    _ = (rN a b * g) * rD a b := by rw [Int.mul_comm (rD a b) g, ← Int.mul_assoc]
    _ = a * rD a b := by rw [e1]
theorem r_coprime {a b : Int} (h : b ≠ 0) : Int.gcd (rN a b) (rD a b) = 1 := by
  have g := gcd_pos (a := a) h
  have e1 := rN_mul (a := a) h
  have e2 := rD_mul (a := a) h
  have e3 : Int.gcd (rN a b * (if b < 0 then -(Int.gcd a b : Int) else (Int.gcd a b : Int))) (rD a b * (if b < 0 then -(Int.gcd a b : Int) else (Int.gcd a b : Int))) = Int.gcd a b := by rw [e1, e2]
  rw [Int.gcd_mul_right] at e3
  have e4 : (if b < 0 then -(Int.gcd a b : Int) else (Int.gcd a b : Int)).natAbs = Int.gcd a b := by
    split
    · rw [Int.natAbs_neg, Int.natAbs_natCast]
    · rw [Int.natAbs_natCast]
  rw [e4] at e3
  have hp : 0 < Int.gcd a b := by omega
  exact Nat.eq_of_mul_eq_mul_right hp (by omega)
theorem dvd_co {k m n : Int} (h : k ∣ m * n) (g : Int.gcd k m = 1) : k ∣ n := by
  have h' : k.natAbs ∣ m.natAbs * n.natAbs := by
    rw [← Int.natAbs_mul]
    exact Int.natAbs_dvd_natAbs.mpr h
  exact Int.natAbs_dvd_natAbs.mp (Nat.Coprime.dvd_of_dvd_mul_left (show Nat.gcd k.natAbs m.natAbs = 1 from g) h')
/-- lowest terms are one -/
theorem low_unique {n d n' d' : Int} (hd : 0 < d) (hd' : 0 < d') (h1 : Int.gcd n d = 1) (h2 : Int.gcd n' d' = 1) (h : n * d' = n' * d) : n = n' ∧ d = d' := by
  have k1 : d ∣ d' := by
    have : d ∣ n * d' := by rw [h]; exact Int.dvd_mul_left _ _
    exact dvd_co this (by rw [Int.gcd_comm]; exact h1)
  have k2 : d' ∣ d := by
    have : d' ∣ n' * d := by rw [← h]; exact Int.dvd_mul_left _ _
    exact dvd_co this (by rw [Int.gcd_comm]; exact h2)
  have e : d = d' := Int.dvd_antisymm (by omega) (by omega) k1 k2
  subst e
  exact ⟨Int.eq_of_mul_eq_mul_right (by omega) h, rfl⟩
theorem r_unique {a b n d : Int} (h : b ≠ 0) (hd : 0 < d) (hg : Int.gcd n d = 1) (e : n * b = a * d) : n = rN a b ∧ d = rD a b := by
  refine low_unique hd (rD_pos h) hg (r_coprime h) ?_
  have c := r_cross (a := a) h
  have : n * rD a b * b = rN a b * d * b := by
    calc n * rD a b * b = n * b * rD a b := by rw [Int.mul_right_comm]
      _ = a * d * rD a b := by rw [e]
      _ = a * rD a b * d := by rw [Int.mul_right_comm]
      _ = rN a b * b * d := by rw [c]
      _ = rN a b * d * b := by rw [Int.mul_right_comm]
  exact Int.eq_of_mul_eq_mul_right h this
theorem r_congr {a b a' b' : Int} (h : b ≠ 0) (h' : b' ≠ 0) (e : a * b' = a' * b) : rN a b = rN a' b' ∧ rD a b = rD a' b' := by
  refine r_unique h' (rD_pos h) (r_coprime h) ?_
  have c := r_cross (a := a) h
  have : rN a b * b' * b = a' * rD a b * b := by
    calc rN a b * b' * b = rN a b * b * b' := by rw [Int.mul_right_comm]
      _ = a * rD a b * b' := by rw [c]
      _ = a * b' * rD a b := by rw [Int.mul_right_comm]
      _ = a' * b * rD a b := by rw [e]
      _ = a' * rD a b * b := by rw [Int.mul_right_comm]
  exact Int.eq_of_mul_eq_mul_right h this
/-- what the program reckons -/
theorem rN_fdiv {a b : Int} (h : b ≠ 0) {p : Int} (hp : p = if b < 0 then -(Int.gcd a b : Int) else (Int.gcd a b : Int)) : a.fdiv p = rN a b ∧ b.fdiv p = rD a b ∧ p ≠ 0 := by
  have g := gcd_pos (a := a) h
  have hp0 : p ≠ 0 := by rw [hp]; split <;> omega
  have e1 := rN_mul (a := a) h
  have e2 := rD_mul (a := a) h
  rw [← hp] at e1 e2
  refine ⟨?_, ?_, hp0⟩
  · have := Int.mul_fdiv_cancel (rN a b) hp0
    rw [e1] at this
    exact this
  · have := Int.mul_fdiv_cancel (rD a b) hp0
    rw [e2] at this
    exact this
theorem mul_abs_le {x y z : Int} (hz : z ≠ 0) (e : x * z = y) : x.natAbs ≤ y.natAbs := by
  rw [← e, Int.natAbs_mul]
  exact Nat.le_mul_of_pos_right _ (by omega)
theorem rN_le (a b : Int) (h : b ≠ 0) : (rN a b).natAbs ≤ a.natAbs := by
  have g := gcd_pos (a := a) h
  exact mul_abs_le (by split <;> omega) (rN_mul h)
theorem rD_le (a b : Int) (h : b ≠ 0) : (rD a b).natAbs ≤ b.natAbs := by
  have g := gcd_pos (a := a) h
  exact mul_abs_le (by split <;> omega) (rD_mul h)
theorem r_self {n d : Int} (hd : 0 < d) (hg : Int.gcd n d = 1) : rN n d = n ∧ rD n d = d := by
  obtain ⟨e1, e2⟩ := r_unique (a := n) (b := d) (n := n) (d := d) (by omega) hd hg rfl
  exact ⟨e1.symm, e2.symm⟩
/-! ### sums, products of fractions that were brought to lowest terms -/
theorem r_add {a b c d : Int} (hb : b ≠ 0) (hd : d ≠ 0) : rN (rN a b * rD c d + rN c d * rD a b) (rD a b * rD c d) = rN (a * d + c * b) (b * d) ∧ rD (rN a b * rD c d + rN c d * rD a b) (rD a b * rD c d) = rD (a * d + c * b) (b * d) := by
  have p1 := rD_pos (a := a) hb
  have p2 := rD_pos (a := c) hd
  have c1 := r_cross (a := a) hb
  have c2 := r_cross (a := c) hd
  refine r_congr (Int.ne_of_gt (Int.mul_pos p1 p2)) (Int.mul_ne_zero hb hd) ?_
  generalize rN a b = n at *
  generalize rD a b = m at *
  generalize rN c d = n' at *
  generalize rD c d = m' at *
  rw [Int.add_mul, Int.add_mul]
  have e1 : n * m' * (b * d) = a * d * (m * m') := by
    calc n * m' * (b * d) = (n * b) * (m' * d) := by ac_rfl
      _ = (a * m) * (m' * d) := by rw [c1]
      _ = a * d * (m * m') := by ac_rfl
  have e2 : n' * m * (b * d) = c * b * (m * m') := by
    calc n' * m * (b * d) = (n' * d) * (m * b) := by ac_rfl
      _ = (c * m') * (m * b) := by rw [c2]
      _ = c * b * (m * m') := by ac_rfl
  rw [e1, e2]
theorem r_neg {a b : Int} (hb : b ≠ 0) : rN (-rN a b) (rD a b) = rN (-a) b ∧ rD (-rN a b) (rD a b) = rD (-a) b := by
  have p1 := rD_pos (a := a) hb
  have c1 := r_cross (a := a) hb
  refine r_congr (by omega) hb ?_
  rw [Int.neg_mul, Int.neg_mul, c1]
theorem r_sub {a b c d : Int} (hb : b ≠ 0) (hd : d ≠ 0) : rN (rN a b * rD c d - rN c d * rD a b) (rD a b * rD c d) = rN (a * d - c * b) (b * d) ∧ rD (rN a b * rD c d - rN c d * rD a b) (rD a b * rD c d) = rD (a * d - c * b) (b * d) := by
  have p1 := rD_pos (a := a) hb
  have p2 := rD_pos (a := c) hd
  have c1 := r_cross (a := a) hb
  have c2 := r_cross (a := c) hd
  refine r_congr (Int.ne_of_gt (Int.mul_pos p1 p2)) (Int.mul_ne_zero hb hd) ?_
  generalize rN a b = n at *
  generalize rD a b = m at *
  generalize rN c d = n' at *
  generalize rD c d = m' at *
  rw [Int.sub_mul, Int.sub_mul]
  have e1 : n * m' * (b * d) = a * d * (m * m') := by
    calc n * m' * (b * d) = (n * b) * (m' * d) := by ac_rfl
      _ = (a * m) * (m' * d) := by rw [c1]
      _ = a * d * (m * m') := by ac_rfl
  have e2 : n' * m * (b * d) = c * b * (m * m') := by
    calc n' * m * (b * d) = (n' * d) * (m * b) := by ac_rfl
      _ = (c * m') * (m * b) := by rw [c2]
      _ = c * b * (m * m') := by ac_rfl
  rw [e1, e2]
theorem r_mul {a b c d : Int} (hb : b ≠ 0) (hd : d ≠ 0) : rN (rN a b * rN c d) (rD a b * rD c d) = rN (a * c) (b * d) ∧ rD (rN a b * rN c d) (rD a b * rD c d) = rD (a * c) (b * d) := by
  have p1 := rD_pos (a := a) hb
  have p2 := rD_pos (a := c) hd
  have c1 := r_cross (a := a) hb
  have c2 := r_cross (a := c) hd
  refine r_congr (Int.ne_of_gt (Int.mul_pos p1 p2)) (Int.mul_ne_zero hb hd) ?_
  generalize rN a b = n at *
  generalize rD a b = m at *
  generalize rN c d = n' at *
  generalize rD c d = m' at *
  calc n * n' * (b * d) = (n * b) * (n' * d) := by ac_rfl
    _ = (a * m) * (c * m') := by rw [c1, c2]
    _ = a * c * (m * m') := by ac_rfl
/-! ### Euclid -/
theorem gcd_step {a b : Int} (ha : 0 ≤ a) (hb : 0 < b) : Int.gcd b (a % b) = Int.gcd a b := by
  have h : 0 ≤ a % b := Int.emod_nonneg _ (by omega)
  obtain ⟨n, rfl⟩ : ∃ n : Nat, a = n := ⟨a.toNat, by omega⟩
  obtain ⟨m, rfl⟩ : ∃ m : Nat, b = m := ⟨b.toNat, by omega⟩
  rw [← Int.natCast_emod, Int.gcd_natCast_natCast, Int.gcd_natCast_natCast, Nat.gcd_comm n m, Nat.gcd_rec m n, Nat.gcd_comm]
theorem euclid_drop {a b : Int} (hb : 0 < b) (h : b < a) : 2 * (b * (a % b)) ≤ a * b := by
  have h0 : 0 ≤ a % b := Int.emod_nonneg _ (by omega)
  have h1 : a % b < b := Int.emod_lt_of_pos _ hb
  have h2 : 1 ≤ a / b := by
    rw [Int.le_ediv_iff_mul_le hb]
    omega
  have h3 := Int.mul_ediv_add_emod a b
  have h4 : b * 1 ≤ b * (a / b) := Int.mul_le_mul_of_nonneg_left h2 (by omega)
  have h5 : 2 * (a % b) ≤ a := by omega
  have h6 : b * (2 * (a % b)) ≤ b * a := Int.mul_le_mul_of_nonneg_left h5 (by omega)
  rw [Int.mul_comm a b]
  calc 2 * (b * (a % b)) = b * (2 * (a % b)) := by ac_rfl
    _ ≤ b * a := h6
/-! ### a ratio as an object -/
def rf (n d : Int) : List (Str × V) := [("num", .int n), ("den", .int d)]
theorem nd_ne : ¬ (("num" : Str) = "den") := by decide +kernel
theorem rf_num (n d : Int) : (rf n d).lookup ("num" : Str) = some (.int n) := by
  unfold rf
  rw [List.lookup_cons, beq_self_eq_true]
theorem rf_den (n d : Int) : (rf n d).lookup ("den" : Str) = some (.int d) := by
  unfold rf
  rw [List.lookup_cons, show (("den" : Str) == "num") = false by decide +kernel, List.lookup_cons, beq_self_eq_true]
theorem rf_none (n d : Int) {m : Str} (h1 : ¬ m = "num") (h2 : ¬ m = "den") : (rf n d).lookup m = none := by
  unfold rf
  rw [List.lookup_cons, beq_eq_false_iff_ne.mpr h1, List.lookup_cons, beq_eq_false_iff_ne.mpr h2]
  rfl
theorem rf_put (n d : Int) : putF "den" (.int d) (putF "num" (.int n) []) = rf n d := by
  show (if ("num" : Str) = "den" then [(("num" : Str), V.int d)] else (("num" : Str), V.int n) :: putF "den" (V.int d) []) = _
  rw [if_neg nd_ne]
  rfl
/-- a ratio n / d stands at x -/
def RatAt (C : Addr) (H : Hp) (x : Addr) (n d : Int) : Prop := ∃ dx, H x = some (.ins C dx (rf n d))
theorem RatAt.same {C : Addr} {H H' : Hp} {x : Addr} {n d : Int} (h : RatAt C H x n d) (s : Same H H') : RatAt C H' x n d := let ⟨dx, e⟩ := h; ⟨dx, s _ _ e⟩
section
variable {K : PySem.W.Frag} {σ : L2.St} {H : Hp} {Q : VK} {ta : TE} {f : Str}
def qFld (K : PySem.W.Frag) (f : Str) (Q : VK) : VK := fun x H1 => ∃ a C dx fs v, x = .ref a ∧ H1 a = some (.ins C dx fs) ∧ Cls K C ∧ NoAttr K C f ∧ fs.lookup f = some v ∧ Q v H1
theorem go_fld (h : ta σ H (qFld K f Q)) : tFld K ta f σ H Q := h
theorem go_fldV {a C dx : Addr} {fs : List (Str × V)} {v : V} (e : H a = some (.ins C dx fs)) (c : Cls K C) (n : NoAttr K C f) (l : fs.lookup f = some v) (h : Q v H) : qFld K f Q (.ref a) H := ⟨a, C, dx, fs, v, rfl, e, c, n, l, h⟩
theorem go_rnum {a C dx : Addr} {m d : Int} (e : H a = some (.ins C dx (rf m d))) (c : Cls K C) (n : NoAttr K C "num") (h : Q (.int m) H) : qFld K "num" Q (.ref a) H := go_fldV e c n (rf_num m d) h
theorem go_rden {a C dx : Addr} {m d : Int} (e : H a = some (.ins C dx (rf m d))) (c : Cls K C) (n : NoAttr K C "den") (h : Q (.int d) H) : qFld K "den" Q (.ref a) H := go_fldV e c n (rf_den m d) h
theorem go_make {C : Addr} {sp : Sp} {dvs : List V} {E : XK} {t : TA} (h : t σ H fun vs H1 => ∀ x dx, H1 x = none → H1 dx = none → dx ≠ x →
  sp (.ref x :: (vs ++ dvs)) (upd (upd H1 dx (.own x)) x (.ins C dx [])) (fun v H2 => v = .non ∧ Q (.ref x) H2) E) : tMake C sp dvs E t σ H Q := h
theorem go_meth {C : Addr} {m : Str} {sp : Sp} {dvs : List V} {E : XK} {t : TA} (h : ta σ H fun x H1 => ∃ a dx fs, x = .ref a ∧ H1 a = some (.ins C dx fs) ∧ fs.lookup m = none ∧
  t σ H1 fun vs H2 => sp (x :: (vs ++ dvs)) H2 Q E) : tMeth C m sp dvs E ta t σ H Q := h
def sFldN (K : PySem.W.Frag) (f : Str) (y : V) (σ : L2.St) (D : Ends) : VK := fun x H2 => ∃ a C dx fs, x = .ref a ∧ H2 a = some (.ins C dx fs) ∧ Cls K C ∧ NoAttr K C f ∧ fs.length < 1000 ∧ D.nx σ (upd H2 a (.ins C dx (putF f y fs)))
theorem go_sfld {D : Ends} {tv : TE} (h : tv σ H fun y H1 => ta σ H1 (sFldN K f y σ D)) : sFld K ta tv f D σ H := h
theorem go_sfldV {D : Ends} {y : V} {a C dx : Addr} {fs : List (Str × V)} (e : H a = some (.ins C dx fs)) (c : Cls K C) (n : NoAttr K C f) (l : fs.length < 1000) (h : D.nx σ (upd H a (.ins C dx (putF f y fs)))) : sFldN K f y σ D (.ref a) H :=
  ⟨a, C, dx, fs, rfl, e, c, n, l, h⟩
end
theorem same_made {H H1 : Hp} {z dz : Addr} {o1 o2 : HO} (hz : H z = none) (hdz : H dz = none) (s : ∀ c o, c ≠ z → upd (upd H dz o1) z o2 c = some o → H1 c = some o) : Same H H1 := fun t o ht => by
  refine s t o (ne_of_none ht hz) ?_
  rw [upd_ne (ne_of_none ht hz), upd_ne (ne_of_none ht hdz)]
  exact ht
theorem p_mono {x : Int} {k n : Nat} (h : x.natAbs < 2 ^ k) (hk : k ≤ n) : x.natAbs < 2 ^ n := Nat.lt_of_lt_of_le h (Nat.pow_le_pow_right (by decide) hk)
theorem p30 {x : Int} (h : x.natAbs ≤ 10 ^ 30 + 1) : x.natAbs < 2 ^ 100 := Nat.lt_of_le_of_lt h (by decide)
theorem p_add {x y : Int} {k : Nat} (h1 : x.natAbs < 2 ^ k) (h2 : y.natAbs < 2 ^ k) : (x + y).natAbs < 2 ^ (k + 1) := by
  have := Int.natAbs_add_le x y
  rw [Nat.pow_succ]
  omega
theorem p_sub {x y : Int} {k : Nat} (h1 : x.natAbs < 2 ^ k) (h2 : y.natAbs < 2 ^ k) : (x - y).natAbs < 2 ^ (k + 1) := by
  have := Int.natAbs_sub_le x y
  rw [Nat.pow_succ]
  omega
/-! ### lists of ratios -/
/-- each of xs is a ratio, with the terms of rs -/
def RatsAt (C : Addr) (H : Hp) (xs : List V) (rs : List (Int × Int)) : Prop := xs.length = rs.length ∧ ∀ (i : Nat) x r, xs[i]? = some x → rs[i]? = some r → ∃ p dx, x = .ref p ∧ H p = some (.ins C dx (rf r.1 r.2))
theorem RatsAt.same {C : Addr} {H H' : Hp} {xs : List V} {rs : List (Int × Int)} (h : RatsAt C H xs rs) (s : Same H H') : RatsAt C H' xs rs :=
  ⟨h.1, fun i x r a b => let ⟨p, dx, e, k⟩ := h.2 i x r a b; ⟨p, dx, e, s _ _ k⟩⟩
theorem RatsAt.get {C : Addr} {H : Hp} {xs : List V} {rs : List (Int × Int)} (h : RatsAt C H xs rs) {i : Nat} {x : V} (e : xs[i]? = some x) : ∃ r p dx, rs[i]? = some r ∧ x = .ref p ∧ H p = some (.ins C dx (rf r.1 r.2)) := by
  have hi := (List.getElem?_eq_some_iff.mp e).1
  have hi2 : i < rs.length := by rw [← h.1]; exact hi
  obtain ⟨p, dx, e2, k⟩ := h.2 i x _ e (List.getElem?_eq_getElem hi2)
  exact ⟨_, p, dx, List.getElem?_eq_getElem hi2, e2, k⟩
theorem RatsAt.nil {C : Addr} {H : Hp} : RatsAt C H [] [] := ⟨rfl, fun i x r h _ => by simp at h⟩
theorem RatsAt.snoc {C : Addr} {H : Hp} {xs : List V} {rs : List (Int × Int)} (h : RatsAt C H xs rs) {p dx : Addr} {n d : Int} (e : H p = some (.ins C dx (rf n d))) : RatsAt C H (xs ++ [.ref p]) (rs ++ [(n, d)]) := by
  refine ⟨by simp [h.1], fun i x r a b => ?_⟩
  rcases Nat.lt_or_ge i xs.length with q | q
  · rw [List.getElem?_append_left q] at a
    rw [List.getElem?_append_left (by rw [← h.1]; exact q)] at b
    exact h.2 i x r a b
  · rw [List.getElem?_append_right q] at a
    rw [List.getElem?_append_right (by rw [← h.1]; exact q), ← h.1] at b
    rcases Nat.eq_zero_or_pos (i - xs.length) with z | z
    · rw [z] at a b
      cases a
      cases b
      exact ⟨p, dx, rfl, e⟩
    · rw [List.getElem?_eq_none (by simp; omega)] at a
      cases a
/-- a comprehension's list, by what was made at each place -/
theorem rats_of {C : Addr} {H : Hp} {ys : List V} {rs : List (Int × Int)} (hl : ys.length = rs.length) (h : ∀ (k : Nat) y, ys[k]? = some y → ∃ r p dx, rs[k]? = some r ∧ y = .ref p ∧ H p = some (.ins C dx (rf r.1 r.2))) : RatsAt C H ys rs :=
  ⟨hl, fun i x r a b => by
    obtain ⟨r', p, dx, e1, e2, e3⟩ := h i x a
    rw [b] at e1
    cases e1
    exact ⟨p, dx, e2, e3⟩⟩
/-- the denominator of the common form -/
def cden (rs : List (Int × Int)) : Nat := rs.foldl (fun m r => Nat.lcm m r.2.natAbs) 1
theorem cden_snoc (rs : List (Int × Int)) (r : Int × Int) : cden (rs ++ [r]) = Nat.lcm (cden rs) r.2.natAbs := by
  unfold cden
  rw [List.foldl_append]
  rfl
theorem cden_take {rs : List (Int × Int)} {i : Nat} {r : Int × Int} (h : rs[i]? = some r) : cden (rs.take (i + 1)) = Nat.lcm (cden (rs.take i)) r.2.natAbs := by
  rw [List.take_add_one, h, show (some r).toList = [r] from rfl, cden_snoc]
theorem lfold_pos : ∀ (rs : List (Int × Int)) (m : Nat), 0 < m → (∀ r ∈ rs, 0 < r.2) → 0 < rs.foldl (fun m r => Nat.lcm m r.2.natAbs) m
  | [], m, h, _ => h
  | r :: t, m, h, hr => by
    rw [List.foldl_cons]
    refine lfold_pos t _ (Nat.lcm_pos h ?_) fun z hz => hr z (List.mem_cons_of_mem _ hz)
    have := hr r List.mem_cons_self
    omega
theorem cden_pos {rs : List (Int × Int)} (h : ∀ r ∈ rs, 0 < r.2) : 0 < cden rs := lfold_pos rs 1 (by decide) h
theorem lfold_dvd : ∀ (rs : List (Int × Int)) (m : Nat), m ∣ rs.foldl (fun m r => Nat.lcm m r.2.natAbs) m ∧ ∀ r ∈ rs, r.2.natAbs ∣ rs.foldl (fun m r => Nat.lcm m r.2.natAbs) m
  | [], m => ⟨Nat.dvd_refl _, fun r h => nomatch h⟩
  | s :: t, m => by
    rw [List.foldl_cons]
    obtain ⟨h1, h2⟩ := lfold_dvd t (Nat.lcm m s.2.natAbs)
    refine ⟨Nat.dvd_trans (Nat.dvd_lcm_left _ _) h1, fun r hr => ?_⟩
    rcases List.mem_cons.mp hr with rfl | hr
    · exact Nat.dvd_trans (Nat.dvd_lcm_right _ _) h1
    · exact h2 r hr
theorem cden_dvd {rs : List (Int × Int)} {r : Int × Int} (h : r ∈ rs) : r.2.natAbs ∣ cden rs := (lfold_dvd rs 1).2 r h
theorem lfold_least : ∀ (rs : List (Int × Int)) (m k : Nat), m ∣ k → (∀ r ∈ rs, r.2.natAbs ∣ k) → rs.foldl (fun m r => Nat.lcm m r.2.natAbs) m ∣ k
  | [], m, k, h, _ => h
  | s :: t, m, k, h, hr => by
    rw [List.foldl_cons]
    exact lfold_least t _ k (Nat.lcm_dvd h (hr s List.mem_cons_self)) fun z hz => hr z (List.mem_cons_of_mem _ hz)
theorem cden_least {rs : List (Int × Int)} {k : Nat} (h : ∀ r ∈ rs, r.2.natAbs ∣ k) : cden rs ∣ k := lfold_least rs 1 k (Nat.one_dvd _) h
theorem lfold_lt : ∀ (rs : List (Int × Int)) (m e : Nat), m < 2 ^ e → (∀ r ∈ rs, r.2.natAbs < 2 ^ 100) → rs.foldl (fun m r => Nat.lcm m r.2.natAbs) m < 2 ^ (e + 100 * rs.length)
  | [], m, e, h, _ => h
  | s :: t, m, e, h, hr => by
    rw [List.foldl_cons]
    have h1 : Nat.lcm m s.2.natAbs ≤ m * s.2.natAbs := Nat.div_le_self _ _
    have h2 : m * s.2.natAbs < 2 ^ e * 2 ^ 100 := Nat.mul_lt_mul'' h (hr s List.mem_cons_self)
    rw [← Nat.pow_add] at h2
    have := lfold_lt t (Nat.lcm m s.2.natAbs) (e + 100) (Nat.lt_of_le_of_lt h1 h2) fun z hz => hr z (List.mem_cons_of_mem _ hz)
    rw [List.length_cons, show e + 100 * (t.length + 1) = e + 100 + 100 * t.length by omega]
    exact this
theorem cden_lt {rs : List (Int × Int)} (h : ∀ r ∈ rs, r.2.natAbs < 2 ^ 100) (hl : rs.length ≤ 60) : cden rs < 2 ^ 9000 :=
  Nat.lt_of_lt_of_le (lfold_lt rs 1 1 (by decide) h) (Nat.pow_le_pow_right (by decide) (by omega))
/-- the numbers of the common form -/
def cnum (rs : List (Int × Int)) : List Int := rs.map fun r => r.1 * ((cden rs : Int) / r.2)
section
variable {K : PySem.W.Frag} {σ : L2.St} {H : Hp} {R : L2.St → Hp → Prop} {t : TG} {u : TGs}
theorem go_gtup {n : Nat} {a : Addr} {xs : List V} (h : SqT K H a xs) (hl : xs.length = n) (q : u xs σ H R) : gTup K n u (.ref a) σ H R := ⟨a, xs, rfl, h, hl, q⟩
theorem go_gcons {v : V} {r : List V} (h : t v σ H fun σ' H' => u r σ' H' R) : gCons t u (v :: r) σ H R := ⟨v, r, rfl, h⟩
theorem go_gnil (h : R σ H) : gNil [] σ H R := ⟨rfl, h⟩
end
/-! ### comprehensions that make objects -/
/-- what is told of an item stays as the heap grows, and as a list is written -/
structure Stays (P : Hp → Nat → V → Prop) : Prop where
  same : ∀ H H' k y, Same H H' → P H k y → P H' k y
  lst : ∀ H D zs zs' k y, H D = some (.lst zs) → P H k y → P (upd H D (.lst zs')) k y
theorem stays_rat {C : Addr} {rs : List (Int × Int)} : Stays fun H k y => ∃ r p dx, rs[k]? = some r ∧ y = .ref p ∧ H p = some (.ins C dx (rf r.1 r.2)) :=
  ⟨fun H H' k y s ⟨r, p, dx, a, b, c⟩ => ⟨r, p, dx, a, b, s _ _ c⟩, fun H D zs zs' k y e ⟨r, p, dx, a, b, c⟩ => ⟨r, p, dx, a, b, by rw [upd_ne (ne_of c e (by intro z; cases z))]; exact c⟩⟩
section
variable {K : PySem.W.Frag} {σ : L2.St} {H H1 : Hp} {Q : VK} {tl te : TE} {vs : List Nat} {j : Nat}
theorem lcLh {R : Addr → Hp → Prop} {a : Addr} (xs : List V) {P : Hp → Nat → V → Prop} (hP : Stays P) (hs : SqL K H1 a xs) (hz : xs.length ≤ 100000) (hw : ∀ x, wipe ((wipe σ vs).set j x) vs = wipe σ vs)
    (he : ∀ (i : Nat) x H', xs[i]? = some x → Same H1 H' → ∀ R : VK, (∀ y H'', Same H' H'' → P H'' i y → R y H'') → te ((wipe σ vs).set j (some x)) H' R)
    (q : ∀ D (ys : List V) H2, H1 D = none → Same H1 H2 → H2 D = some (.lst ys) → ys.length = xs.length → (∀ k y, ys[k]? = some y → P H2 k y) → R D H2) :
    ∃ b, V.ref a = .ref b ∧ (∃ xs, SqL K H1 b xs) ∧ ∀ D, H1 D = none → ∃ W : Nat → Nat → Hp → Prop, (∃ m, W 0 m (upd H1 D (.lst []))) ∧ ∀ i m H, W i m H →
      ((Itl K b).stop i H ∧ R D H) ∨ ((Itl K b).go i H ∧ ∃ Nx : Hp → Prop, (∀ H', Nx H' → ∃ m', m' < m ∧ W (i + 1) m' H') ∧ ∀ x H', (Itl K b).yld i H x H' → gName j x (wipe σ vs) H' fun σ2 H2 => wipe σ2 vs = wipe σ vs ∧ tYes σ2 H2 fun b H3 =>
        if b = true then te σ2 H3 fun y H4 => ∃ acc, H4 D = some (.lst acc) ∧ acc.length < sizeLine ∧ Nx (upd H4 D (.lst (acc ++ [y]))) else Nx H3) := by
  refine ⟨a, rfl, ⟨xs, hs⟩, fun D hD => ?_⟩
  refine lc_list (xs := xs) (fun i H' => Same H1 H' ∧ ∃ ys : List V, H' D = some (.lst ys) ∧ ys.length = i ∧ ∀ k y, ys[k]? = some y → P H' k y) ⟨same_new hD, [], upd_same, rfl, fun k y h => by simp at h⟩ (fun i H _ p => same_sqL p.1 hs) (fun i x H hx p => ?_) fun H p => ?_
  · obtain ⟨s, ys, e, hl, hp⟩ := p
    refine ⟨hw _, ?_⟩
    refine go_yes ?_
    refine iteT ?_
    refine he i x H hx s _ fun y H4 s4 hy => ?_
    have hi := (List.getElem?_eq_some_iff.mp hx).1
    have e4 := s4 _ _ e
    refine ⟨ys, e4, szlt (by omega), same_mut (s.trans s4) hD, ys ++ [y], upd_same, by simp [hl], fun k z hz => ?_⟩
    refine hP.lst _ _ ys _ _ _ e4 ?_
    rcases Nat.lt_or_ge k ys.length with h | h
    · rw [List.getElem?_append_left h] at hz
      exact hP.same _ _ _ _ s4 (hp k z hz)
    · rw [List.getElem?_append_right h] at hz
      rcases Nat.eq_or_lt_of_le h with e2 | e2
      · rw [← e2, Nat.sub_self] at hz
        cases hz
        rw [← e2, hl]
        exact hy
      · rw [List.getElem?_eq_none (by simp; omega)] at hz
        cases hz
  · obtain ⟨s, ys, e, hl, hp⟩ := p
    exact q D ys H hD s e hl hp
end
/-! ### lists of pairs -/
def PairsAt (H : Hp) (xs : List V) (ts : List (Int × Int)) : Prop := xs.length = ts.length ∧ ∀ (i : Nat) x t, xs[i]? = some x → ts[i]? = some t → ∃ p, x = .ref p ∧ H p = some (.tup [.int t.1, .int t.2])
theorem PairsAt.nil {H : Hp} : PairsAt H [] [] := ⟨rfl, fun i x r h _ => by simp at h⟩
theorem PairsAt.same {H H' : Hp} {xs : List V} {ts : List (Int × Int)} (h : PairsAt H xs ts) (s : Same H H') : PairsAt H' xs ts :=
  ⟨h.1, fun i x r a b => let ⟨p, e, k⟩ := h.2 i x r a b; ⟨p, e, s _ _ k⟩⟩
theorem PairsAt.get {H : Hp} {xs : List V} {ts : List (Int × Int)} (h : PairsAt H xs ts) {i : Nat} {t : Int × Int} (e : ts[i]? = some t) : ∃ p, xs[i]? = some (.ref p) ∧ H p = some (.tup [.int t.1, .int t.2]) := by
  have hi := (List.getElem?_eq_some_iff.mp e).1
  have hi2 : i < xs.length := by rw [h.1]; exact hi
  obtain ⟨p, e2, k⟩ := h.2 i _ t (List.getElem?_eq_getElem hi2) e
  exact ⟨p, by rw [List.getElem?_eq_getElem hi2, e2], k⟩
/-- a list is written: the pairs stand -/
theorem PairsAt.lst {H : Hp} {xs : List V} {ts : List (Int × Int)} {D : Addr} {zs zs' : List V} (h : PairsAt H xs ts) (e : H D = some (.lst zs)) : PairsAt (upd H D (.lst zs')) xs ts :=
  ⟨h.1, fun i x r a b => let ⟨p, e1, k⟩ := h.2 i x r a b; ⟨p, e1, by rw [upd_ne (ne_of k e (by intro z; cases z))]; exact k⟩⟩
theorem PairsAt.snoc {H : Hp} {xs : List V} {ts : List (Int × Int)} (h : PairsAt H xs ts) {p : Addr} {n d : Int} (e : H p = some (.tup [.int n, .int d])) : PairsAt H (xs ++ [.ref p]) (ts ++ [(n, d)]) := by
  refine ⟨by simp [h.1], fun i x r a b => ?_⟩
  rcases Nat.lt_or_ge i xs.length with q | q
  · rw [List.getElem?_append_left q] at a
    rw [List.getElem?_append_left (by rw [← h.1]; exact q)] at b
    exact h.2 i x r a b
  · rw [List.getElem?_append_right q] at a
    rw [List.getElem?_append_right (by rw [← h.1]; exact q), ← h.1] at b
    rcases Nat.eq_zero_or_pos (i - xs.length) with z | z
    · rw [z] at a b
      cases a
      cases b
      exact ⟨p, rfl, e⟩
    · rw [List.getElem?_eq_none (by simp; omega)] at a
      cases a
/-! ### the common form is the least -/
theorem form_coprime {rs : List (Int × Int)} (hpos : ∀ r ∈ rs, 0 < r.2) (hco : ∀ r ∈ rs, Int.gcd r.1 r.2 = 1) {g : Nat} (h1 : g ∣ cden rs) (h2 : ∀ n ∈ cnum rs, (g : Int) ∣ n) : g = 1 := by
  have hL := cden_pos hpos
  obtain ⟨m, hm⟩ := h1
  have hg : 0 < g := by
    rcases Nat.eq_zero_or_pos g with z | z
    · rw [z, Nat.zero_mul] at hm
      omega
    · exact z
  have hmp : 0 < m := by
    rcases Nat.eq_zero_or_pos m with z | z
    · rw [z, Nat.mul_zero] at hm
      omega
    · exact z
  have key : cden rs ∣ m := cden_least fun r hr => by
    have hd := cden_dvd hr
    have d0 := hpos r hr
    have co := hco r hr
    have hn : (g : Int) ∣ r.1 * ((cden rs : Int) / r.2) := h2 _ (List.mem_map_of_mem hr)
    obtain ⟨k, hk⟩ := hd
    have hrd : r.2 = (r.2.natAbs : Int) := by omega
    have hq : (cden rs : Int) / r.2 = (k : Int) := by
      rw [hk, hrd]
      push_cast
      rw [Int.natAbs_natCast]
      exact Int.mul_ediv_cancel_left _ (by omega)
    rw [hq] at hn
    have hn2 : g ∣ r.1.natAbs * k := by
      have := Int.natAbs_dvd_natAbs.mpr hn
      rw [Int.natAbs_natCast, Int.natAbs_mul, Int.natAbs_natCast] at this
      exact this
    have hn3 : g ∣ r.2.natAbs * k := by rw [← hk]; exact ⟨m, hm⟩
    have hgk : g ∣ k := by
      have := Nat.dvd_gcd hn2 hn3
      rw [Nat.gcd_mul_right] at this
      have e : Nat.gcd r.1.natAbs r.2.natAbs = 1 := co
      rw [e, Nat.one_mul] at this
      exact this
    obtain ⟨j, hj⟩ := hgk
    refine ⟨j, ?_⟩
    have : g * m = g * (r.2.natAbs * j) := by rw [← hm, hk, hj]; ac_rfl
    exact Nat.eq_of_mul_eq_mul_left hg this
  have := Nat.le_of_dvd hmp key
  rw [hm] at this
  rcases Nat.lt_or_ge 1 g with z | z
  · exfalso
    have : 2 * m ≤ g * m := Nat.mul_le_mul_right _ z
    omega
  · omega
theorem cnum_len (rs : List (Int × Int)) : (cnum rs).length = rs.length := by unfold cnum; rw [List.length_map]
theorem cnum_at {rs : List (Int × Int)} {i : Nat} {r : Int × Int} (h : rs[i]? = some r) : (cnum rs)[i]? = some (r.1 * ((cden rs : Int) / r.2)) := by
  unfold cnum
  rw [List.getElem?_map, h]
  rfl
theorem cnum_mul {rs : List (Int × Int)} {r : Int × Int} (h : r ∈ rs) : r.1 * ((cden rs : Int) / r.2) * r.2 = r.1 * (cden rs : Int) := by
  have : r.2 ∣ (cden rs : Int) := Int.natAbs_dvd_natAbs.mp (by rw [Int.natAbs_natCast]; exact cden_dvd h)
  rw [Int.mul_assoc, Int.ediv_mul_cancel this]
end Gx

set_option Elab.async false
set_option linter.all false
set_option maxRecDepth 100000
set_option maxHeartbeats 4000000
/-! Own lemmas: texts, sign by sign; numbers as texts. -/
namespace Gx
open PySem PySem.Spec PyProof.Rows L2
section
variable {X : Cx} {σ : L2.St} {H H1 : Hp} {Q : VK} {K : PySem.W.Frag}
def qInC : R2 := fun x y H Q => ∃ (c : Nat) (z : Str), x = .str ⟨#[c]⟩ ∧ y = .str z ∧ Q (.bl (decide (c ∈ z.cps.toList))) H
theorem o_in_sign : OpR X (compareOp .In) qInC := op_in_sign
theorem go_inC {c : Nat} {z : Str} (h : Q (.bl (decide (c ∈ z.cps.toList))) H) : qInC (.str (S [c])) (.str z) H Q := ⟨c, z, rfl, rfl, h⟩
def qNiC : R2 := fun x y H Q => ∃ (c : Nat) (z : Str), x = .str ⟨#[c]⟩ ∧ y = .str z ∧ Q (.bl (!decide (c ∈ z.cps.toList))) H
theorem o_notIn_sign : OpR X (compareOp .NotIn) qNiC := op_notIn_sign
theorem go_niC {c : Nat} {z : Str} (h : Q (.bl (!decide (c ∈ z.cps.toList))) H) : qNiC (.str (S [c])) (.str z) H Q := ⟨c, z, rfl, rfl, h⟩
def qIntStr : List V → Hp → VK → Prop := fun xs H Q => ∃ a n, xs = [.str a] ∧ PySem.intText? a = some n ∧ a.length ≤ 640 ∧ Q (.int n) H
theorem k_int_str : CallR X (.type "int") qIntStr := call_int_str
theorem go_intStr {a : Str} {n : Int} (e : PySem.intText? a = some n) (hl : a.length ≤ 640) (h : Q (.int n) H) : qIntStr [.str a] H Q := ⟨a, n, rfl, e, hl, h⟩
theorem go_intDigits {a : Str} (h : NumText.AllDigits a.cps.toList) (h1 : a.cps.toList ≠ []) (hl : a.length ≤ 640) (q : Q (.int ((NumText.digitsVal a.cps.toList : Nat) : Int)) H) : qIntStr [.str a] H Q :=
  go_intStr (intText_digits h h1 (by omega)) hl q
theorem len_toList (z : Str) : z.length = z.cps.toList.length := by simp [Str.length]
/-- the sign at a place -/
theorem atS_get {z : Str} {k : Nat} {c : Nat} (h : z.cps.toList[k]? = some c) : atI z.cps.toList (k : Int) = some c := atI_nat h
/-- for c in x -/
theorem foX {D : Ends} {tb : TS} {g : TG} (x : Str) (Pv : Nat → L2.St → Hp → Prop) (h0 : Pv 0 σ H1)
    (hs : ∀ i c σ H, x.cps.toList[i]? = some c → Pv i σ H → g (.str (S [c])) σ H fun σ2 H2 => tb { D with nx := Pv (i + 1), ct := Pv (i + 1), bk := D.nx } σ2 H2) (hd : ∀ σ H, Pv x.cps.toList.length σ H → D.nx σ H) :
    ∃ y, V.str x = .str y ∧ ∃ W : Nat → Nat → L2.St → Hp → Prop, (∃ m, W 0 m σ H1) ∧ ∀ i m σ H, W i m σ H →
      ((Its y).stop i H ∧ D.nx σ H) ∨ ((Its y).go i H ∧ ∃ N : L2.St → Hp → Prop, (∀ σ' H', N σ' H' → ∃ m', m' < m ∧ W (i + 1) m' σ' H') ∧ ∀ x2 H', (Its y).yld i H x2 H' → g x2 σ H' fun σ2 H2 => tb { D with nx := N, ct := N, bk := D.nx } σ2 H2) :=
  foS (x.cps.toList) Pv h0 hs hd
/-- an item of a written list at an int -/
theorem at_pick {xs : List V} {k : Int} (h0 : 0 ≤ k) (h : k < xs.length) : ∃ v, v ∈ xs ∧ atI xs k = some v := by
  have e : k = (k.toNat : Int) := by omega
  have h2 : k.toNat < xs.length := by omega
  rw [e]
  exact ⟨xs[k.toNat], List.getElem_mem h2, atI_nat (List.getElem?_eq_getElem h2)⟩
theorem at_pick2 {P : V → Prop} {xs : List V} {k : Int} (h0 : 0 ≤ k) (h : k < xs.length) (hp : ∀ v ∈ xs, P v) : ∃ v, P v ∧ atI xs k = some v := by
  obtain ⟨v, hm, e⟩ := at_pick h0 h
  exact ⟨v, hp v hm, e⟩
/-- one sign against another -/
theorem lt_sign (a b : Nat) : decide ((S [a]).cps.toList < (S [b]).cps.toList) = decide (a < b) := by
  show decide ([a] < [b]) = _
  by_cases h : a < b
  · rw [decide_eq_true h, decide_eq_true (by exact List.Lex.rel h)]
  · rw [decide_eq_false h, decide_eq_false]
    intro z
    cases z with
    | rel z => exact h z
    | cons z => cases z
/-- a text in a list of texts -/
theorem inV_str (x : Str) : ∀ ks : List Str, inV (.str x) (ks.map V.str) = ks.any (fun k => k == x)
  | [] => rfl
  | k :: r => by
    have := inV_str x r
    unfold inV at this ⊢
    rw [List.map_cons, List.any_cons, List.any_cons, this]
    rfl
theorem flat_strs (ks : List Str) : (ks.map V.str).all flatV = true := by
  rw [List.all_map, List.all_eq_true]
  intro k _
  rfl
theorem str_one (x : Str) (h : x.length = 1) : ∃ c, x = S [c] := by
  have : x.cps.toList.length = 1 := by rw [← len_toList]; exact h
  obtain ⟨c, hc⟩ := List.length_eq_one_iff.mp this
  exact ⟨c, by rw [← hc]⟩
end
/-! ### digits -/
theorem snocRec {α : Type} {P : List α → Prop} (nil : P []) (append_singleton : ∀ l a, P l → P (l ++ [a])) (l : List α) : P l := by
  have h : ∀ r : List α, P r.reverse := fun r => by
    induction r with
    | nil => exact nil
    | cons a r ih => rw [List.reverse_cons]; exact append_singleton _ _ ih
  have := h l.reverse
  rw [List.reverse_reverse] at this
  exact this
def isDig (c : Nat) : Bool := decide (48 ≤ c ∧ c ≤ 57)
theorem allDig {cs : List Nat} (h : cs.all isDig = true) : NumText.AllDigits cs := fun c hc => by
  have := List.all_eq_true.mp h c hc
  simpa [isDig] using this
theorem numL_dig (n : Nat) : (TL.numL n).all isDig = true := List.all_eq_true.mpr fun c hc => by
  have := TL.numL_digits n c hc
  simpa [isDig] using this
theorem digitsVal_snoc (cs : List Nat) (c : Nat) : NumText.digitsVal (cs ++ [c]) = NumText.digitsVal cs * 10 + (c - 48) := by
  unfold NumText.digitsVal
  rw [List.foldl_append]
  rfl
/-- a number's first sign -/
theorem numL_head : ∀ {n : Nat}, 0 < n → ∃ c r, TL.numL n = c :: r ∧ 49 ≤ c := by
  intro n
  induction n using Nat.strongRecOn with
  | _ n ih =>
    intro h0
    by_cases h : n < 10
    · exact ⟨48 + n, [], TL.numL_lt h, by omega⟩
    · obtain ⟨c, r, e, hc⟩ := ih (n / 10) (by omega) (by omega)
      refine ⟨c, r ++ [48 + n % 10], ?_, hc⟩
      rw [TL.numL_step (by omega), e]
      rfl
theorem val_zero_all : ∀ cs : List Nat, NumText.AllDigits cs → NumText.digitsVal cs = 0 → ∀ c ∈ cs, c = 48 := by
  intro cs
  induction cs using snocRec with
  | nil => intro _ _ c hc; cases hc
  | append_singleton l d ih =>
    intro h e c hc
    rw [digitsVal_snoc] at e
    have hd := h d (by simp)
    have h2 : NumText.AllDigits l := fun c hc => h c (List.mem_append_left _ hc)
    rcases List.mem_append.mp hc with hc | hc
    · exact ih h2 (by omega) c hc
    · rw [List.mem_singleton.mp hc]; omega
/-- digits without a zero ahead are the number's own -/
theorem numL_canon : ∀ cs : List Nat, NumText.AllDigits cs → cs ≠ [] → (∀ r, cs = 48 :: r → r = []) → TL.numL (NumText.digitsVal cs) = cs := by
  intro cs
  induction cs using snocRec with
  | nil => intro _ h; exact absurd rfl h
  | append_singleton l d ih =>
    intro h _ hz
    have hd := h d (by simp)
    have h2 : NumText.AllDigits l := fun c hc => h c (List.mem_append_left _ hc)
    rw [digitsVal_snoc]
    cases l with
    | nil =>
      show TL.numL (0 * 10 + (d - 48)) = [d]
      rw [TL.numL_lt (by omega)]
      congr 1
      omega
    | cons c r =>
      have hc := h2 c (by simp)
      have hc0 : c ≠ 48 := fun e => by
        subst e
        have := hz (r ++ [d]) rfl
        simp at this
      have e := ih h2 (by simp) (fun r' e' => by cases e'; exact absurd rfl hc0)
      have hp : 0 < NumText.digitsVal (c :: r) := by
        rcases Nat.eq_zero_or_pos (NumText.digitsVal (c :: r)) with z | z
        · exact absurd (val_zero_all _ h2 z c (by simp)) hc0
        · exact z
      rw [TL.numL_step (by omega)]
      have e1 : (NumText.digitsVal (c :: r) * 10 + (d - 48)) / 10 = NumText.digitsVal (c :: r) := by omega
      have e2 : 48 + (NumText.digitsVal (c :: r) * 10 + (d - 48)) % 10 = d := by omega
      rw [e1, e2, e]
theorem numL_iff {cs : List Nat} (h : NumText.AllDigits cs) : TL.numL (NumText.digitsVal cs) = cs ↔ cs ≠ [] ∧ ∀ r, cs = 48 :: r → r = [] := by
  constructor
  · intro e
    refine ⟨fun z => ?_, fun r er => ?_⟩
    · rw [z] at e
      exact TL.numL_ne _ e
    · rcases Nat.eq_zero_or_pos (NumText.digitsVal cs) with z | z
      · rw [z, er] at e
        have : TL.numL 0 = [48] := TL.numL_lt (by decide)
        rw [this] at e
        injection e with _ e
        exact e.symm
      · obtain ⟨c, r', e', hc⟩ := numL_head z
        rw [e, er] at e'
        injection e' with e1 _
        omega
  · rintro ⟨h1, h2⟩
    exact numL_canon cs h h1 h2
theorem val_lt : ∀ cs : List Nat, NumText.AllDigits cs → NumText.digitsVal cs < 10 ^ cs.length := by
  intro cs
  induction cs using snocRec with
  | nil => intro _; decide
  | append_singleton l d ih =>
    intro h
    have hd := h d (by simp)
    have := ih fun c hc => h c (List.mem_append_left _ hc)
    rw [digitsVal_snoc, List.length_append, List.length_singleton, Nat.pow_succ]
    omega
end Gx

set_option Elab.async false
set_option linter.all false
set_option maxRecDepth 100000
set_option maxHeartbeats 4000000
/-! Own lemmas: data at any depth (Dp), tuples joined and cut, a range with a step, a list turned round. -/
namespace Gx
open PySem PySem.Spec PyProof.Rows L2
section
variable {K : PySem.W.Frag} {H H' : Hp}
mutual
theorem dp_same (s : Same H H') : ∀ (d : PyData) (v : V), Dp K H v d → Dp K H' v d
  | .none, _, h => by cases h; exact .non
  | .bool b, _, h => by cases h; exact .bl b
  | .int i, _, h => by cases h; exact .int i
  | .str x, _, h => by cases h; exact .str x
  | .list ds, _, h => by
    cases h with
    | lst hs ha => exact .lst (Same.seq s hs) (dpAll_same s ds _ ha)
  | .tuple ds, _, h => by
    cases h with
    | tup hs ha => exact .tup (same_sqT s hs) (dpAll_same s ds _ ha)
  | .dict _, _, h => by cases h
theorem dpAll_same (s : Same H H') : ∀ (ds : List PyData) (vs : List V), DpAll K H vs ds → DpAll K H' vs ds
  | [], _, h => by cases h; exact .nil
  | d :: ds, _, h => by
    cases h with
    | cons h1 h2 => exact .cons (dp_same s d _ h1) (dpAll_same s ds _ h2)
end
theorem dpAll_len : ∀ {ds : List PyData} {vs : List V}, DpAll K H vs ds → vs.length = ds.length
  | [], _, h => by cases h; rfl
  | d :: ds, _, h => by
    cases h with
    | cons h1 h2 => simp [dpAll_len h2]
theorem dpAll_get : ∀ {ds : List PyData} {vs : List V} {i : Nat} {d : PyData}, DpAll K H vs ds → ds[i]? = some d → ∃ v, vs[i]? = some v ∧ Dp K H v d
  | [], _, i, d, _, e => by simp at e
  | d :: ds, _, 0, d', h, e => by
    cases h with
    | cons h1 h2 =>
      simp at e
      subst e
      exact ⟨_, rfl, h1⟩
  | d :: ds, _, i + 1, d', h, e => by
    cases h with
    | cons h1 h2 =>
      simp at e
      obtain ⟨v, e2, h3⟩ := dpAll_get h2 e
      exact ⟨v, by simpa using e2, h3⟩
theorem dpAll_last {K : PySem.W.Frag} {H : Hp} {ds : List PyData} {vs : List V} {v : V} (h : DpAll K H vs ds) (e : vs.getLast? = some v) : ∃ d, ds.getLast? = some d ∧ Dp K H v d := by
  have hl := dpAll_len h
  rw [List.getLast?_eq_getElem?] at e
  have hlt := (List.getElem?_eq_some_iff.mp e).1
  obtain ⟨d, ed⟩ : ∃ d, ds[ds.length - 1]? = some d := ⟨_, List.getElem?_eq_getElem (by omega)⟩
  obtain ⟨v2, e2, h2⟩ := dpAll_get h ed
  rw [← hl, e] at e2
  cases e2
  exact ⟨d, by rw [List.getLast?_eq_getElem?]; exact ed, h2⟩
theorem dpAll_append : ∀ {ds es : List PyData} {vs us : List V}, DpAll K H vs ds → DpAll K H us es → DpAll K H (vs ++ us) (ds ++ es)
  | [], es, _, us, h, k => by cases h; exact k
  | d :: ds, es, _, us, h, k => by
    cases h with
    | cons h1 h2 => exact .cons h1 (dpAll_append h2 k)
theorem dpAll_take : ∀ {ds : List PyData} {vs : List V} (n : Nat), DpAll K H vs ds → DpAll K H (vs.take n) (ds.take n)
  | [], _, n, h => by cases h; simp; exact .nil
  | d :: ds, _, 0, h => by simp; exact .nil
  | d :: ds, _, n + 1, h => by
    cases h with
    | cons h1 h2 => exact .cons h1 (dpAll_take n h2)
theorem dpAll_reverse : ∀ {ds : List PyData} {vs : List V}, DpAll K H vs ds → DpAll K H vs.reverse ds.reverse
  | [], _, h => by cases h; exact .nil
  | d :: ds, _, h => by
    cases h with
    | cons h1 h2 =>
      rw [List.reverse_cons, List.reverse_cons]
      exact dpAll_append (dpAll_reverse h2) (.cons h1 .nil)
/-! data without lists: they outlast what is stored into a list -/
mutual
def noL : PyData → Bool
  | .list _ => false
  | .dict _ => false
  | .tuple xs => noLAll xs
  | _ => true
def noLAll : List PyData → Bool
  | [] => true
  | d :: ds => noL d && noLAll ds
end
theorem sqT_put {l a : Addr} {ys zs xs : List V} (hl : H l = some (.lst ys)) (h : SqT K H a xs) : SqT K (upd H l (.lst zs)) a xs := by
  have ne : ∀ {o : HO}, H a = some o → o ≠ .lst ys → a ≠ l := fun e n z => by
    rw [z, hl] at e
    exact n (Option.some.inj e).symm
  rcases h with (h | ⟨o, h⟩) | h
  · exact .inl (.inl (by rw [upd_ne (ne h (fun z => by cases z))]; exact h))
  · exact .inl (.inr ⟨o, by rw [upd_ne (ne h (fun z => by cases z))]; exact h⟩)
  · exact .inr h
mutual
theorem dp_put {l : Addr} {ys zs : List V} (hl : H l = some (.lst ys)) : ∀ (d : PyData) (v : V), noL d = true → Dp K H v d → Dp K (upd H l (.lst zs)) v d
  | .none, _, _, h => by cases h; exact .non
  | .bool b, _, _, h => by cases h; exact .bl b
  | .int i, _, _, h => by cases h; exact .int i
  | .str x, _, _, h => by cases h; exact .str x
  | .list ds, _, n, _ => by simp [noL] at n
  | .tuple ds, _, n, h => by
    cases h with
    | tup hs ha => exact .tup (sqT_put hl hs) (dpAll_put hl ds _ (by simpa [noL] using n) ha)
  | .dict _, _, n, _ => by simp [noL] at n
theorem dpAll_put {l : Addr} {ys zs : List V} (hl : H l = some (.lst ys)) : ∀ (ds : List PyData) (vs : List V), noLAll ds = true → DpAll K H vs ds → DpAll K (upd H l (.lst zs)) vs ds
  | [], _, _, h => by cases h; exact .nil
  | d :: ds, _, n, h => by
    have n' : noL d = true ∧ noLAll ds = true := by simpa [noLAll] using n
    cases h with
    | cons h1 h2 => exact .cons (dp_put hl d _ n'.1 h1) (dpAll_put hl ds _ n'.2 h2)
end
theorem noL_all : ∀ {ds : List PyData}, (∀ d ∈ ds, noL d = true) → noLAll ds = true
  | [], _ => rfl
  | d :: ds, h => by
    show (noL d && noLAll ds) = true
    rw [h d (List.mem_cons_self ..), noL_all fun x hx => h x (List.mem_cons_of_mem _ hx)]
    rfl
theorem dp_tup {v : V} {ds : List PyData} (h : Dp K H v (.tuple ds)) : ∃ a xs, v = .ref a ∧ SqT K H a xs ∧ DpAll K H xs ds := by
  cases h with
  | tup hs ha => exact ⟨_, _, rfl, hs, ha⟩
variable {Q : VK} {R : L2.St → Hp → Prop}
theorem go_catA {a b : Addr} {xs ys : List V} (h1 : SqT K H a xs) (h2 : SqT K H b ys) (hz : xs.length + ys.length ≤ 100000) (hy : ys ≠ [])
    (q : ∀ p H', Same H H' → SqT K H' p (xs ++ ys) → Q (.ref p) H') : rCatA K (.ref a) (.ref b) H Q := by
  refine ⟨a, b, xs, ys, rfl, rfl, h1, h2, Nat.le_trans hz (by rw [sizeLine_eq]; decide), fun e => ?_, fun _ e => absurd e hy, fun _ _ p hp => ?_⟩
  · subst e
    exact q b H (Same.refl _) h2
  · exact q p _ (fun c o hc => by rw [upd_ne (ne_of_none hc hp)]; exact hc) (.inl (.inl upd_same))
theorem go_slTo {a : Addr} {xs : List V} {k : Nat} (h : SqT K H a xs) (hk : k ≤ xs.length) (q : ∀ p H', Same H H' → SqT K H' p (xs.take k) → Q (.ref p) H') : rSlA K (.ref a) none (some (k : Int)) H Q := by
  refine ⟨a, xs, rfl, h, fun e => ?_, fun _ p hp => ?_⟩
  · have e2 := e.2
    rw [HT.sIx_nat] at e2
    have : xs.take k = xs := List.take_of_length_le (by omega)
    exact q a H (Same.refl _) (by rw [this]; exact h)
  · have e : cutV xs none (some (k : Int)) = xs.take k := by
      unfold cutV
      rw [HT.sIx_none, HT.sIx_nat]
      simp
    exact q p _ (fun c o hc => by rw [upd_ne (ne_of_none hc hp)]; exact hc) (.inl (.inl (by rw [upd_same, e])))
theorem go_eqD {x y : V} {d : PyData} (h1 : Dp K H x d) (h2 : Dp K H y d) (hs : SeqAt.shaped d = true) (q : Q (.bl true) H) : rEqD K x y H Q :=
  ⟨d, d, h1, h2, hs, hs, by rw [SeqAt.eqv_refl d (SeqAt.canLay_of_shaped hs)]; exact q⟩
theorem go_neD {x y : V} {d : PyData} (h1 : Dp K H x d) (h2 : Dp K H y d) (hs : SeqAt.shaped d = true) (q : Q (.bl false) H) : rNeD K x y H Q :=
  ⟨d, d, h1, h2, hs, hs, by rw [SeqAt.eqv_refl d (SeqAt.canLay_of_shaped hs)]; exact q⟩
theorem at_0 {x : V} {l : List V} : atI (x :: l) 0 = some x := at_nat (xs := x :: l) (i := 0) rfl
theorem at_1 {x y : V} {l : List V} : atI (x :: y :: l) 1 = some y := at_nat (xs := x :: y :: l) (i := 1) rfl
theorem at_2 {x y z : V} {l : List V} : atI (x :: y :: z :: l) 2 = some z := at_nat (xs := x :: y :: z :: l) (i := 2) rfl
theorem at_last {xs : List V} (h : xs ≠ []) : atI xs (-1) = xs.getLast? := by
  have hl : 0 < xs.length := List.length_pos_iff.mpr h
  have e : ixN xs.length (-1) = some (xs.length - 1) := by
    unfold ixN
    rw [if_neg (by decide), if_pos (by omega)]
    congr 1
    omega
  unfold atI
  rw [e, Option.bind_some, List.getLast?_eq_getElem?]
theorem go_iRng3 {σ : L2.St} {ta : TA} {R : It → Hp → Prop} (h : ta σ H fun vs H1 => ∃ (i j c : Int) (n : Nat), vs = [.int i, .int j, .int c] ∧ RgC i j c n ∧ R (Itc i c n) H1) : iRng3 ta σ H R := h
/-- for i in range(n - 1, -1, -1) -/
theorem foRdn {σ : L2.St} {D : Ends} {g : TG} {tb : TS} {n : Nat} (Pv : Nat → L2.St → Hp → Prop) (hn : n ≤ 1000000) (h0 : Pv 0 σ H)
    (hs : ∀ (i : Nat) σ H, i < n → Pv i σ H → g (.int ((n - 1 - i : Nat) : Int)) σ H fun σ2 H2 => tb { D with nx := Pv (i + 1), ct := Pv (i + 1), bk := D.nx } σ2 H2) (hd : ∀ σ H, Pv n σ H → D.nx σ H) :
    ∃ (i j c : Int) (k : Nat), [V.int ((n : Int) - 1), .int (-1), .int (-1)] = [.int i, .int j, .int c] ∧ RgC i j c k ∧ ∃ W : Nat → Nat → L2.St → Hp → Prop, (∃ m, W 0 m σ H) ∧ ∀ i' m σ H, W i' m σ H →
      ((Itc i c k).stop i' H ∧ D.nx σ H) ∨ ((Itc i c k).go i' H ∧ ∃ N : L2.St → Hp → Prop, (∀ σ' H', N σ' H' → ∃ m', m' < m ∧ W (i' + 1) m' σ' H') ∧ ∀ x H', (Itc i c k).yld i' H x H' → g x σ H' fun σ2 H2 => tb { D with nx := N, ct := N, bk := D.nx } σ2 H2) := by
  have r := RgC.neg (i := (n : Int) - 1) (j := -1) (by omega) (by omega) (by omega) (by omega)
  have e : ((n : Int) - 1 - -1).toNat = n := by omega
  rw [e] at r
  refine ⟨_, _, _, n, rfl, r, for_rangeC Pv h0 (fun i σ H hi p => ?_) hd⟩
  have e2 : (n : Int) - 1 + (i : Nat) * (-1) = ((n - 1 - i : Nat) : Int) := by omega
  rw [e2]
  exact hs i σ H hi p
/-- t + ((..),): a view with one more item -/
theorem add_dp {vw p p2 : Addr} {xs : List V} {ds es : List PyData} (hv : Dp K H (.ref vw) (.tuple ds)) (hp : H p = none) (hp2 : upd H p (.tup xs) p2 = none) (hx : ∀ H', DpAll K H' xs es) (hl : ds.length ≤ 1000)
    (q : ∀ p3 H3, Same H H3 → Dp K H3 (.ref p3) (.tuple (ds ++ [.tuple es])) → Q (.ref p3) H3) : rCatA K (.ref vw) (.ref p2) (upd (upd H p (.tup xs)) p2 (.tup [.ref p])) Q := by
  obtain ⟨a, ys, e, h1, h2⟩ := dp_tup hv
  cases e
  have s1 : Same H (upd (upd H p (.tup xs)) p2 (.tup [.ref p])) := fun c o hc => by
    have h3 : upd H p (.tup xs) c = some o := by rw [upd_ne (ne_of_none hc hp)]; exact hc
    rw [upd_ne (ne_of_none h3 hp2)]
    exact h3
  have hpp : upd (upd H p (.tup xs)) p2 (.tup [.ref p]) p = some (.tup xs) := by
    have h3 : upd H p (.tup xs) p = some (.tup xs) := upd_same
    rw [upd_ne (ne_of_none h3 hp2)]
    exact h3
  have hlen := dpAll_len h2
  refine go_catA (same_sqT s1 h1) (.inl (.inl upd_same)) (by simp; omega) (by simp) fun p3 H3 s3 e3 => ?_
  refine q p3 H3 (s1.trans s3) (.tup e3 (dpAll_append (dpAll_same (s1.trans s3) _ _ h2) (.cons (.tup (.inl (.inl (s3 _ _ hpp))) (hx H3)) .nil)))
theorem go_revL {te : TE} {σ : L2.St} (h : te σ H fun x H1 => ∃ a xs, x = .ref a ∧ SqL K H1 a xs ∧ ∀ p, H1 p = none → Q (.ref p) (upd H1 p (.lst xs.reverse))) : tRevL K te σ H Q := h
end
end Gx

set_option Elab.async false
set_option linter.all false
set_option maxRecDepth 100000
set_option maxHeartbeats 4000000
/-! Own lemmas: what stands while one list is written. -/
namespace Gx
open PySem PySem.Spec PyProof.Rows L2
theorem PairsAt.but {q : Addr} {H H' : Hp} {zs xs : List V} {ts : List (Int × Int)} (h : PairsAt H xs ts) (e : H q = some (.lst zs)) (B : But q H H') : PairsAt H' xs ts :=
  ⟨h.1, fun i x r a b => let ⟨p, e1, k⟩ := h.2 i x r a b; ⟨p, e1, B _ _ (ne_of k e (by intro z; cases z)) k⟩⟩
theorem Pool.but {p : Pl} {b : Int} {q : Addr} {H H' : Hp} (h : Pool H p b) (B : But q H H') (n1 : q ≠ p.a) (n2 : q ≠ p.l) : Pool H' p b := by
  obtain ⟨p1, p2, p3, p4, e, k⟩ := h.ex
  exact ⟨⟨p1, p2, p3, p4, B _ _ n1.symm e, k⟩, B _ _ n2.symm h.li, h.ne⟩
end Gx

set_option Elab.async false
set_option linter.all false
set_option maxRecDepth 100000
set_option maxHeartbeats 4000000
/-! Own lemmas: data while one list is written; dicts of texts; expressions. -/
namespace Gx
open PySem PySem.Spec PyProof.Rows L2
section
variable {K : PySem.W.Frag} {H H' : Hp}
theorem sqT_but {l a : Addr} {ys xs : List V} (hl : H l = some (.lst ys)) (B : But l H H') (h : SqT K H a xs) : SqT K H' a xs := by
  have ne : ∀ {o : HO}, H a = some o → o ≠ .lst ys → a ≠ l := fun e n z => by
    rw [z, hl] at e
    exact n (Option.some.inj e).symm
  rcases h with (h | ⟨o, h⟩) | h
  · exact .inl (.inl (B _ _ (ne h (fun z => by cases z)) h))
  · exact .inl (.inr ⟨o, B _ _ (ne h (fun z => by cases z)) h⟩)
  · exact .inr h
mutual
theorem dp_but {l : Addr} {ys : List V} (hl : H l = some (.lst ys)) (B : But l H H') : ∀ (d : PyData) (v : V), noL d = true → Dp K H v d → Dp K H' v d
  | .none, _, _, h => by cases h; exact .non
  | .bool b, _, _, h => by cases h; exact .bl b
  | .int i, _, _, h => by cases h; exact .int i
  | .str x, _, _, h => by cases h; exact .str x
  | .list ds, _, n, _ => by simp [noL] at n
  | .tuple ds, _, n, h => by
    cases h with
    | tup hs ha => exact .tup (sqT_but hl B hs) (dpAll_but hl B ds _ (by simpa [noL] using n) ha)
  | .dict _, _, n, _ => by simp [noL] at n
theorem dpAll_but {l : Addr} {ys : List V} (hl : H l = some (.lst ys)) (B : But l H H') : ∀ (ds : List PyData) (vs : List V), noLAll ds = true → DpAll K H vs ds → DpAll K H' vs ds
  | [], _, _, h => by cases h; exact .nil
  | d :: ds, _, n, h => by
    have n' : noL d = true ∧ noLAll ds = true := by simpa [noLAll] using n
    cases h with
    | cons h1 h2 => exact .cons (dp_but hl B d _ n'.1 h1) (dpAll_but hl B ds _ n'.2 h2)
end
theorem Turn.dp {p : Pl} {b b0 : Int} {d : PyData} {v : V} (t : Turn p b H H') (hp : Pool H p b0) (n : noL d = true) (h : Dp K H v d) : Dp K H' v d := by
  obtain ⟨zs, ez⟩ := hp.there
  exact dp_but ez t.but d v n h
theorem Turn.sqT {p : Pl} {b b0 : Int} {a : Addr} {xs : List V} (t : Turn p b H H') (hp : Pool H p b0) (h : SqT K H a xs) : SqT K H' a xs := by
  obtain ⟨zs, ez⟩ := hp.there
  exact sqT_but ez t.but h
/-! how deep data are -/
mutual
def dDeep : PyData → Nat
  | .list ds => dDeepAll ds + 1
  | .tuple ds => dDeepAll ds + 1
  | _ => 0
def dDeepAll : List PyData → Nat
  | [] => 0
  | d :: ds => max (dDeep d) (dDeepAll ds)
end
mutual
def noDict : PyData → Bool
  | .dict _ => false
  | .list ds => noDictAll ds
  | .tuple ds => noDictAll ds
  | _ => true
def noDictAll : List PyData → Bool
  | [] => true
  | d :: ds => noDict d && noDictAll ds
end
mutual
def small : PyData → Bool
  | .list ds => decide (ds.length ≤ 100000) && smallAll ds
  | .tuple ds => decide (ds.length ≤ 100000) && smallAll ds
  | .dict _ => false
  | _ => true
def smallAll : List PyData → Bool
  | [] => true
  | d :: ds => small d && smallAll ds
end
theorem small_at : ∀ {ds : List PyData} {i : Nat} {d : PyData}, smallAll ds = true → ds[i]? = some d → small d = true
  | [], _, _, _, h => by cases h
  | e :: ds, 0, d, s, h => by
    cases h
    have : small e = true ∧ smallAll ds = true := by simpa [smallAll] using s
    exact this.1
  | e :: ds, i + 1, d, s, h => by
    have : small e = true ∧ smallAll ds = true := by simpa [smallAll] using s
    exact small_at this.2 (by simpa using h)
theorem deep_at : ∀ {ds : List PyData} {i : Nat} {d : PyData}, ds[i]? = some d → dDeep d ≤ dDeepAll ds
  | [], _, _, h => by cases h
  | e :: ds, 0, d, h => by cases h; exact Nat.le_max_left _ _
  | e :: ds, i + 1, d, h => Nat.le_trans (deep_at (ds := ds) (i := i) (by simpa using h)) (Nat.le_max_right _ _)
theorem eqd_of : ∀ (n : Nat) (d : PyData) (x y : V), dDeep d ≤ n → small d = true → Dp K H x d → Dp K H y d → Eqd K H n x y
  | n, .none, _, _, _, _, h, k => by cases h; cases k; exact .non
  | n, .bool b, _, _, _, _, h, k => by cases h; cases k; exact .bl b
  | n, .int i, _, _, _, _, h, k => by cases h; cases k; exact .int i
  | n, .str z, _, _, _, _, h, k => by cases h; cases k; exact .str z
  | n, .dict _, _, _, _, s, _, _ => by simp [small] at s
  | 0, .list ds, _, _, hd, _, _, _ => by simp [dDeep] at hd
  | 0, .tuple ds, _, _, hd, _, _, _ => by simp [dDeep] at hd
  | n + 1, .list ds, _, _, hd, s, h, k => by
    have s2 : ds.length ≤ 100000 ∧ smallAll ds = true := by simpa [small] using s
    have hd2 : dDeepAll ds ≤ n := by simpa [dDeep] using hd
    cases h with
    | lst h1 h2 =>
      cases k with
      | lst k1 k2 =>
        have l1 := dpAll_len h2
        have l2 := dpAll_len k2
        refine .lst h1 k1 (by omega) (by omega) fun i x y hx hy => ?_
        have hi := (List.getElem?_eq_some_iff.mp hx).1
        have e : ds[i]? = some ds[i] := List.getElem?_eq_getElem (by omega)
        obtain ⟨x', e1, d1⟩ := dpAll_get h2 e
        obtain ⟨y', e2, d2⟩ := dpAll_get k2 e
        rw [hx] at e1
        rw [hy] at e2
        cases e1
        cases e2
        exact eqd_of n _ _ _ (Nat.le_trans (deep_at e) hd2) (small_at s2.2 e) d1 d2
  | n + 1, .tuple ds, _, _, hd, s, h, k => by
    have s2 : ds.length ≤ 100000 ∧ smallAll ds = true := by simpa [small] using s
    have hd2 : dDeepAll ds ≤ n := by simpa [dDeep] using hd
    cases h with
    | tup h1 h2 =>
      cases k with
      | tup k1 k2 =>
        have l1 := dpAll_len h2
        have l2 := dpAll_len k2
        refine .tup h1 k1 (by omega) (by omega) fun i x y hx hy => ?_
        have hi := (List.getElem?_eq_some_iff.mp hx).1
        have e : ds[i]? = some ds[i] := List.getElem?_eq_getElem (by omega)
        obtain ⟨x', e1, d1⟩ := dpAll_get h2 e
        obtain ⟨y', e2, d2⟩ := dpAll_get k2 e
        rw [hx] at e1
        rw [hy] at e2
        cases e1
        cases e2
        exact eqd_of n _ _ _ (Nat.le_trans (deep_at e) hd2) (small_at s2.2 e) d1 d2
end
theorem upd_id {H : Hp} {a : Addr} {o : HO} (e : H a = some o) : upd H a o = H := by
  funext b
  unfold upd
  split
  · rename_i h
    rw [h, e]
  · rfl
section
variable {K : PySem.W.Frag} {H H' : Hp}
theorem sqT_ext (ht : ∀ c xs, H c = some (.tup xs) → H' c = some (.tup xs)) (hf : ∀ c o u, H c = some (.frz o u) → H' c = some (.frz o u)) {a : Addr} {xs : List V} (h : SqT K H a xs) : SqT K H' a xs := by
  rcases h with (h | ⟨o, h⟩) | h
  · exact .inl (.inl (ht _ _ h))
  · exact .inl (.inr ⟨o, hf _ _ _ h⟩)
  · exact .inr h
mutual
theorem dp_ext (ht : ∀ c xs, H c = some (.tup xs) → H' c = some (.tup xs)) (hf : ∀ c o u, H c = some (.frz o u) → H' c = some (.frz o u)) : ∀ (d : PyData) (v : V), noL d = true → Dp K H v d → Dp K H' v d
  | .none, _, _, h => by cases h; exact .non
  | .bool b, _, _, h => by cases h; exact .bl b
  | .int i, _, _, h => by cases h; exact .int i
  | .str x, _, _, h => by cases h; exact .str x
  | .list ds, _, n, _ => by simp [noL] at n
  | .tuple ds, _, n, h => by
    cases h with
    | tup hs ha => exact .tup (sqT_ext ht hf hs) (dpAll_ext ht hf ds _ (by simpa [noL] using n) ha)
  | .dict _, _, n, _ => by simp [noL] at n
theorem dpAll_ext (ht : ∀ c xs, H c = some (.tup xs) → H' c = some (.tup xs)) (hf : ∀ c o u, H c = some (.frz o u) → H' c = some (.frz o u)) : ∀ (ds : List PyData) (vs : List V), noLAll ds = true → DpAll K H vs ds → DpAll K H' vs ds
  | [], _, _, h => by cases h; exact .nil
  | d :: ds, _, n, h => by
    have n' : noL d = true ∧ noLAll ds = true := by simpa [noLAll] using n
    cases h with
    | cons h1 h2 => exact .cons (dp_ext ht hf d _ n'.1 h1) (dpAll_ext ht hf ds _ n'.2 h2)
end
end
section
variable {K : PySem.W.Frag} {H H' : Hp}
/-- the script's list is not the new list at l, or it is a written one -/
theorem sqL_split {a l : Addr} {xs : List V} (h : SqL K H a xs) (n : H l = none) : a ≠ l ∨ ∀ H' : Hp, SqL K H' a xs := by
  rcases h with (h | ⟨o, h⟩) | h
  · exact .inl (ne_of_none h n)
  · exact .inl (ne_of_none h n)
  · exact .inr fun H' => .inr h
theorem sqL_but {a l : Addr} {xs : List V} (hA : a ≠ l ∨ ∀ H' : Hp, SqL K H' a xs) (B : But l H H') (h : SqL K H a xs) : SqL K H' a xs := by
  rcases hA with n | hA
  · rcases h with (h | ⟨o, h⟩) | h
    · exact .inl (.inl (B _ _ n h))
    · exact .inl (.inr ⟨o, B _ _ n h⟩)
    · exact .inr h
  · exact hA H'
theorem sqL_updK {a l : Addr} {xs : List V} {kvs kvs' : List (Key × V)} (e : H l = some (.dK kvs)) (h : SqL K H a xs) : SqL K (upd H l (.dK kvs')) a xs := by
  rcases h with (h | ⟨o, h⟩) | h
  · exact .inl (.inl (by rw [upd_ne (ne_of h e (by intro z; cases z))]; exact h))
  · exact .inl (.inr ⟨o, by rw [upd_ne (ne_of h e (by intro z; cases z))]; exact h⟩)
  · exact .inr h
theorem sqT_updK {a l : Addr} {xs : List V} {kvs kvs' : List (Key × V)} (e : H l = some (.dK kvs)) (h : SqT K H a xs) : SqT K (upd H l (.dK kvs')) a xs :=
  sqT_ext (fun c xs h => by rw [upd_ne (ne_of h e (by intro z; cases z))]; exact h) (fun c o u h => by rw [upd_ne (ne_of h e (by intro z; cases z))]; exact h) h
theorem dp_updK {l : Addr} {kvs kvs' : List (Key × V)} (e : H l = some (.dK kvs)) {d : PyData} {v : V} (n : noL d = true) (h : Dp K H v d) : Dp K (upd H l (.dK kvs')) v d :=
  dp_ext (fun c xs h => by rw [upd_ne (ne_of h e (by intro z; cases z))]; exact h) (fun c o u h => by rw [upd_ne (ne_of h e (by intro z; cases z))]; exact h) d v n h
end
/-! ### tests of written texts -/
theorem ite_df {a b : Str} {A B : Prop} (h : ¬ a = b) (k : B) : if decide (a = b) = true then A else B := by rw [decide_eq_false h]; exact k
theorem ite_ndt {a : Str} {A B : Prop} (k : B) : if (!decide (a = a)) = true then A else B := by rw [decide_eq_true rfl]; exact k
theorem ite_ndtI {a : Int} {A B : Prop} (k : B) : if (!decide (a = a)) = true then A else B := by rw [decide_eq_true rfl]; exact k
theorem ite_ndf {a b : Str} {A B : Prop} (h : ¬ a = b) (k : A) : if (!decide (a = b)) = true then A else B := by rw [decide_eq_false h]; exact k
/-! ### dicts of texts -/
section
variable {K : PySem.W.Frag} {σ : L2.St} {H H1 : Hp} {Q : VK} {td ty tv : TE} {D : Ends}
def qDGet (y : V) (Q : VK) (x : V) (H2 : Hp) : Prop := ∃ a v, x = .ref a ∧ DGet H2 a y (some v) ∧ Q v H2
theorem go_dget (h : td σ H fun x H1 => ty σ H1 fun y H2 => qDGet y Q x H2) : tDGet td ty σ H Q := h
theorem go_dgetS {a : Addr} {kvs : List (Key × V)} {k : Str} {v : V} (e : H a = some (.dK kvs)) (hv : valV kvs (.inr k) = some v) (h : Q v H) : qDGet (.str k) Q (.ref a) H :=
  ⟨a, v, rfl, by have g := DGet.k (k := Sum.inr k) e; rw [hv] at g; exact g, h⟩
def qDPut (y v : V) (D : Ends) (σ : L2.St) (x : V) (H3 : Hp) : Prop := ∃ a H4, x = .ref a ∧ DPut H3 a y v H4 ∧ D.nx σ H4
theorem go_dput (h : tv σ H fun v H1 => td σ H1 fun x H2 => ty σ H2 fun y H3 => qDPut y v D σ x H3) : sDPut td ty tv D σ H := h
theorem go_dputS {a : Addr} {kvs : List (Key × V)} {k : Str} {v : V} (e : H a = some (.dK kvs)) (hz : kvs.length ≤ 100000) (h : D.nx σ (upd H a (.dK (putK kvs (.inr k) v)))) : qDPut (.str k) v D σ (.ref a) H :=
  ⟨a, _, rfl, DPut.k (k := Sum.inr k) e (szlt hz), h⟩
theorem go_dnew (h : ∀ p, H p = none → Q (.ref p) (upd H p (.dK []))) : tDNewK σ H Q := h
theorem go_iTup {tl : TE} {R : It → Hp → Prop} (h : tl σ H fun x H1 => ∃ a, x = .ref a ∧ (∃ xs, SqT K H1 a xs) ∧ R (Itt K a) H1) : iTup K tl σ H R := h
/-- for x in a tuple, behind its reading -/
theorem foT {g : TG} {tb : TS} {a : Addr} (xs : List V) (Pv : Nat → L2.St → Hp → Prop) (h0 : Pv 0 σ H1) (hl : ∀ i σ H, i ≤ xs.length → Pv i σ H → SqT K H a xs)
    (hs : ∀ i x σ H, xs[i]? = some x → Pv i σ H → g x σ H fun σ2 H2 => tb { D with nx := Pv (i + 1), ct := Pv (i + 1), bk := D.nx } σ2 H2) (hd : ∀ σ H, Pv xs.length σ H → D.nx σ H) :
    ∃ b, V.ref a = .ref b ∧ (∃ xs, SqT K H1 b xs) ∧ ∃ W : Nat → Nat → L2.St → Hp → Prop, (∃ m, W 0 m σ H1) ∧ ∀ i m σ H, W i m σ H →
      ((Itt K b).stop i H ∧ D.nx σ H) ∨ ((Itt K b).go i H ∧ ∃ N : L2.St → Hp → Prop, (∀ σ' H', N σ' H' → ∃ m', m' < m ∧ W (i + 1) m' σ' H') ∧ ∀ x H', (Itt K b).yld i H x H' → g x σ H' fun σ2 H2 => tb { D with nx := N, ct := N, bk := D.nx } σ2 H2) :=
  ⟨a, rfl, ⟨xs, hl 0 σ H1 (Nat.zero_le _) h0⟩, for_tup Pv h0 hl hs hd⟩
theorem go_tupOf {a : Addr} {xs : List V} (hs : SqL K H a xs) (h : ∀ l, H l = none → Q (.ref l) (upd H l (.tup xs))) : qTupOf K [.ref a] H Q := go_tupOfL hs h
end
theorem valV_put {kvs : List (Key × V)} {k : Key} {v : V} : valV (putK kvs k v) k = some v := by
  unfold putK
  split
  · rename_i h
    induction kvs with
    | nil => cases h
    | cons p r ih =>
      by_cases e : p.1 = k
      · rw [List.map_cons, if_pos e]
        exact valV_pos e
      · rw [List.map_cons, if_neg e, valV_neg e]
        refine ih ?_
        simpa [List.any_cons, e] using h
  · rename_i h
    induction kvs with
    | nil => exact valV_pos rfl
    | cons p r ih =>
      have e : ¬ p.1 = k := fun e => h (by simp [List.any_cons, e])
      rw [List.cons_append, valV_neg e]
      refine ih ?_
      simpa [List.any_cons, e] using h
theorem valV_put_ne {kvs : List (Key × V)} {k j : Key} {v : V} (n : j ≠ k) : valV (putK kvs k v) j = valV kvs j := by
  unfold putK
  split
  · rename_i h
    clear h
    induction kvs with
    | nil => rfl
    | cons p r ih =>
      rw [List.map_cons]
      by_cases e : p.1 = k
      · rw [if_pos e]
        have e2 : ¬ p.1 = j := fun z => n (z.symm.trans e)
        rw [valV_neg (p := (p.1, v)) e2, valV_neg e2]
        exact ih
      · rw [if_neg e]
        by_cases e2 : p.1 = j
        · rw [valV_pos e2, valV_pos e2]
        · rw [valV_neg e2, valV_neg e2]
          exact ih
  · rename_i h
    clear h
    induction kvs with
    | nil => exact valV_neg (Ne.symm n)
    | cons p r ih =>
      rw [List.cons_append]
      by_cases e2 : p.1 = j
      · rw [valV_pos e2, valV_pos e2]
      · rw [valV_neg e2, valV_neg e2]
        exact ih
def keyPut (ks : List Key) (k : Key) : List Key := if (ks.any fun j => decide (j = k)) = true then ks else ks ++ [k]
theorem putK_keys {kvs : List (Key × V)} {k : Key} {v : V} : (putK kvs k v).map (·.1) = keyPut (kvs.map (·.1)) k := by
  unfold putK keyPut
  have e : ((kvs.map (·.1)).any fun j => decide (j = k)) = (kvs.any fun kv => decide (kv.1 = k)) := by rw [List.any_map]; rfl
  rw [e]
  split
  · rw [List.map_map]
    refine List.map_congr_left fun p _ => ?_
    show (if p.1 = k then (p.1, v) else p).1 = p.1
    split <;> rfl
  · rw [List.map_append]
    rfl
theorem putK_len {kvs : List (Key × V)} {k : Key} {v : V} : (putK kvs k v).length ≤ kvs.length + 1 := by
  unfold putK
  split <;> simp
theorem putK_mem {kvs : List (Key × V)} {k : Key} {v : V} {p : Key × V} (h : p ∈ putK kvs k v) : p = (k, v) ∨ p ∈ kvs := by
  unfold putK at h
  split at h
  · obtain ⟨q, hq, e⟩ := List.mem_map.mp h
    split at e
    · rename_i hk
      exact .inl (by rw [← e, hk])
    · exact .inr (e ▸ hq)
  · rcases List.mem_append.mp h with h | h
    · exact .inr h
    · exact .inl (List.mem_singleton.mp h)
theorem valV_mem {kvs : List (Key × V)} {k : Key} {v : V} (h : valV kvs k = some v) : (k, v) ∈ kvs := by
  induction kvs with
  | nil => cases h
  | cons p r ih =>
    by_cases e : p.1 = k
    · rw [valV_pos e] at h
      cases h
      rw [← e]
      exact List.mem_cons_self
    · rw [valV_neg e] at h
      exact List.mem_cons_of_mem _ (ih h)
/-! ### truth -/
section
variable {X : Cx} {K : PySem.W.Frag} {a : Expr} {ta : TE} {σ : L2.St} {H : Hp} {QB : Bool → Hp → Prop}
def qTru (K : PySem.W.Frag) (QB : Bool → Hp → Prop) (x : V) (H : Hp) : Prop := ∃ k, TruV K x H k ∧ QB k H
def tTr (K : PySem.W.Frag) (ta : TE) : TT := fun σ H QB => ta σ H (qTru K QB)
theorem p_truthK (hK : X.K = K) (ha : PE X a ta) (he : ∀ whole, isTrue a X.env whole = (do let v ← whole; standAt a.pos; holding [v] (truthy v))) : PT X a (tTr K ta) := by
  subst hK
  exact pt_truth ha he
theorem go_tTr (h : ta σ H (qTru K QB)) : tTr K ta σ H QB := h
theorem go_truL {l : Addr} {xs : List V} (h : SqL K H l xs) (q : QB (!xs.isEmpty) H) : qTru K QB (.ref l) H := ⟨_, .inl ⟨xs, h, rfl⟩, q⟩
theorem go_truT {l : Addr} {xs : List V} (h : SqT K H l xs) (q : QB (!xs.isEmpty) H) : qTru K QB (.ref l) H := ⟨_, .inr (.inl ⟨xs, h, rfl⟩), q⟩
theorem go_truI {i : Int} (q : QB (i != 0) H) : qTru K QB (.int i) H := ⟨_, rfl, q⟩
theorem go_truB {b : Bool} (q : QB b H) : qTru K QB (.bl b) H := ⟨_, rfl, q⟩
theorem go_truN (q : QB false H) : qTru K QB .non H := ⟨_, rfl, q⟩
end
/-- {x} * k, of one item -/
def rRep1 (K : PySem.W.Frag) : R2 := fun x y H Q => ∃ l k z, x = .ref l ∧ y = .int k ∧ SqT K H l [z] ∧ 2 ≤ k ∧ k ≤ 1000000 ∧ ∀ p, H p = none → Q (.ref p) (upd H p (.tup (List.replicate k.toNat z)))
theorem flat_one {α : Type} (z : α) : ∀ n : Nat, (List.replicate n [z]).flatten = List.replicate n z
  | 0 => rfl
  | n + 1 => by
    rw [List.replicate_succ, List.flatten_cons, flat_one z n]
    rfl
theorem op_rep1 {X : Cx} : OpR X (binaryOp .Mult) (rRep1 X.K) := by
  intro pins s σ H x y v u Q I rx ry h
  obtain ⟨l, k, z, rfl, rfl, hT, h2, h6, q⟩ := h
  obtain ⟨t, rfl⟩ := ry
  cases rx
  obtain ⟨its, r, ⟨⟨oc, od, oda, osl⟩, ho, hcl, m, hda⟩, hsz⟩ := I.tuple hT
  dsimp only at hcl hda
  subst hcl hda
  obtain ⟨zu, rfl⟩ : ∃ zu, its = [zu] := by
    cases r with
    | cons _ rt => cases rt; exact ⟨_, rfl⟩
  have one : ∀ w : Int, (((([zu] : List Value).toArray).size : Nat) : Int) * w = w := fun w => by
    show ((1 : Nat) : Int) * w = w
    omega
  have line : (List.replicate k.toNat [zu]).flatten.length ≤ sizeLine := by
    rw [flat_one, List.length_replicate, sizeLine_eq]
    omega
  have d0 : (decide (k < -(2 ^ 63)) || decide (k ≥ 2 ^ 63)) = false := by simp; omega
  have d1 : ((([zu] : List Value).toArray).isEmpty || k == 1) = false := by
    show (false || k == 1) = false
    simp
    omega
  have d2 : (decide (k ≤ 0) || (([zu] : List Value).toArray).isEmpty) = false := by
    show (decide (k ≤ 0) || false) = false
    simp
    omega
  have d4 : Builtin.Tuple.tupleTooMany (((([zu] : List Value).toArray).size : Nat) * k) = false := by
    rw [one]
    unfold Builtin.Tuple.tupleTooMany
    rw [sizeLine_eq]
    simp
    omega
  have run := tuple_mulW l [zu].toArray m od osl k t d0 d1 d2 (by rw [one]; omega) d4 (by rw [size_rep, List.size_toArray]; exact line)
  refine wpAny_binaryOp_repeat_ref (T := "tuple") (U := "int") (by decide) ⟨_, ho, rfl⟩ (fun z => typeIs_int z k t) noFill_tuple_mul F.fills_int_mul F.slot_int_rmul repeat_tuple F.slot_int_index.lookup ?_
  refine call_meets F.slot_int_rmul (typeIs_int s k t) F.entry_int_rmul (F.args_int_rmul_2 _ _) (int_rmul_tuple k t l [zu].toArray m od osl) ⟨ho, rfl, ⟨_, ho, rfl⟩, ?_⟩
  refine call_meets F.slot_tuple_mul ⟨_, ho, rfl⟩ F.entry_tuple_mul (F.args_tuple_mul_2 _ _) run ⟨ho, ?_⟩
  rw [size_rep]
  have hv : Vals (List.replicate k.toNat z) (List.replicate k.toNat zu) := by
    have rz : RelV z zu := by cases r with | cons a _ => exact a
    generalize k.toNat = j
    induction j with
    | zero => exact .nil
    | succ j ih => exact .cons rz ih
  have fresh := I.hok.fresh (Nat.le_refl _)
  refine ⟨.ref s.heap.objs.size, _, I.laid (t' := s.toks) (o := .tup (List.replicate k.toNat z)) (fun b ob e => Heap.get?_push_of_some _ e) (Nat.le_refl _) ⟨?_, List.replicate k.toNat zu, hv, ?_⟩, rfl, q _ fresh⟩
  · rw [List.length_replicate, sizeLine_eq]
    omega
  · rw [flat_one]
    exact IsTup.new _ _
/-! ### expressions -/
inductive Ex where
  | num (n : Int)
  | var (x : Str)
  | long
  | view (e : Ex)
  | pick (x : Str) (a b : Ex)
  | op (s : Nat) (a b : Ex)
def signsS : List Str := ["+", "-", "*", "/", "mod", "<", "="]
def signS (s : Nat) : Str := signsS.getD s "+"
def exD : Ex → PyData
  | .num n => .tuple [.str "number", .int n]
  | .var x => .tuple [.str "variable", .str x]
  | .long => .tuple [.str "long"]
  | .view e => .tuple [.str "view", exD e]
  | .pick x a b => .tuple [.str "pick", .str x, exD a, exD b]
  | .op s a b => .tuple [.str (signS s), exD a, exD b]
def ExIn (ns ps : List Str) : Nat → Ex → Prop
  | 0, _ => False
  | _ + 1, .num n => 0 ≤ n ∧ n < 65536
  | _ + 1, .var x => x ∈ ns
  | _ + 1, .long => True
  | d + 1, .view e => ExIn ns ps d e
  | d + 1, .pick x a b => x ∈ ps ∧ ExIn ns ps d a ∧ ExIn ns ps d b
  | d + 1, .op s a b => s < 7 ∧ ExIn ns ps d a ∧ ExIn ns ps d b
theorem ExIn.up {ns ps : List Str} : ∀ {d : Nat} {e : Ex}, ExIn ns ps d e → ExIn ns ps (d + 1) e
  | 0, _, h => h.elim
  | _ + 1, .num n, h => h
  | _ + 1, .var x, h => h
  | _ + 1, .long, h => h
  | d + 1, .view e, h => ExIn.up (d := d) h
  | d + 1, .pick x a b, h => ⟨h.1, ExIn.up (d := d) h.2.1, ExIn.up (d := d) h.2.2⟩
  | d + 1, .op s a b, h => ⟨h.1, ExIn.up (d := d) h.2.1, ExIn.up (d := d) h.2.2⟩
theorem ExIn.le {ns ps : List Str} {d m : Nat} {e : Ex} (h : ExIn ns ps d e) (hm : d ≤ m) : ExIn ns ps m e := by
  induction hm with
  | refl => exact h
  | step _ ih => exact ih.up
theorem exD_noL : ∀ e : Ex, noL (exD e) = true
  | .num n => rfl
  | .var x => rfl
  | .long => rfl
  | .view e => by
    show (true && (noL (exD e) && true)) = true
    rw [exD_noL e]
    rfl
  | .pick x a b => by
    show (true && (true && (noL (exD a) && (noL (exD b) && true)))) = true
    rw [exD_noL a, exD_noL b]
    rfl
  | .op s a b => by
    show (true && (noL (exD a) && (noL (exD b) && true))) = true
    rw [exD_noL a, exD_noL b]
    rfl
def comb (s : Nat) (l r : Int) : Int := match s with
  | 0 => (l + r) % 65536
  | 1 => if l - r > 0 then l - r else 0
  | 2 => l * r % 65536
  | 3 => if r > 0 then l / r else 0
  | 4 => if r > 0 then l % r else 0
  | 5 => if l < r then 1 else 0
  | _ => if l = r then 1 else 0
theorem comb_in {s : Nat} {l r : Int} (h1 : 0 ≤ l ∧ l < 65536) (h2 : 0 ≤ r ∧ r < 65536) : 0 ≤ comb s l r ∧ comb s l r < 65536 := by
  unfold comb
  split
  · omega
  · split <;> omega
  · exact ⟨Int.emod_nonneg _ (by decide), Int.emod_lt_of_pos _ (by decide)⟩
  · split
    · rename_i h
      exact ⟨Int.ediv_nonneg h1.1 h2.1, Int.lt_of_le_of_lt (Int.ediv_le_self _ h1.1) h1.2⟩
    · omega
  · split
    · rename_i h
      exact ⟨Int.emod_nonneg _ (by omega), Int.lt_trans (Int.emod_lt_of_pos _ h) h2.2⟩
    · omega
  · split <;> omega
  · split <;> omega
def evalE (tab : Str → Int) (on : Str → Bool) (seen : List Int) : Ex → Int
  | .num n => n
  | .var x => tab x
  | .long => min (seen.length : Int) 65535
  | .view e => if evalE tab on seen e < seen.length then seen.getD (evalE tab on seen e).toNat 0 else 0
  | .pick x a b => if on x = true then evalE tab on seen a else evalE tab on seen b
  | .op s a b => comb s (evalE tab on seen a) (evalE tab on seen b)
theorem evalE_in {tab : Str → Int} {on : Str → Bool} {seen : List Int} {ns ps : List Str} (ht : ∀ x ∈ ns, 0 ≤ tab x ∧ tab x < 65536) (hs : ∀ n ∈ seen, 0 ≤ n ∧ n < 65536) :
    ∀ (d : Nat) (e : Ex), ExIn ns ps d e → 0 ≤ evalE tab on seen e ∧ evalE tab on seen e < 65536
  | 0, _, h => h.elim
  | d + 1, .num n, h => h
  | d + 1, .var x, h => ht x h
  | d + 1, .long, _ => by show 0 ≤ min (seen.length : Int) 65535 ∧ _; unfold evalE; omega
  | d + 1, .view e, h => by
    obtain ⟨h0, h1⟩ := evalE_in (on := on) ht hs d e h
    show 0 ≤ (if evalE tab on seen e < seen.length then seen.getD (evalE tab on seen e).toNat 0 else 0) ∧ (if evalE tab on seen e < seen.length then seen.getD (evalE tab on seen e).toNat 0 else 0) < 65536
    split
    · rename_i hl
      have hlt : (evalE tab on seen e).toNat < seen.length := by omega
      rw [List.getD_eq_getElem?_getD, List.getElem?_eq_getElem hlt]
      exact hs _ (List.getElem_mem hlt)
    · omega
  | d + 1, .pick x a b, h => by
    show 0 ≤ (if on x = true then evalE tab on seen a else evalE tab on seen b) ∧ (if on x = true then evalE tab on seen a else evalE tab on seen b) < 65536
    split
    · exact evalE_in ht hs d a h.2.1
    · exact evalE_in ht hs d b h.2.2
  | d + 1, .op s a b, h => comb_in (evalE_in ht hs d a h.2.1) (evalE_in ht hs d b h.2.2)
/-- names with ints, names with truth values -/
def TabOk (H : Hp) (t : Addr) (ns : List Str) (tab : Str → Int) : Prop := ∃ kvs, H t = some (.dK kvs) ∧ kvs.length ≤ 1000 ∧ ∀ x ∈ ns, valV kvs (.inr x) = some (.int (tab x)) ∧ 0 ≤ tab x ∧ tab x < 65536
def OnOk (H : Hp) (t : Addr) (ps : List Str) (on : Str → Bool) : Prop := ∃ kvs, H t = some (.dK kvs) ∧ kvs.length ≤ 1000 ∧ ∀ x ∈ ps, valV kvs (.inr x) = some (.bl (on x))
theorem TabOk.same {H H' : Hp} {t : Addr} {ns : List Str} {tab : Str → Int} (h : TabOk H t ns tab) (s : Same H H') : TabOk H' t ns tab := let ⟨kvs, e, r⟩ := h; ⟨kvs, s _ _ e, r⟩
theorem OnOk.same {H H' : Hp} {t : Addr} {ns : List Str} {on : Str → Bool} (h : OnOk H t ns on) (s : Same H H') : OnOk H' t ns on := let ⟨kvs, e, r⟩ := h; ⟨kvs, s _ _ e, r⟩
theorem TabOk.turn {H H' : Hp} {t : Addr} {ns : List Str} {tab : Str → Int} {p : Pl} {b b0 : Int} (h : TabOk H t ns tab) (hp : Pool H p b0) (s : Turn p b H H') : TabOk H' t ns tab := by
  obtain ⟨kvs, e, r⟩ := h
  obtain ⟨zs, ez⟩ := hp.there
  exact ⟨kvs, s.but _ _ (ne_of e ez (by intro z; cases z)) e, r⟩
theorem OnOk.turn {H H' : Hp} {t : Addr} {ns : List Str} {on : Str → Bool} {p : Pl} {b b0 : Int} (h : OnOk H t ns on) (hp : Pool H p b0) (s : Turn p b H H') : OnOk H' t ns on := by
  obtain ⟨kvs, e, r⟩ := h
  obtain ⟨zs, ez⟩ := hp.there
  exact ⟨kvs, s.but _ _ (ne_of e ez (by intro z; cases z)) e, r⟩
/-- a dict that was filled over the names xs, its values so -/
structure DB (kvs : List (Key × V)) (xs : List Str) (P : V → Prop) : Prop where
  keys : kvs.map (·.1) = xs.foldl (fun ks x => keyPut ks (.inr x)) []
  len : kvs.length ≤ xs.length
  has : ∀ x ∈ xs, ∃ v, valV kvs (.inr x) = some v ∧ P v
  all : ∀ p ∈ kvs, P p.2
theorem DB.nil {P : V → Prop} : DB [] [] P := ⟨rfl, Nat.le_refl _, (fun _ h => nomatch h), fun _ h => nomatch h⟩
theorem DB.put {kvs : List (Key × V)} {xs : List Str} {P : V → Prop} {x : Str} {v : V} (h : DB kvs xs P) (hv : P v) : DB (putK kvs (.inr x) v) (xs ++ [x]) P := by
  refine ⟨by rw [putK_keys, h.keys, List.foldl_append]; rfl, ?_, fun y hy => ?_, fun p hp => ?_⟩
  · have := h.len
    have := putK_len (kvs := kvs) (k := .inr x) (v := v)
    rw [List.length_append, List.length_singleton]
    omega
  · by_cases e : y = x
    · exact ⟨v, by rw [e]; exact valV_put, hv⟩
    · have hm : y ∈ xs := by
        rcases List.mem_append.mp hy with hy | hy
        · exact hy
        · exact absurd (List.mem_singleton.mp hy) e
      obtain ⟨u, h1, h2⟩ := h.has y hm
      exact ⟨u, by rw [valV_put_ne (fun z => e (Sum.inr.inj z))]; exact h1, h2⟩
  · rcases putK_mem hp with rfl | hp
    · exact hv
    · exact h.all p hp
/-- a dict that was filled over the same names, each with its value in kvs -/
structure DC (k0 : List (Key × V)) (xs : List Str) (kvs : List (Key × V)) : Prop where
  keys : k0.map (·.1) = xs.foldl (fun ks x => keyPut ks (.inr x)) []
  len : k0.length ≤ xs.length
  same : ∀ p ∈ k0, valV kvs p.1 = some p.2
  has : ∀ x ∈ xs, valV k0 (.inr x) = valV kvs (.inr x)
theorem DC.nil {kvs : List (Key × V)} : DC [] [] kvs := ⟨rfl, Nat.le_refl _, (fun _ h => nomatch h), fun _ h => nomatch h⟩
theorem DC.put {k0 kvs : List (Key × V)} {xs : List Str} {x : Str} {v : V} (h : DC k0 xs kvs) (hv : valV kvs (.inr x) = some v) : DC (putK k0 (.inr x) v) (xs ++ [x]) kvs := by
  refine ⟨by rw [putK_keys, h.keys, List.foldl_append]; rfl, ?_, fun p hp => ?_, fun y hy => ?_⟩
  · have := h.len
    have := putK_len (kvs := k0) (k := .inr x) (v := v)
    rw [List.length_append, List.length_singleton]
    omega
  · rcases putK_mem hp with rfl | hp
    · exact hv
    · exact h.same p hp
  · by_cases e : y = x
    · rw [e, hv]
      exact valV_put
    · have hm : y ∈ xs := by
        rcases List.mem_append.mp hy with hy | hy
        · exact hy
        · exact absurd (List.mem_singleton.mp hy) e
      rw [valV_put_ne (fun z => e (Sum.inr.inj z))]
      exact h.has y hm
theorem DC.eqV {K : PySem.W.Frag} {H : Hp} {k0 kvs : List (Key × V)} {xs : List Str} {P : V → Prop} (h : DC k0 xs kvs) (g : DB kvs xs P) (hP : ∀ v, P v → flatB v = true) {a b : Addr} (ha : H a = some (.dK k0)) (hb : H b = some (.dK kvs)) : EqV K H 2 (.ref a) (.ref b) := by
  refine .inr (.inr (.inr ⟨a, b, k0, kvs, rfl, rfl, ha, hb, ?_, fun p hp => ⟨p.2, h.same p hp, .inl ⟨rfl, hP _ (g.all (p.1, p.2) (valV_mem (h.same p hp)))⟩⟩⟩))
  have e := congrArg List.length (h.keys.trans g.keys.symm)
  rw [List.length_map, List.length_map] at e
  exact e
/-- the table's values, as functions -/
def tabOf (kvs : List (Key × V)) (x : Str) : Int := match valV kvs (.inr x) with | some (.int n) => n | _ => 0
def onOf (kvs : List (Key × V)) (x : Str) : Bool := match valV kvs (.inr x) with | some (.bl b) => b | _ => false
def IsNum (v : V) : Prop := ∃ n : Int, v = .int n ∧ 0 ≤ n ∧ n < 65536
def IsBl (v : V) : Prop := ∃ b : Bool, v = .bl b
theorem DB.tab {H : Hp} {t : Addr} {kvs : List (Key × V)} {xs : List Str} (h : DB kvs xs IsNum) (hx : xs.length ≤ 1000) (e : H t = some (.dK kvs)) : TabOk H t xs (tabOf kvs) := by
  have := h.len
  refine ⟨kvs, e, by omega, fun x hm => ?_⟩
  obtain ⟨v, h1, n, rfl, h2⟩ := h.has x hm
  have et : tabOf kvs x = n := by unfold tabOf; rw [h1]
  rw [et]
  exact ⟨h1, h2⟩
theorem DB.on {H : Hp} {t : Addr} {kvs : List (Key × V)} {xs : List Str} (h : DB kvs xs IsBl) (hx : xs.length ≤ 1000) (e : H t = some (.dK kvs)) : OnOk H t xs (onOf kvs) := by
  have := h.len
  refine ⟨kvs, e, by omega, fun x hm => ?_⟩
  obtain ⟨v, h1, b, rfl⟩ := h.has x hm
  have et : onOf kvs x = b := by unfold onOf; rw [h1]
  rw [et]
  exact h1
theorem DC.tab {H : Hp} {t : Addr} {k0 kvs : List (Key × V)} {xs : List Str} (h : DC k0 xs kvs) (g : DB kvs xs IsNum) (hx : xs.length ≤ 1000) (e : H t = some (.dK k0)) : TabOk H t xs (tabOf kvs) := by
  have := h.len
  refine ⟨k0, e, by omega, fun x hm => ?_⟩
  obtain ⟨v, h1, n, rfl, h2⟩ := g.has x hm
  have et : tabOf kvs x = n := by unfold tabOf; rw [h1]
  rw [et, h.has x hm]
  exact ⟨h1, h2⟩
theorem DC.on {H : Hp} {t : Addr} {k0 kvs : List (Key × V)} {xs : List Str} (h : DC k0 xs kvs) (g : DB kvs xs IsBl) (hx : xs.length ≤ 1000) (e : H t = some (.dK k0)) : OnOk H t xs (onOf kvs) := by
  have := h.len
  refine ⟨k0, e, by omega, fun x hm => ?_⟩
  obtain ⟨v, h1, b, rfl⟩ := g.has x hm
  have et : onOf kvs x = b := by unfold onOf; rw [h1]
  rw [et, h.has x hm]
  exact h1
theorem take_snoc {α : Type} {xs : List α} {i : Nat} {x : α} (h : xs[i]? = some x) : xs.take (i + 1) = xs.take i ++ [x] := by
  rw [List.take_add_one, h]
  rfl
theorem strs_at {xs : List Str} {i : Nat} {v : V} (h : (xs.map V.str)[i]? = some v) : ∃ x, v = .str x ∧ xs[i]? = some x := by
  rw [List.getElem?_map] at h
  cases e : xs[i]? with
  | none => rw [e] at h; cases h
  | some x => rw [e] at h; cases h; exact ⟨x, rfl, rfl⟩
theorem strs_pick {xs : List Str} {k : Int} (h0 : 0 ≤ k) (h : k < xs.length) : ∃ x, x ∈ xs ∧ atI (xs.map V.str) k = some (.str x) := by
  obtain ⟨v, hv, e⟩ := at_pick (xs := xs.map V.str) h0 (by rw [List.length_map]; exact h)
  obtain ⟨x, hx, rfl⟩ := List.mem_map.mp hv
  exact ⟨x, hx, e⟩
/-- a text for a sign -/
theorem sign_cases {s : Nat} (h : s < 7) : s = 0 ∨ s = 1 ∨ s = 2 ∨ s = 3 ∨ s = 4 ∨ s = 5 ∨ s = 6 := by omega
end Gx

set_option Elab.async false
set_option linter.all false
set_option maxRecDepth 100000
set_option maxHeartbeats 4000000
/-! Own lemmas: equal expressions, folded expressions. -/
namespace Gx
open PySem PySem.Spec PyProof.Rows L2
def eqX (a b : Ex) : Bool := PyData.eqv (exD a) (exD b)
def headS : Ex → Str
  | .num _ => "number"
  | .var _ => "variable"
  | .long => "long"
  | .view _ => "view"
  | .pick _ _ _ => "pick"
  | .op s _ _ => signS s
def restD : Ex → List PyData
  | .num n => [.int n]
  | .var x => [.str x]
  | .long => []
  | .view e => [exD e]
  | .pick x a b => [.str x, exD a, exD b]
  | .op _ a b => [exD a, exD b]
theorem exD_form : ∀ e : Ex, exD e = .tuple (.str (headS e) :: restD e)
  | .num _ => rfl
  | .var _ => rfl
  | .long => rfl
  | .view _ => rfl
  | .pick _ _ _ => rfl
  | .op _ _ _ => rfl
theorem eqX_form (a b : Ex) : eqX a b = ((headS a == headS b) && PyData.eqvAll (restD a) (restD b)) := by
  unfold eqX
  rw [exD_form a, exD_form b]
  simp only [PyData.eqv, PyData.eqvAll]
theorem eqX_head {a b : Ex} (h : eqX a b = true) : headS a = headS b ∧ PyData.eqvAll (restD a) (restD b) = true := by
  rw [eqX_form, Bool.and_eq_true] at h
  exact ⟨by simpa using h.1, h.2⟩
theorem signS_inj {s t : Nat} (hs : s < 7) (ht : t < 7) (h : signS s = signS t) : s = t := by
  rcases sign_cases hs with rfl | rfl | rfl | rfl | rfl | rfl | rfl <;> rcases sign_cases ht with rfl | rfl | rfl | rfl | rfl | rfl | rfl <;> first | rfl | exact absurd h (by decide +kernel)
theorem signS_not {s : Nat} (hs : s < 7) : ¬ signS s = "number" ∧ ¬ signS s = "variable" ∧ ¬ signS s = "long" ∧ ¬ signS s = "view" ∧ ¬ signS s = "pick" := by
  rcases sign_cases hs with rfl | rfl | rfl | rfl | rfl | rfl | rfl <;> decide +kernel
theorem eqX_true {ns ps : List Str} : ∀ (d : Nat) (a b : Ex), ExIn ns ps d a → ExIn ns ps d b → eqX a b = true → a = b
  | 0, _, _, h, _, _ => h.elim
  | d + 1, a, b, ha, hb, h => by
    obtain ⟨h1, h2⟩ := eqX_head h
    have two : ∀ {x y x' y' : Ex}, PyData.eqvAll [exD x, exD y] [exD x', exD y'] = true → eqX x x' = true ∧ eqX y y' = true := fun {x y x' y'} z => by
      simp only [PyData.eqvAll, Bool.and_true, Bool.and_eq_true] at z
      exact z
    cases a with
    | num n =>
      cases b with
      | num m =>
        have : n = m := by simpa [restD, PyData.eqvAll, PyData.eqv] using h2
        rw [this]
      | var x => exact absurd h1 (by simp only [headS]; decide +kernel)
      | long => exact absurd h1 (by simp only [headS]; decide +kernel)
      | view e => exact absurd h1 (by simp only [headS]; decide +kernel)
      | pick x e f => exact absurd h1 (by simp only [headS]; decide +kernel)
      | op s e f => exact absurd h1.symm (signS_not hb.1).1
    | var x =>
      cases b with
      | num m => exact absurd h1 (by simp only [headS]; decide +kernel)
      | var y =>
        have : x = y := by simpa [restD, PyData.eqvAll, PyData.eqv] using h2
        rw [this]
      | long => exact absurd h1 (by simp only [headS]; decide +kernel)
      | view e => exact absurd h1 (by simp only [headS]; decide +kernel)
      | pick x e f => exact absurd h1 (by simp only [headS]; decide +kernel)
      | op s e f => exact absurd h1.symm (signS_not hb.1).2.1
    | long =>
      cases b with
      | num m => exact absurd h1 (by simp only [headS]; decide +kernel)
      | var y => exact absurd h1 (by simp only [headS]; decide +kernel)
      | long => rfl
      | view e => exact absurd h1 (by simp only [headS]; decide +kernel)
      | pick x e f => exact absurd h1 (by simp only [headS]; decide +kernel)
      | op s e f => exact absurd h1.symm (signS_not hb.1).2.2.1
    | view e =>
      cases b with
      | num m => exact absurd h1 (by simp only [headS]; decide +kernel)
      | var y => exact absurd h1 (by simp only [headS]; decide +kernel)
      | long => exact absurd h1 (by simp only [headS]; decide +kernel)
      | view f =>
        have : eqX e f = true := by
          have z := h2
          simp only [restD, PyData.eqvAll, Bool.and_true] at z
          exact z
        rw [eqX_true d e f ha hb this]
      | pick x e f => exact absurd h1 (by simp only [headS]; decide +kernel)
      | op s e f => exact absurd h1.symm (signS_not hb.1).2.2.2.1
    | pick x e f =>
      cases b with
      | num m => exact absurd h1 (by simp only [headS]; decide +kernel)
      | var y => exact absurd h1 (by simp only [headS]; decide +kernel)
      | long => exact absurd h1 (by simp only [headS]; decide +kernel)
      | view f => exact absurd h1 (by simp only [headS]; decide +kernel)
      | pick y e' f' =>
        have z := h2
        simp only [restD, PyData.eqvAll, Bool.and_true, Bool.and_eq_true] at z
        have hx : x = y := by simpa [PyData.eqv] using z.1
        rw [hx, eqX_true d e e' ha.2.1 hb.2.1 z.2.1, eqX_true d f f' ha.2.2 hb.2.2 z.2.2]
      | op s e f => exact absurd h1.symm (signS_not hb.1).2.2.2.2
    | op s e f =>
      cases b with
      | num m => exact absurd h1 (signS_not ha.1).1
      | var y => exact absurd h1 (signS_not ha.1).2.1
      | long => exact absurd h1 (signS_not ha.1).2.2.1
      | view f => exact absurd h1 (signS_not ha.1).2.2.2.1
      | pick y e' f' => exact absurd h1 (signS_not ha.1).2.2.2.2
      | op t e' f' =>
        obtain ⟨z1, z2⟩ := two h2
        rw [signS_inj ha.1 hb.1 h1, eqX_true d e e' ha.2.1 hb.2.1 z1, eqX_true d f f' ha.2.2 hb.2.2 z2]
/-! shaped -/
theorem sign_strOk {s : Nat} : PyData.strOk (signS s) = true := by
  by_cases h : s < 7
  · rcases sign_cases h with rfl | rfl | rfl | rfl | rfl | rfl | rfl <;> decide +kernel
  · have : signS s = "+" := by
      unfold signS
      rw [List.getD_eq_getElem?_getD, List.getElem?_eq_none (by show 7 ≤ s; omega)]
      rfl
    rw [this]
    decide +kernel
theorem exD_lay {ns ps : List Str} (hn : ∀ x ∈ ns, PyData.strOk x = true) (hp : ∀ x ∈ ps, PyData.strOk x = true) : ∀ (d : Nat) (e : Ex), ExIn ns ps d e → PyData.canLay0 (exD e) = true ∧ PyData.depth (exD e) ≤ d
  | 0, _, h => h.elim
  | d + 1, .num n, _ => by
    refine ⟨?_, ?_⟩
    · show PyData.canLay0 (.tuple [.str "number", .int n]) = true
      simp only [PyData.canLay0, PyData.canLayAll0, Bool.and_true]
      decide +kernel
    · show PyData.depth (.tuple [.str "number", .int n]) ≤ d + 1
      simp [PyData.depth, PyData.depthAll]
  | d + 1, .var x, h => by
    refine ⟨?_, ?_⟩
    · show PyData.canLay0 (.tuple [.str "variable", .str x]) = true
      simp only [PyData.canLay0, PyData.canLayAll0, Bool.and_true, hn x h]
      decide +kernel
    · show PyData.depth (.tuple [.str "variable", .str x]) ≤ d + 1
      simp [PyData.depth, PyData.depthAll]
  | d + 1, .long, _ => by
    refine ⟨by decide +kernel, ?_⟩
    show PyData.depth (.tuple [.str "long"]) ≤ d + 1
    simp [PyData.depth, PyData.depthAll]
  | d + 1, .view e, h => by
    obtain ⟨h1, h2⟩ := exD_lay hn hp d e h
    refine ⟨?_, ?_⟩
    · show PyData.canLay0 (.tuple [.str "view", exD e]) = true
      simp only [PyData.canLay0, PyData.canLayAll0, Bool.and_true, h1]
      decide +kernel
    · show PyData.depth (.tuple [.str "view", exD e]) ≤ d + 1
      simp [PyData.depth, PyData.depthAll]
      omega
  | d + 1, .pick x a b, h => by
    obtain ⟨h1, h2⟩ := exD_lay hn hp d a h.2.1
    obtain ⟨h3, h4⟩ := exD_lay hn hp d b h.2.2
    refine ⟨?_, ?_⟩
    · show PyData.canLay0 (.tuple [.str "pick", .str x, exD a, exD b]) = true
      simp only [PyData.canLay0, PyData.canLayAll0, Bool.and_true, h1, h3, hp x h.1]
      decide +kernel
    · show PyData.depth (.tuple [.str "pick", .str x, exD a, exD b]) ≤ d + 1
      simp [PyData.depth, PyData.depthAll]
      omega
  | d + 1, .op s a b, h => by
    obtain ⟨h1, h2⟩ := exD_lay hn hp d a h.2.1
    obtain ⟨h3, h4⟩ := exD_lay hn hp d b h.2.2
    refine ⟨?_, ?_⟩
    · show PyData.canLay0 (.tuple [.str (signS s), exD a, exD b]) = true
      simp only [PyData.canLay0, PyData.canLayAll0, Bool.and_true, h1, h3, sign_strOk]
    · show PyData.depth (.tuple [.str (signS s), exD a, exD b]) ≤ d + 1
      simp [PyData.depth, PyData.depthAll]
      omega
theorem exD_shaped {ns ps : List Str} (hn : ∀ x ∈ ns, PyData.strOk x = true) (hp : ∀ x ∈ ps, PyData.strOk x = true) {d : Nat} {e : Ex} (h : ExIn ns ps d e) (hd : d ≤ 60) : SeqAt.shaped (exD e) = true := by
  obtain ⟨h1, h2⟩ := exD_lay hn hp d e h
  unfold SeqAt.shaped
  rw [h1, decide_eq_true (by omega)]
  rfl
theorem exD_small : ∀ e : Ex, small (exD e) = true
  | .num n => rfl
  | .var x => rfl
  | .long => rfl
  | .view e => by
    show (true && (true && (small (exD e) && true))) = true
    rw [exD_small e]
    rfl
  | .pick x a b => by
    show (true && (true && (true && (small (exD a) && (small (exD b) && true))))) = true
    rw [exD_small a, exD_small b]
    rfl
  | .op s a b => by
    show (true && (true && (small (exD a) && (small (exD b) && true)))) = true
    rw [exD_small a, exD_small b]
    rfl
theorem exD_deep {ns ps : List Str} : ∀ (d : Nat) (e : Ex), ExIn ns ps d e → dDeep (exD e) ≤ d
  | 0, _, h => h.elim
  | d + 1, .num n, _ => by
    show dDeepAll [.str "number", .int n] + 1 ≤ d + 1
    simp [dDeepAll, dDeep]
  | d + 1, .var x, _ => by
    show dDeepAll [.str "variable", .str x] + 1 ≤ d + 1
    simp [dDeepAll, dDeep]
  | d + 1, .long, _ => by
    show dDeepAll [.str "long"] + 1 ≤ d + 1
    simp [dDeepAll, dDeep]
  | d + 1, .view e, h => by
    have := exD_deep d e h
    show dDeepAll [.str "view", exD e] + 1 ≤ d + 1
    simp [dDeepAll, dDeep]
    exact this
  | d + 1, .pick x a b, h => by
    have := exD_deep d a h.2.1
    have := exD_deep d b h.2.2
    show dDeepAll [.str "pick", .str x, exD a, exD b] + 1 ≤ d + 1
    simp [dDeepAll, dDeep]
    omega
  | d + 1, .op s a b, h => by
    have := exD_deep d a h.2.1
    have := exD_deep d b h.2.2
    show dDeepAll [.str (signS s), exD a, exD b] + 1 ≤ d + 1
    simp [dDeepAll, dDeep]
    omega
theorem go_eqX {K : PySem.W.Frag} {H : Hp} {Q : VK} {x y : V} {a b : Ex} (h1 : Dp K H x (exD a)) (h2 : Dp K H y (exD b)) (s1 : SeqAt.shaped (exD a) = true) (s2 : SeqAt.shaped (exD b) = true) (q : Q (.bl (eqX a b)) H) : rEqD K x y H Q :=
  ⟨_, _, h1, h2, s1, s2, q⟩
/-! folding -/
def isNum : Ex → Bool
  | .num _ => true
  | _ => false
def numVal : Ex → Int
  | .num n => n
  | _ => 0
def foldP (s : Nat) (a b : Ex) : Ex :=
  if (isNum a && isNum b) = true then .num (comb s (numVal a) (numVal b))
  else if (eqX a b && decide (s = 1 ∨ s = 4 ∨ s = 5)) = true then .num 0
  else if (eqX a b && decide (s = 6)) = true then .num 1
  else if (eqX a (.num 0) && decide (s = 1 ∨ s = 2 ∨ s = 3 ∨ s = 4)) = true then .num 0
  else if (eqX b (.num 0) && decide (s = 2 ∨ s = 3 ∨ s = 4 ∨ s = 5)) = true then .num 0
  else if (eqX b (.num 1) && decide (s = 4)) = true then .num 0
  else if ((eqX a (.num 0) && decide (s = 0)) || (eqX a (.num 1) && decide (s = 2))) = true then b
  else if ((eqX b (.num 0) && decide (s = 0 ∨ s = 1)) || (eqX b (.num 1) && decide (s = 2 ∨ s = 3))) = true then a
  else .op s a b
def foldE (on : Str → Bool) : Ex → Ex
  | .pick x a b => if on x = true then foldE on a else foldE on b
  | .view e => .view (foldE on e)
  | .op s a b => foldP s (foldE on a) (foldE on b)
  | e => e
/-- what foldP may be -/
theorem foldP_is (s : Nat) (a b : Ex) : (∃ n, foldP s a b = .num n ∧ (n = 0 ∨ n = 1 ∨ (isNum a = true ∧ isNum b = true ∧ n = comb s (numVal a) (numVal b)))) ∨ foldP s a b = a ∨ foldP s a b = b ∨ foldP s a b = .op s a b := by
  unfold foldP
  repeat' split
  · rename_i h
    rw [Bool.and_eq_true] at h
    exact .inl ⟨_, rfl, .inr (.inr ⟨h.1, h.2, rfl⟩)⟩
  · exact .inl ⟨_, rfl, .inl rfl⟩
  · exact .inl ⟨_, rfl, .inr (.inl rfl)⟩
  · exact .inl ⟨_, rfl, .inl rfl⟩
  · exact .inl ⟨_, rfl, .inl rfl⟩
  · exact .inl ⟨_, rfl, .inl rfl⟩
  · exact .inr (.inr (.inl rfl))
  · exact .inr (.inl rfl)
  · exact .inr (.inr (.inr rfl))
theorem numVal_in {ns ps : List Str} {d : Nat} {a : Ex} (h : ExIn ns ps d a) : 0 ≤ numVal a ∧ numVal a < 65536 := by
  cases d with
  | zero => exact h.elim
  | succ d =>
    cases a with
    | num n => exact h
    | _ => exact ⟨Int.le_refl 0, by show (0 : Int) < 65536; decide⟩
theorem foldP_in {ns ps : List Str} {d s : Nat} {a b : Ex} (hs : s < 7) (ha : ExIn ns ps d a) (hb : ExIn ns ps d b) : ExIn ns ps (d + 1) (foldP s a b) := by
  rcases foldP_is s a b with ⟨n, e, h⟩ | e | e | e
  · rw [e]
    show 0 ≤ n ∧ n < 65536
    rcases h with rfl | rfl | ⟨_, _, rfl⟩
    · decide
    · decide
    · exact comb_in (numVal_in ha) (numVal_in hb)
  · rw [e]; exact ha.up
  · rw [e]; exact hb.up
  · rw [e]; exact ⟨hs, ha, hb⟩
theorem foldE_in {ns ps : List Str} {on : Str → Bool} : ∀ (d : Nat) (e : Ex), ExIn ns ps d e → ExIn ns ps d (foldE on e)
  | 0, _, h => h.elim
  | d + 1, .num n, h => h
  | d + 1, .var x, h => h
  | d + 1, .long, h => h
  | d + 1, .view e, h => foldE_in d e h
  | d + 1, .pick x a b, h => by
    show ExIn ns ps (d + 1) (if on x = true then foldE on a else foldE on b)
    split
    · exact (foldE_in d a h.2.1).up
    · exact (foldE_in d b h.2.2).up
  | d + 1, .op s a b, h => foldP_in h.1 (foldE_in d a h.2.1) (foldE_in d b h.2.2)
theorem comb_same (s : Nat) (x : Int) (h0 : 0 ≤ x) : ((s = 1 ∨ s = 4 ∨ s = 5) → comb s x x = 0) ∧ (s = 6 → comb s x x = 1) := by
  refine ⟨?_, ?_⟩
  · rintro (rfl | rfl | rfl)
    · show (if x - x > 0 then x - x else 0) = 0
      rw [if_neg (by omega)]
    · show (if x > 0 then x % x else 0) = 0
      split
      · exact Int.emod_self
      · rfl
    · show (if x < x then (1 : Int) else 0) = 0
      rw [if_neg (by omega)]
  · rintro rfl
    show (if x = x then (1 : Int) else 0) = 1
    rw [if_pos rfl]
theorem foldP_eval {tab : Str → Int} {on : Str → Bool} {seen : List Int} {ns ps : List Str} (ht : ∀ x ∈ ns, 0 ≤ tab x ∧ tab x < 65536) (hsn : ∀ n ∈ seen, 0 ≤ n ∧ n < 65536) {d s : Nat} {a b : Ex} (hs : s < 7) (ha : ExIn ns ps d a) (hb : ExIn ns ps d b) :
    evalE tab on seen (foldP s a b) = comb s (evalE tab on seen a) (evalE tab on seen b) := by
  have ba := evalE_in (on := on) ht hsn d a ha
  have bb := evalE_in (on := on) ht hsn d b hb
  have d0 : 0 < d := by
    cases d with
    | zero => exact ha.elim
    | succ d => omega
  have z : ∀ n : Int, 0 ≤ n → n < 65536 → ExIn ns ps d (.num n) := fun n h0 h1 => by
    cases d with
    | zero => omega
    | succ d => exact ⟨h0, h1⟩
  have k0 := fun (e : Ex) (he : ExIn ns ps d e) (h : eqX e (.num 0) = true) => eqX_true d e _ he (z 0 (by decide) (by decide)) h
  have k1 := fun (e : Ex) (he : ExIn ns ps d e) (h : eqX e (.num 1) = true) => eqX_true d e _ he (z 1 (by decide) (by decide)) h
  unfold foldP
  repeat' split
  · rename_i h
    rw [Bool.and_eq_true] at h
    cases a with
    | num n =>
      cases b with
      | num m => rfl
      | _ => exact absurd h.2 Bool.false_ne_true
    | _ => exact absurd h.1 Bool.false_ne_true
  · rename_i h
    rw [Bool.and_eq_true, decide_eq_true_eq] at h
    rw [eqX_true d a b ha hb h.1, (comb_same s _ bb.1).1 h.2]
    rfl
  · rename_i h
    rw [Bool.and_eq_true, decide_eq_true_eq] at h
    rw [eqX_true d a b ha hb h.1, (comb_same s _ bb.1).2 h.2]
    rfl
  · rename_i h
    rw [Bool.and_eq_true, decide_eq_true_eq] at h
    rw [k0 a ha h.1]
    generalize evalE tab on seen b = y at *
    show 0 = comb s 0 y
    rcases h.2 with rfl | rfl | rfl | rfl
    · show 0 = if 0 - y > 0 then 0 - y else 0
      rw [if_neg (by omega)]
    · show 0 = 0 * y % 65536
      rw [Int.zero_mul]
      rfl
    · show 0 = if y > 0 then 0 / y else 0
      rw [Int.zero_ediv]
      split <;> rfl
    · show 0 = if y > 0 then 0 % y else 0
      rw [Int.zero_emod]
      split <;> rfl
  · rename_i h
    rw [Bool.and_eq_true, decide_eq_true_eq] at h
    rw [k0 b hb h.1]
    generalize evalE tab on seen a = y at *
    show 0 = comb s y 0
    rcases h.2 with rfl | rfl | rfl | rfl
    · show 0 = y * 0 % 65536
      rw [Int.mul_zero]
      rfl
    · rfl
    · rfl
    · show 0 = if y < 0 then (1 : Int) else 0
      rw [if_neg (by omega)]
  · rename_i h
    rw [Bool.and_eq_true, decide_eq_true_eq] at h
    rw [k1 b hb h.1, h.2]
    generalize evalE tab on seen a = y at *
    show 0 = if (1 : Int) > 0 then y % 1 else 0
    rw [if_pos (by decide), Int.emod_one]
  · rename_i h
    rw [Bool.or_eq_true, Bool.and_eq_true, Bool.and_eq_true, decide_eq_true_eq, decide_eq_true_eq] at h
    rcases h with ⟨h, rfl⟩ | ⟨h, rfl⟩
    · rw [k0 a ha h]
      show _ = (0 + _) % 65536
      omega
    · rw [k1 a ha h]
      show _ = 1 * _ % 65536
      omega
  · rename_i h
    rw [Bool.or_eq_true, Bool.and_eq_true, Bool.and_eq_true, decide_eq_true_eq, decide_eq_true_eq] at h
    rcases h with ⟨h, rfl | rfl⟩ | ⟨h, rfl | rfl⟩
    · rw [k0 b hb h]
      show _ = (_ + 0) % 65536
      omega
    · rw [k0 b hb h]
      show _ = if evalE tab on seen a - 0 > 0 then evalE tab on seen a - 0 else 0
      split <;> omega
    · rw [k1 b hb h]
      show _ = _ * 1 % 65536
      omega
    · rw [k1 b hb h]
      show _ = if (1 : Int) > 0 then evalE tab on seen a / 1 else 0
      rw [if_pos (by decide), Int.ediv_one]
  · rfl
theorem foldE_eval {tab : Str → Int} {on : Str → Bool} {seen : List Int} {ns ps : List Str} (ht : ∀ x ∈ ns, 0 ≤ tab x ∧ tab x < 65536) (hsn : ∀ n ∈ seen, 0 ≤ n ∧ n < 65536) : ∀ (d : Nat) (e : Ex), ExIn ns ps d e → evalE tab on seen (foldE on e) = evalE tab on seen e
  | 0, _, h => h.elim
  | d + 1, .num n, h => rfl
  | d + 1, .var x, h => rfl
  | d + 1, .long, h => rfl
  | d + 1, .view e, h => by
    have := foldE_eval (on := on) ht hsn d e h
    show evalE tab on seen (.view (foldE on e)) = _
    unfold evalE
    rw [this]
  | d + 1, .pick x a b, h => by
    have h1 := foldE_eval (on := on) ht hsn d a h.2.1
    have h2 := foldE_eval (on := on) ht hsn d b h.2.2
    show evalE tab on seen (if on x = true then foldE on a else foldE on b) = if on x = true then evalE tab on seen a else evalE tab on seen b
    split
    · exact h1
    · exact h2
  | d + 1, .op s a b, h => by
    have h1 := foldE_eval (on := on) ht hsn d a h.2.1
    have h2 := foldE_eval (on := on) ht hsn d b h.2.2
    show evalE tab on seen (foldP s (foldE on a) (foldE on b)) = comb s (evalE tab on seen a) (evalE tab on seen b)
    rw [foldP_eval ht hsn h.1 (foldE_in d a h.2.1) (foldE_in d b h.2.2), h1, h2]
/-- folded already -/
def Nf : Ex → Prop
  | .pick _ _ _ => False
  | .view e => Nf e
  | .op s a b => Nf a ∧ Nf b ∧ foldP s a b = .op s a b
  | _ => True
theorem foldP_nf {s : Nat} {a b : Ex} (ha : Nf a) (hb : Nf b) : Nf (foldP s a b) := by
  rcases foldP_is s a b with ⟨n, e, h⟩ | e | e | e
  · rw [e]; trivial
  · rw [e]; exact ha
  · rw [e]; exact hb
  · have e2 := e
    rw [e]
    exact ⟨ha, hb, e2⟩
theorem foldE_nf {on : Str → Bool} : ∀ e : Ex, Nf (foldE on e)
  | .num n => trivial
  | .var x => trivial
  | .long => trivial
  | .view e => foldE_nf e
  | .pick x a b => by
    show Nf (if on x = true then foldE on a else foldE on b)
    split
    · exact foldE_nf a
    · exact foldE_nf b
  | .op s a b => foldP_nf (foldE_nf a) (foldE_nf b)
theorem nf_fold {on : Str → Bool} : ∀ e : Ex, Nf e → foldE on e = e
  | .num n, _ => rfl
  | .var x, _ => rfl
  | .long, _ => rfl
  | .view e, h => by
    show Ex.view (foldE on e) = .view e
    rw [nf_fold e h]
  | .pick x a b, h => h.elim
  | .op s a b, h => by
    show foldP s (foldE on a) (foldE on b) = _
    rw [nf_fold a h.1, nf_fold b h.2.1]
    exact h.2.2
theorem fold_twice {on : Str → Bool} (e : Ex) : foldE on (foldE on e) = foldE on e := nf_fold _ (foldE_nf e)
end Gx

set_option Elab.async false
set_option linter.all false
set_option maxRecDepth 100000
set_option maxHeartbeats 4000000
/-! Own lemmas: statements and blocks of statements, folded; list.extend of a tuple; tuple + tuple. -/
namespace Gx
open PySem PySem.Spec PyProof.Rows L2
theorem extend_tup (l : Addr) (items : Array Value) (n : Nat) (b : Addr) (items2 : Array Value) (n2 : Nat) (dd : Option Addr) (sl : Array (Option Value)) (hlong : ¬ (!items.isEmpty && Builtin.List.listTooLong (items.size + items2.size)) = true)
    (hs1 : items.size ≤ sizeLine) (hs2 : items.size + items2.size ≤ sizeLine + 1) :
    Meets (Builtin.«list.extend» ⟨[.ref l, .ref b], []⟩) (fun _ R s => s.heap.get? l = some { cls := .type "list", dict := none, data := .seq items n, slots := #[] } ∧ s.heap.get? b = some { cls := .type "tuple", dict := dd, data := .seq items2 n2, slots := sl } ∧
      R (.ok (.ret Value.none)) { s with heap := s.heap.update l (Obj.mapSeq fun x => x ++ items2), toks := s.toks }) :=
  .of_wp fun prog w A R s h => by
    obtain ⟨hp, g, d, tk, os⟩ := s
    obtain ⟨hl, hb, h⟩ := h
    have f1 := AutoSeq1.idx_int
    have f2 := AutoSeq1.sub_tuple_tuple
    have f3 := AutoSeq1.sub_list_list
    have f4 := AutoSeq1.sub_tuple_list
    have f5 := AutoSeq1.sub_list_tuple
    have hz' : (items ++ items2).size ≤ sizeLine + 1 := by rw [Array.size_append]; exact hs2
    wp_walk using (wpAny_updateSeq hl rfl (hz := hs1) (_hz' := hz')), AutoSeq1.wpAny_loadPart' hl, AutoSeq1.wpAny_loadPart' hb
    exact ⟨_, rfl, h⟩
section
variable {X : Cx}
def rExtendT (K : PySem.W.Frag) : V → List V → Hp → VK → Prop := fun x vs H Q => ∃ l b xs zs, x = .ref l ∧ vs = [.ref b] ∧ H l = some (.lst xs) ∧ SqT K H b zs ∧ xs.length + zs.length ≤ 100000 ∧ Q .non (upd H l (.lst (xs ++ zs)))
theorem mt_extendT : MtM X "list.extend" (rExtendT X.K) := by
  intro pins s σ H x vs v us Q I rx rv h
  obtain ⟨l, b, xs, zs, rfl, rfl, hH, hB, hz, q⟩ := h
  cases rx
  obtain ⟨u, rfl, ru⟩ := rv.one
  cases ru
  obtain ⟨z, its, n, r, hl, e⟩ := I.lstM hH
  obtain ⟨its2, r2, p2, z2⟩ := I.tuple hB
  obtain ⟨⟨cls, dd, data, sl⟩, ho, hc, n2, hd⟩ := id p2
  simp only at hc hd
  subst hc hd
  have hl2 := r2.length
  have line : (100000 : Nat) ≤ sizeLine := by rw [sizeLine_eq]; decide
  have hsz : its.toArray.size + its2.toArray.size ≤ sizeLine := by rw [List.size_toArray, List.size_toArray]; omega
  have hlong : ¬ (!its.toArray.isEmpty && Builtin.List.listTooLong (its.toArray.size + its2.toArray.size)) = true := by
    rw [notLongL hsz, Bool.and_false]
    exact Bool.false_ne_true
  refine call_meets F.slot_list_extend ⟨_, e, rfl⟩ F.entry_list_extend (F.args_list_extend_2 _ _)
    (extend_tup l its.toArray n b its2.toArray n2 dd sl hlong (by rw [List.size_toArray]; omega) (by omega)) ⟨e, ho, ?_⟩
  refine ⟨.non, _, I.lset (its' := its ++ its2) hH e (by simp) (r.append r2) ?_, rfl, q⟩
  rw [List.length_append]
  omega
theorem mt_extendTK {K : PySem.W.Frag} (hK : X.K = K) : MtM X "list.extend" (rExtendT K) := by subst hK; exact mt_extendT
end
section
variable {K : PySem.W.Frag} {H : Hp} {Q : VK}
theorem go_extendT {l b : Addr} {xs zs : List V} (e : H l = some (.lst xs)) (hb : SqT K H b zs) (hz : xs.length + zs.length ≤ 100000) (h : Q .non (upd H l (.lst (xs ++ zs)))) : rExtendT K (.ref l) [.ref b] H Q := ⟨l, b, xs, zs, rfl, rfl, e, hb, hz, h⟩
theorem go_catAny {a b : Addr} {xs ys : List V} (h1 : SqT K H a xs) (h2 : SqT K H b ys) (hz : xs.length + ys.length ≤ 100000)
    (q : ∀ p H', Same H H' → SqT K H' p (xs ++ ys) → Q (.ref p) H') : rCatA K (.ref a) (.ref b) H Q := by
  refine ⟨a, b, xs, ys, rfl, rfl, h1, h2, Nat.le_trans hz (by rw [sizeLine_eq]; decide), fun e => ?_, fun _ e => ?_, fun _ _ p hp => ?_⟩
  · subst e
    exact q b H (Same.refl _) h2
  · subst e
    rw [List.append_nil] at q
    exact q a H (Same.refl _) h1
  · exact q p _ (fun c o hc => by rw [upd_ne (ne_of_none hc hp)]; exact hc) (.inl (.inl upd_same))
end
theorem dpAll_cat {K : PySem.W.Frag} {H : Hp} : ∀ {xs ys : List V} {ds es : List PyData}, DpAll K H xs ds → DpAll K H ys es → DpAll K H (xs ++ ys) (ds ++ es)
  | _, _, _, _, .nil, h => h
  | _, _, _, _, .cons h1 h2, h => .cons h1 (dpAll_cat h2 h)
/-! statements -/
inductive Stm where
  | set (x : Str) (e : Ex)
  | shw (i : Int) (e : Ex)
  | pay (k : Bool) (e : Ex)
  | drw (x : Str) (i : Int)
  | mov (a : Int) (x : Str) (b c : Int)
  | whn (x : Str) (a b : List Stm)
  | iff (t : Ex) (a b : List Stm)
def payS (k : Bool) : Str := if k = true then "take" else "pay"
mutual
def stD : Stm → PyData
  | .set x e => .tuple [.str "set", .str x, exD e]
  | .shw i e => .tuple [.str "show", .int i, exD e]
  | .pay k e => .tuple [.str (payS k), exD e]
  | .drw x i => .tuple [.str "draw", .str x, .int i]
  | .mov a x b c => .tuple [.str "move", .int a, .str x, .int b, .int c]
  | .whn x a b => .tuple [.str "when", .str x, .tuple (stDs a), .tuple (stDs b)]
  | .iff t a b => .tuple [.str "if", exD t, .tuple (stDs a), .tuple (stDs b)]
def stDs : List Stm → List PyData
  | [] => []
  | s :: r => stD s :: stDs r
end
theorem stDs_len : ∀ l : List Stm, (stDs l).length = l.length
  | [] => rfl
  | s :: r => by
    show (stDs r).length + 1 = _
    rw [stDs_len r]
    rfl
theorem stDs_cat : ∀ a b : List Stm, stDs (a ++ b) = stDs a ++ stDs b
  | [], b => rfl
  | s :: r, b => by
    show stD s :: stDs (r ++ b) = _
    rw [stDs_cat r b]
    rfl
theorem stDs_at : ∀ {l : List Stm} {i : Nat} {s : Stm}, l[i]? = some s → (stDs l)[i]? = some (stD s)
  | [], _, _, h => nomatch h
  | t :: r, 0, s, h => by cases h; rfl
  | t :: r, i + 1, s, h => stDs_at (l := r) (i := i) h
mutual
def cnt : Stm → Nat
  | .whn _ a b => max 1 (max (cnts a) (cnts b))
  | .iff _ a b => max 1 (max (cnts a) (cnts b))
  | .set _ _ => 1
  | .shw _ _ => 1
  | .pay _ _ => 1
  | .drw _ _ => 1
  | .mov _ _ _ _ => 1
def cnts : List Stm → Nat
  | [] => 0
  | s :: r => cnt s + cnts r
end
theorem cnt_pos : ∀ s : Stm, 1 ≤ cnt s
  | .whn _ a b => Nat.le_max_left _ _
  | .iff _ a b => Nat.le_max_left _ _
  | .set _ _ => Nat.le_refl _
  | .shw _ _ => Nat.le_refl _
  | .pay _ _ => Nat.le_refl _
  | .drw _ _ => Nat.le_refl _
  | .mov _ _ _ _ => Nat.le_refl _
theorem len_cnts : ∀ l : List Stm, l.length ≤ cnts l
  | [] => Nat.le_refl _
  | s :: r => by
    have := cnt_pos s
    have := len_cnts r
    show r.length + 1 ≤ cnt s + cnts r
    omega
theorem cnts_cat : ∀ a b : List Stm, cnts (a ++ b) = cnts a + cnts b
  | [], b => (Nat.zero_add _).symm
  | s :: r, b => by
    show cnt s + cnts (r ++ b) = cnt s + cnts r + cnts b
    rw [cnts_cat r b, Nat.add_assoc]
theorem cnt_mem : ∀ {l : List Stm} {s : Stm}, s ∈ l → cnt s ≤ cnts l
  | [], _, h => nomatch h
  | t :: r, s, h => by
    show cnt s ≤ cnt t + cnts r
    rcases List.mem_cons.mp h with rfl | h
    · omega
    · have := cnt_mem h
      omega
def StIn (ns ps : List Str) : Nat → Stm → Prop
  | 0, _ => False
  | _ + 1, .set x e => x ∈ ns ∧ ExIn ns ps 4 e
  | _ + 1, .shw _ e => ExIn ns ps 4 e
  | _ + 1, .pay _ e => ExIn ns ps 4 e
  | _ + 1, .drw x _ => x ∈ ns
  | _ + 1, .mov _ x _ _ => x ∈ ns
  | d + 1, .whn x a b => 0 < d ∧ x ∈ ps ∧ (∀ s ∈ a, StIn ns ps d s) ∧ ∀ s ∈ b, StIn ns ps d s
  | d + 1, .iff t a b => 0 < d ∧ ExIn ns ps 4 t ∧ (∀ s ∈ a, StIn ns ps d s) ∧ ∀ s ∈ b, StIn ns ps d s
theorem StIn.up {ns ps : List Str} : ∀ {d : Nat} {s : Stm}, StIn ns ps d s → StIn ns ps (d + 1) s
  | 0, _, h => h.elim
  | _ + 1, .set _ _, h => h
  | _ + 1, .shw _ _, h => h
  | _ + 1, .pay _ _, h => h
  | _ + 1, .drw _ _, h => h
  | _ + 1, .mov _ _ _ _, h => h
  | d + 1, .whn x a b, h => ⟨Nat.succ_pos d, h.2.1, fun s hs => StIn.up (d := d) (h.2.2.1 s hs), fun s hs => StIn.up (d := d) (h.2.2.2 s hs)⟩
  | d + 1, .iff t a b, h => ⟨Nat.succ_pos d, h.2.1, fun s hs => StIn.up (d := d) (h.2.2.1 s hs), fun s hs => StIn.up (d := d) (h.2.2.2 s hs)⟩
/-! plain data: equal means the same -/
mutual
def plainD : PyData → Bool
  | .int _ => true
  | .str _ => true
  | .tuple ds => plainDs ds
  | _ => false
def plainDs : List PyData → Bool
  | [] => true
  | d :: r => plainD d && plainDs r
end
mutual
theorem eqv_same : ∀ a b : PyData, plainD a = true → plainD b = true → PyData.eqv a b = true → a = b
  | .int i, .int j, _, _, h => by
    have : i = j := by simpa [PyData.eqv] using h
    rw [this]
  | .str i, .str j, _, _, h => by
    have : i = j := by simpa [PyData.eqv] using h
    rw [this]
  | .tuple ds, .tuple es, h1, h2, h => by
    rw [eqvs_same ds es (by simpa [plainD] using h1) (by simpa [plainD] using h2) (by simpa [PyData.eqv] using h)]
  | .int _, .str _, _, _, h => by simp [PyData.eqv] at h
  | .int _, .tuple _, _, _, h => by simp [PyData.eqv] at h
  | .str _, .int _, _, _, h => by simp [PyData.eqv] at h
  | .str _, .tuple _, _, _, h => by simp [PyData.eqv] at h
  | .tuple _, .int _, _, _, h => by simp [PyData.eqv] at h
  | .tuple _, .str _, _, _, h => by simp [PyData.eqv] at h
  | .none, _, h, _, _ => by simp [plainD] at h
  | .bool _, _, h, _, _ => by simp [plainD] at h
  | .list _, _, h, _, _ => by simp [plainD] at h
  | .dict _, _, h, _, _ => by simp [plainD] at h
  | _, .none, _, h, _ => by simp [plainD] at h
  | _, .bool _, _, h, _ => by simp [plainD] at h
  | _, .list _, _, h, _ => by simp [plainD] at h
  | _, .dict _, _, h, _ => by simp [plainD] at h
theorem eqvs_same : ∀ a b : List PyData, plainDs a = true → plainDs b = true → PyData.eqvAll a b = true → a = b
  | [], [], _, _, _ => rfl
  | [], _ :: _, _, _, h => by simp [PyData.eqvAll] at h
  | _ :: _, [], _, _, h => by simp [PyData.eqvAll] at h
  | d :: r, e :: t, h1, h2, h => by
    have k1 : plainD d = true ∧ plainDs r = true := by simpa [plainDs] using h1
    have k2 : plainD e = true ∧ plainDs t = true := by simpa [plainDs] using h2
    have k : PyData.eqv d e = true ∧ PyData.eqvAll r t = true := by simpa [PyData.eqvAll] using h
    rw [eqv_same d e k1.1 k2.1 k.1, eqvs_same r t k1.2 k2.2 k.2]
end
theorem exD_plain : ∀ e : Ex, plainD (exD e) = true
  | .num n => rfl
  | .var x => rfl
  | .long => rfl
  | .view e => by
    have := exD_plain e
    simp [exD, plainD, plainDs, this]
  | .pick x a b => by
    have h1 := exD_plain a
    have h2 := exD_plain b
    simp [exD, plainD, plainDs, h1, h2]
  | .op s a b => by
    have h1 := exD_plain a
    have h2 := exD_plain b
    simp [exD, plainD, plainDs, h1, h2]
mutual
theorem stD_plain : ∀ s : Stm, plainD (stD s) = true
  | .set x e => by simp [stD, plainD, plainDs, exD_plain e]
  | .shw i e => by simp [stD, plainD, plainDs, exD_plain e]
  | .pay k e => by simp [stD, plainD, plainDs, exD_plain e]
  | .drw x i => by simp [stD, plainD, plainDs]
  | .mov a x b c => by simp [stD, plainD, plainDs]
  | .whn x a b => by
    have h1 := stDs_plain a
    have h2 := stDs_plain b
    simp [stD, plainD, plainDs, h1, h2]
  | .iff t a b => by
    have h1 := stDs_plain a
    have h2 := stDs_plain b
    simp [stD, plainD, plainDs, h1, h2, exD_plain t]
theorem stDs_plain : ∀ l : List Stm, plainDs (stDs l) = true
  | [] => rfl
  | s :: r => by
    have h1 := stD_plain s
    have h2 := stDs_plain r
    simp [stDs, plainDs, h1, h2]
end
mutual
theorem plain_noL : ∀ d : PyData, plainD d = true → noL d = true
  | .int _, _ => rfl
  | .str _, _ => rfl
  | .tuple ds, h => by
    have := plains_noL ds (by simpa [plainD] using h)
    simp [noL, this]
  | .none, h => by simp [plainD] at h
  | .bool _, h => by simp [plainD] at h
  | .list _, h => by simp [plainD] at h
  | .dict _, h => by simp [plainD] at h
theorem plains_noL : ∀ ds : List PyData, plainDs ds = true → noLAll ds = true
  | [], _ => rfl
  | d :: r, h => by
    have k : plainD d = true ∧ plainDs r = true := by simpa [plainDs] using h
    simp [noLAll, plain_noL d k.1, plains_noL r k.2]
end
def blD (l : List Stm) : PyData := .tuple (stDs l)
theorem blD_noL (l : List Stm) : noL (blD l) = true := plain_noL _ (by show plainDs (stDs l) = true; exact stDs_plain l)
def eqB (a b : List Stm) : Bool := PyData.eqv (blD a) (blD b)
theorem eqB_same {a b : List Stm} (h : eqB a b = true) : blD a = blD b := eqv_same _ _ (stDs_plain a) (stDs_plain b) h
/-! folding -/
def branchS (t : Ex) (A B : List Stm) : List Stm := if isNum t = true then (if eqX t (.num 0) = true then B else A) else if eqB A B = true then A else [.iff t A B]
mutual
def foldS (on : Str → Bool) : Stm → List Stm
  | .set x e => if eqX (foldE on e) (.var x) = true then [] else [.set x (foldE on e)]
  | .shw i e => [.shw i (foldE on e)]
  | .pay k e => if eqX (foldE on e) (.num 0) = true then [] else [.pay k (foldE on e)]
  | .whn x a b => if on x = true then foldB on a else foldB on b
  | .iff t a b => branchS (foldE on t) (foldB on a) (foldB on b)
  | .drw x i => [.drw x i]
  | .mov a x b c => [.mov a x b c]
def foldB (on : Str → Bool) : List Stm → List Stm
  | [] => []
  | s :: r => foldS on s ++ foldB on r
end
theorem foldB_cat {on : Str → Bool} : ∀ a b : List Stm, foldB on (a ++ b) = foldB on a ++ foldB on b
  | [], b => rfl
  | s :: r, b => by
    show foldS on s ++ foldB on (r ++ b) = foldS on s ++ foldB on r ++ foldB on b
    rw [foldB_cat r b, List.append_assoc]
theorem foldB_one {on : Str → Bool} (s : Stm) : foldB on [s] = foldS on s := List.append_nil _
theorem branchS_cnt (t : Ex) (A B : List Stm) : cnts (branchS t A B) ≤ max 1 (max (cnts A) (cnts B)) := by
  unfold branchS
  repeat' split
  · omega
  · omega
  · omega
  · show cnt (.iff t A B) + 0 ≤ _
    exact Nat.le_refl _
mutual
theorem foldS_cnt {on : Str → Bool} : ∀ s : Stm, cnts (foldS on s) ≤ cnt s
  | .set x e => by
    unfold foldS
    split
    · exact Nat.zero_le _
    · exact Nat.le_refl _
  | .shw i e => Nat.le_refl _
  | .pay k e => by
    unfold foldS
    split
    · exact Nat.zero_le _
    · exact Nat.le_refl _
  | .drw x i => Nat.le_refl _
  | .mov a x b c => Nat.le_refl _
  | .whn x a b => by
    have h1 := foldB_cnt (on := on) a
    have h2 := foldB_cnt (on := on) b
    show cnts (if on x = true then foldB on a else foldB on b) ≤ max 1 (max (cnts a) (cnts b))
    split <;> omega
  | .iff t a b => by
    have h1 := foldB_cnt (on := on) a
    have h2 := foldB_cnt (on := on) b
    have h3 := branchS_cnt (foldE on t) (foldB on a) (foldB on b)
    show cnts (branchS (foldE on t) (foldB on a) (foldB on b)) ≤ max 1 (max (cnts a) (cnts b))
    omega
theorem foldB_cnt {on : Str → Bool} : ∀ l : List Stm, cnts (foldB on l) ≤ cnts l
  | [] => Nat.le_refl _
  | s :: r => by
    have h1 := foldS_cnt (on := on) s
    have h2 := foldB_cnt (on := on) r
    show cnts (foldS on s ++ foldB on r) ≤ cnt s + cnts r
    rw [cnts_cat]
    omega
end
theorem foldB_mem {on : Str → Bool} : ∀ {l : List Stm} {r : Stm}, r ∈ foldB on l → ∃ s ∈ l, r ∈ foldS on s
  | [], _, h => nomatch h
  | s :: t, r, h => by
    rcases List.mem_append.mp h with h | h
    · exact ⟨s, List.mem_cons_self, h⟩
    · obtain ⟨u, h1, h2⟩ := foldB_mem h
      exact ⟨u, List.mem_cons_of_mem _ h1, h2⟩
theorem foldS_in {ns ps : List Str} {on : Str → Bool} : ∀ (d : Nat) (s : Stm), StIn ns ps d s → ∀ r ∈ foldS on s, StIn ns ps d r
  | 0, _, h, _, _ => h.elim
  | d + 1, .set x e, h, r, hr => by
    have hr2 : r ∈ (if eqX (foldE on e) (.var x) = true then [] else [Stm.set x (foldE on e)]) := hr
    split at hr2
    · exact nomatch hr2
    · rw [List.mem_singleton.mp hr2]
      exact ⟨h.1, foldE_in 4 e h.2⟩
  | d + 1, .shw i e, h, r, hr => by
    rw [List.mem_singleton.mp hr]
    exact foldE_in 4 e h
  | d + 1, .pay k e, h, r, hr => by
    have hr2 : r ∈ (if eqX (foldE on e) (.num 0) = true then [] else [Stm.pay k (foldE on e)]) := hr
    split at hr2
    · exact nomatch hr2
    · rw [List.mem_singleton.mp hr2]
      exact foldE_in 4 e h
  | d + 1, .drw x i, h, r, hr => by
    rw [List.mem_singleton.mp hr]
    exact h
  | d + 1, .mov a x b c, h, r, hr => by
    rw [List.mem_singleton.mp hr]
    exact h
  | d + 1, .whn x a b, h, r, hr => by
    have hr2 : r ∈ (if on x = true then foldB on a else foldB on b) := hr
    split at hr2
    · obtain ⟨s, h1, h2⟩ := foldB_mem hr2
      exact (foldS_in d s (h.2.2.1 s h1) r h2).up
    · obtain ⟨s, h1, h2⟩ := foldB_mem hr2
      exact (foldS_in d s (h.2.2.2 s h1) r h2).up
  | d + 1, .iff t a b, h, r, hr => by
    have ha : ∀ r ∈ foldB on a, StIn ns ps d r := fun r hr => by
      obtain ⟨s, h1, h2⟩ := foldB_mem hr
      exact foldS_in d s (h.2.2.1 s h1) r h2
    have hb : ∀ r ∈ foldB on b, StIn ns ps d r := fun r hr => by
      obtain ⟨s, h1, h2⟩ := foldB_mem hr
      exact foldS_in d s (h.2.2.2 s h1) r h2
    have hr2 : r ∈ branchS (foldE on t) (foldB on a) (foldB on b) := hr
    unfold branchS at hr2
    split at hr2
    · split at hr2
      · exact (hb r hr2).up
      · exact (ha r hr2).up
    · split at hr2
      · exact (ha r hr2).up
      · rw [List.mem_singleton.mp hr2]
        exact ⟨h.1, foldE_in 4 t h.2.1, ha, hb⟩
theorem foldB_in {ns ps : List Str} {on : Str → Bool} {d : Nat} {l : List Stm} (h : ∀ s ∈ l, StIn ns ps d s) : ∀ r ∈ foldB on l, StIn ns ps d r := fun r hr => by
  obtain ⟨s, h1, h2⟩ := foldB_mem hr
  exact foldS_in d s (h s h1) r h2
/-! folded already -/
mutual
def NfS : Stm → Prop
  | .set x e => Nf e ∧ eqX e (.var x) = false
  | .shw _ e => Nf e
  | .pay _ e => Nf e ∧ eqX e (.num 0) = false
  | .whn _ _ _ => False
  | .iff t a b => Nf t ∧ isNum t = false ∧ eqB a b = false ∧ NfB a ∧ NfB b
  | .drw _ _ => True
  | .mov _ _ _ _ => True
def NfB : List Stm → Prop
  | [] => True
  | s :: r => NfS s ∧ NfB r
end
theorem NfB_cat : ∀ {a b : List Stm}, NfB a → NfB b → NfB (a ++ b)
  | [], _, _, h => h
  | _ :: _, _, h1, h => ⟨h1.1, NfB_cat h1.2 h⟩
theorem bf {b : Bool} (h : ¬ b = true) : b = false := by simpa using h
theorem branchS_nf {t : Ex} {A B : List Stm} (ht : Nf t) (ha : NfB A) (hb : NfB B) : NfB (branchS t A B) := by
  unfold branchS
  split
  · split
    · exact hb
    · exact ha
  · rename_i h1
    split
    · exact ha
    · rename_i h2
      exact ⟨⟨ht, bf h1, bf h2, ha, hb⟩, trivial⟩
mutual
theorem foldS_nf {on : Str → Bool} : ∀ s : Stm, NfB (foldS on s)
  | .set x e => by
    unfold foldS
    split
    · trivial
    · rename_i h
      exact ⟨⟨foldE_nf e, bf h⟩, trivial⟩
  | .shw i e => ⟨foldE_nf e, trivial⟩
  | .pay k e => by
    unfold foldS
    split
    · trivial
    · rename_i h
      exact ⟨⟨foldE_nf e, bf h⟩, trivial⟩
  | .drw x i => ⟨trivial, trivial⟩
  | .mov a x b c => ⟨trivial, trivial⟩
  | .whn x a b => by
    have h1 := foldB_nf (on := on) a
    have h2 := foldB_nf (on := on) b
    show NfB (if on x = true then foldB on a else foldB on b)
    split
    · exact h1
    · exact h2
  | .iff t a b => branchS_nf (foldE_nf t) (foldB_nf a) (foldB_nf b)
theorem foldB_nf {on : Str → Bool} : ∀ l : List Stm, NfB (foldB on l)
  | [] => trivial
  | s :: r => NfB_cat (foldS_nf s) (foldB_nf r)
end
mutual
theorem nf_foldS {on : Str → Bool} : ∀ s : Stm, NfS s → foldS on s = [s]
  | .set x e, h => by
    show (if eqX (foldE on e) (.var x) = true then [] else [Stm.set x (foldE on e)]) = _
    rw [nf_fold e h.1, h.2]
    rfl
  | .shw i e, h => by
    show [Stm.shw i (foldE on e)] = _
    rw [nf_fold e h]
  | .pay k e, h => by
    show (if eqX (foldE on e) (.num 0) = true then [] else [Stm.pay k (foldE on e)]) = _
    rw [nf_fold e h.1, h.2]
    rfl
  | .drw x i, _ => rfl
  | .mov a x b c, _ => rfl
  | .whn x a b, h => h.elim
  | .iff t a b, h => by
    have h1 := nf_foldB (on := on) a h.2.2.2.1
    have h2 := nf_foldB (on := on) b h.2.2.2.2
    show branchS (foldE on t) (foldB on a) (foldB on b) = _
    rw [nf_fold t h.1, h1, h2]
    unfold branchS
    rw [h.2.1, h.2.2.1]
    rfl
theorem nf_foldB {on : Str → Bool} : ∀ l : List Stm, NfB l → foldB on l = l
  | [], _ => rfl
  | s :: r, h => by
    show foldS on s ++ foldB on r = _
    rw [nf_foldS s h.1, nf_foldB r h.2]
    rfl
end
theorem foldB_twice {on : Str → Bool} (l : List Stm) : foldB on (foldB on l) = foldB on l := nf_foldB _ (foldB_nf l)
/-! how large, how deep -/
theorem payS_ok (k : Bool) : PyData.strOk (payS k) = true := by cases k <;> decide +kernel
theorem st_lay {ns ps : List Str} (hn : ∀ x ∈ ns, PyData.strOk x = true) (hp : ∀ x ∈ ps, PyData.strOk x = true) : ∀ (d : Nat) (s : Stm), StIn ns ps d s → PyData.canLay0 (stD s) = true ∧ PyData.depth (stD s) ≤ 2 * d + 3
  | 0, _, h => h.elim
  | d + 1, s, h => by
    have all : ∀ l : List Stm, (∀ s ∈ l, StIn ns ps d s) → PyData.canLayAll0 (stDs l) = true ∧ PyData.depthAll (stDs l) ≤ 2 * d + 3 := fun l => by
      induction l with
      | nil => exact fun _ => ⟨rfl, Nat.zero_le _⟩
      | cons s r ih =>
        intro hl
        obtain ⟨h1, h2⟩ := st_lay hn hp d s (hl s List.mem_cons_self)
        obtain ⟨h3, h4⟩ := ih fun s hs => hl s (List.mem_cons_of_mem _ hs)
        refine ⟨?_, ?_⟩
        · simp only [stDs, PyData.canLayAll0, h1, h3, Bool.and_true]
        · simp only [stDs, PyData.depthAll]
          omega
    have s1 : ∀ z : String, z ∈ ["set", "show", "draw", "move", "when", "if"] → PyData.strOk z = true := by decide +kernel
    cases s with
    | set x e =>
      obtain ⟨h1, h2⟩ := exD_lay hn hp 4 e h.2
      refine ⟨?_, ?_⟩
      · simp only [stD, PyData.canLay0, PyData.canLayAll0, h1, hn x h.1, s1 "set" (by decide), Bool.and_true]
      · simp only [stD, PyData.depth, PyData.depthAll]
        omega
    | shw i e =>
      obtain ⟨h1, h2⟩ := exD_lay hn hp 4 e h
      refine ⟨?_, ?_⟩
      · simp only [stD, PyData.canLay0, PyData.canLayAll0, h1, s1 "show" (by decide), Bool.and_true]
      · simp only [stD, PyData.depth, PyData.depthAll]
        omega
    | pay k e =>
      obtain ⟨h1, h2⟩ := exD_lay hn hp 4 e h
      refine ⟨?_, ?_⟩
      · simp only [stD, PyData.canLay0, PyData.canLayAll0, h1, payS_ok k, Bool.and_true]
      · simp only [stD, PyData.depth, PyData.depthAll]
        omega
    | drw x i =>
      refine ⟨?_, ?_⟩
      · simp only [stD, PyData.canLay0, PyData.canLayAll0, hn x h, s1 "draw" (by decide), Bool.and_true]
      · simp only [stD, PyData.depth, PyData.depthAll]
        omega
    | mov a x b c =>
      refine ⟨?_, ?_⟩
      · simp only [stD, PyData.canLay0, PyData.canLayAll0, hn x h, s1 "move" (by decide), Bool.and_true]
      · simp only [stD, PyData.depth, PyData.depthAll]
        omega
    | whn x a b =>
      obtain ⟨h1, h2⟩ := all a h.2.2.1
      obtain ⟨h3, h4⟩ := all b h.2.2.2
      refine ⟨?_, ?_⟩
      · simp only [stD, PyData.canLay0, PyData.canLayAll0, hp x h.2.1, h1, h3, s1 "when" (by decide), Bool.and_true]
      · simp only [stD, PyData.depth, PyData.depthAll]
        omega
    | iff t a b =>
      obtain ⟨h1, h2⟩ := all a h.2.2.1
      obtain ⟨h3, h4⟩ := all b h.2.2.2
      obtain ⟨h5, h6⟩ := exD_lay hn hp 4 t h.2.1
      refine ⟨?_, ?_⟩
      · simp only [stD, PyData.canLay0, PyData.canLayAll0, h1, h3, h5, s1 "if" (by decide), Bool.and_true]
      · simp only [stD, PyData.depth, PyData.depthAll]
        omega
theorem bl_shaped {ns ps : List Str} (hn : ∀ x ∈ ns, PyData.strOk x = true) (hp : ∀ x ∈ ps, PyData.strOk x = true) {d : Nat} {l : List Stm} (h : ∀ s ∈ l, StIn ns ps d s) (hd : d ≤ 20) : SeqAt.shaped (blD l) = true := by
  have all : PyData.canLayAll0 (stDs l) = true ∧ PyData.depthAll (stDs l) ≤ 2 * d + 3 := by
    induction l with
    | nil => exact ⟨rfl, Nat.zero_le _⟩
    | cons s r ih =>
      obtain ⟨h1, h2⟩ := st_lay hn hp d s (h s List.mem_cons_self)
      obtain ⟨h3, h4⟩ := ih fun s hs => h s (List.mem_cons_of_mem _ hs)
      refine ⟨?_, ?_⟩
      · simp only [stDs, PyData.canLayAll0, h1, h3, Bool.and_true]
      · simp only [stDs, PyData.depthAll]
        omega
  unfold SeqAt.shaped
  have h1 : PyData.canLay0 (blD l) = true := by
    unfold blD
    simp only [PyData.canLay0, all.1]
  have h2 : PyData.depth (blD l) ≤ 64 := by
    unfold blD
    simp only [PyData.depth]
    omega
  rw [h1, decide_eq_true h2]
  rfl
theorem st_deep {ns ps : List Str} : ∀ (d : Nat) (s : Stm), StIn ns ps d s → dDeep (stD s) ≤ 2 * d + 3
  | 0, _, h => h.elim
  | d + 1, s, h => by
    have all : ∀ l : List Stm, (∀ s ∈ l, StIn ns ps d s) → dDeepAll (stDs l) ≤ 2 * d + 3 := fun l => by
      induction l with
      | nil => exact fun _ => Nat.zero_le _
      | cons s r ih =>
        intro hl
        have h1 := st_deep d s (hl s List.mem_cons_self)
        have h3 := ih fun s hs => hl s (List.mem_cons_of_mem _ hs)
        simp only [stDs, dDeepAll]
        omega
    cases s with
    | set x e =>
      have := exD_deep 4 e h.2
      simp only [stD, dDeep, dDeepAll]
      omega
    | shw i e =>
      have := exD_deep 4 e h
      simp only [stD, dDeep, dDeepAll]
      omega
    | pay k e =>
      have := exD_deep 4 e h
      simp only [stD, dDeep, dDeepAll]
      omega
    | drw x i =>
      simp only [stD, dDeep, dDeepAll]
      omega
    | mov a x b c =>
      simp only [stD, dDeep, dDeepAll]
      omega
    | whn x a b =>
      have h1 := all a h.2.2.1
      have h2 := all b h.2.2.2
      simp only [stD, dDeep, dDeepAll]
      omega
    | iff t a b =>
      have h1 := all a h.2.2.1
      have h2 := all b h.2.2.2
      have h3 := exD_deep 4 t h.2.1
      simp only [stD, dDeep, dDeepAll]
      omega
theorem bl_deep {ns ps : List Str} {d : Nat} {l : List Stm} (h : ∀ s ∈ l, StIn ns ps d s) : dDeep (blD l) ≤ 2 * d + 4 := by
  have all : dDeepAll (stDs l) ≤ 2 * d + 3 := by
    induction l with
    | nil => exact Nat.zero_le _
    | cons s r ih =>
      have h1 := st_deep d s (h s List.mem_cons_self)
      have h3 := ih fun s hs => h s (List.mem_cons_of_mem _ hs)
      simp only [stDs, dDeepAll]
      omega
  unfold blD
  simp only [dDeep]
  omega
mutual
theorem st_small : ∀ s : Stm, cnt s ≤ 100000 → small (stD s) = true
  | .set x e, _ => by simp [stD, small, smallAll, exD_small e]
  | .shw i e, _ => by simp [stD, small, smallAll, exD_small e]
  | .pay k e, _ => by simp [stD, small, smallAll, exD_small e]
  | .drw x i, _ => by simp [stD, small, smallAll]
  | .mov a x b c, _ => by simp [stD, small, smallAll]
  | .whn x a b, h => by
    have h' : max 1 (max (cnts a) (cnts b)) ≤ 100000 := h
    have h1 := sts_small a (by omega)
    have h2 := sts_small b (by omega)
    have h3 : (stDs a).length ≤ 100000 := by have := len_cnts a; rw [stDs_len]; omega
    have h4 : (stDs b).length ≤ 100000 := by have := len_cnts b; rw [stDs_len]; omega
    simp [stD, small, smallAll, h1, h2, h3, h4]
  | .iff t a b, h => by
    have h' : max 1 (max (cnts a) (cnts b)) ≤ 100000 := h
    have h1 := sts_small a (by omega)
    have h2 := sts_small b (by omega)
    have h3 : (stDs a).length ≤ 100000 := by have := len_cnts a; rw [stDs_len]; omega
    have h4 : (stDs b).length ≤ 100000 := by have := len_cnts b; rw [stDs_len]; omega
    simp [stD, small, smallAll, h1, h2, h3, h4, exD_small t]
theorem sts_small : ∀ l : List Stm, cnts l ≤ 100000 → smallAll (stDs l) = true
  | [], _ => rfl
  | s :: r, h => by
    have h' : cnt s + cnts r ≤ 100000 := h
    have h1 := st_small s (by omega)
    have h2 := sts_small r (by omega)
    simp [stDs, smallAll, h1, h2]
end
theorem bl_small {l : List Stm} (h : cnts l ≤ 100000) : small (blD l) = true := by
  have h1 := sts_small l h
  have h3 : (stDs l).length ≤ 100000 := by have := len_cnts l; rw [stDs_len]; omega
  unfold blD
  simp [small, h1, h3]
/-! the pool and one list of two counts -/
structure T2 (p : Pl) (st : Addr) (b : Int) (H H' : Hp) : Prop where
  pool : Pool H' p b
  two : ∃ i j : Int, H' st = some (.lst [.int i, .int j])
  but : ∀ c o, c ≠ p.a → c ≠ st → H c = some o → H' c = some o
theorem T2.refl {p : Pl} {st : Addr} {b : Int} {H : Hp} (h : Pool H p b) (k : ∃ i j : Int, H st = some (.lst [.int i, .int j])) : T2 p st b H H := ⟨h, k, fun _ _ _ _ h => h⟩
theorem T2.trans {p : Pl} {st : Addr} {b b' : Int} {H H1 H2 : Hp} (h : T2 p st b' H H1) (k : T2 p st b H1 H2) : T2 p st b H H2 := ⟨k.pool, k.two, fun c o n1 n2 e => k.but c o n1 n2 (h.but c o n1 n2 e)⟩
theorem T2.turn {p : Pl} {st : Addr} {b b' : Int} {H H1 H2 : Hp} (h : T2 p st b' H H1) (n : st ≠ p.a) (k : Turn p b H1 H2) : T2 p st b H H2 :=
  ⟨k.pool, let ⟨i, j, e⟩ := h.two; ⟨i, j, k.but _ _ n e⟩, fun c o n1 n2 e => k.but c o n1 (h.but c o n1 n2 e)⟩
theorem T2.same {p : Pl} {st : Addr} {b : Int} {H H1 H2 : Hp} (h : T2 p st b H H1) (s : Same H1 H2) : T2 p st b H H2 := ⟨h.pool.same s, let ⟨i, j, e⟩ := h.two; ⟨i, j, s _ _ e⟩, fun c o n1 n2 e => s _ _ (h.but c o n1 n2 e)⟩
theorem T2.new {p : Pl} {st q : Addr} {b : Int} {H H1 : Hp} {o : HO} (h : T2 p st b H H1) (n : H1 q = none) : T2 p st b H (upd H1 q o) := h.same (same_new n)
theorem T2.put {p : Pl} {st : Addr} {b : Int} {H H1 : Hp} {i j : Int} (h : T2 p st b H H1) (n1 : st ≠ p.a) (n2 : st ≠ p.l) : T2 p st b H (upd H1 st (.lst [.int i, .int j])) :=
  ⟨h.pool.upd n1 n2, ⟨i, j, upd_same⟩, fun c o k1 k2 e => by rw [upd_ne k2]; exact h.but c o k1 k2 e⟩
theorem T2.mut {p : Pl} {st q : Addr} {b b0 : Int} {H H1 : Hp} {o : HO} (h0 : Pool H p b0) (h2 : ∃ i j : Int, H st = some (.lst [.int i, .int j])) (n : H q = none) (h : T2 p st b H H1) : T2 p st b H (upd H1 q o) :=
  ⟨h.pool.upd (h0.nea n) (h0.nel n), let ⟨i, j, e⟩ := h.two; let ⟨_, _, e2⟩ := h2; ⟨i, j, by rw [upd_ne (ne_of_none e2 n)]; exact e⟩, fun c o k1 k2 e => by rw [upd_ne (ne_of_none e n)]; exact h.but c o k1 k2 e⟩
theorem T2.dp {K : PySem.W.Frag} {p : Pl} {st : Addr} {b b0 : Int} {H H' : Hp} {d : PyData} {v : V} (t : T2 p st b H H') (hp : Pool H p b0) (h2 : ∃ i j : Int, H st = some (.lst [.int i, .int j])) (n : noL d = true) (h : Dp K H v d) : Dp K H' v d := by
  obtain ⟨zs, ez⟩ := hp.there
  obtain ⟨i, j, e2⟩ := h2
  exact dp_ext (fun c xs e => t.but _ _ (ne_of e ez (by intro z; cases z)) (ne_of e e2 (by intro z; cases z)) e) (fun c o u e => t.but _ _ (ne_of e ez (by intro z; cases z)) (ne_of e e2 (by intro z; cases z)) e) d v n h
theorem T2.dpAll {K : PySem.W.Frag} {p : Pl} {st : Addr} {b b0 : Int} {H H' : Hp} {ds : List PyData} {vs : List V} (t : T2 p st b H H') (hp : Pool H p b0) (h2 : ∃ i j : Int, H st = some (.lst [.int i, .int j])) (n : noLAll ds = true) (h : DpAll K H vs ds) : DpAll K H' vs ds := by
  obtain ⟨zs, ez⟩ := hp.there
  obtain ⟨i, j, e2⟩ := h2
  exact dpAll_ext (fun c xs e => t.but _ _ (ne_of e ez (by intro z; cases z)) (ne_of e e2 (by intro z; cases z)) e) (fun c o u e => t.but _ _ (ne_of e ez (by intro z; cases z)) (ne_of e e2 (by intro z; cases z)) e) ds vs n h
theorem Same.mut {H H' : Hp} {l : Addr} {o : HO} (n : H l = none) (s : Same H H') : Same H (upd H' l o) := fun c u e => by rw [upd_ne (ne_of_none e n)]; exact s c u e
theorem But.one {l : Addr} {H : Hp} {o : HO} : But l H (L2.upd H l o) := (But.refl l H).upd
theorem eqX_nums {n m : Int} : eqX (.num n) (.num m) = decide (n = m) := by
  rw [eqX_form]
  simp only [headS, restD, PyData.eqvAll, PyData.eqv, Bool.and_true]
  by_cases h : n = m
  · subst h
    simp
  · simp [h]
end Gx

set_option Elab.async false
set_option linter.all false
set_option maxRecDepth 100000
set_option maxHeartbeats 4000000
/-! Own lemmas: tuples made by tuple(..), asked for a place; displays with stars; codes of expressions. -/
namespace Gx
open PySem PySem.Spec PyProof.Rows L2
/-- a tuple that is known to its object -/
def KnT (H : Hp) (p : Addr) (xs : List V) : Prop := ∃ ob : Obj, H p = some (.frz ob (.tup xs)) ∧ ob.cls = .type "tuple" ∧ ob.dict = none
theorem KnT.sq {K : PySem.W.Frag} {H : Hp} {p : Addr} {xs : List V} (h : KnT H p xs) : SqT K H p xs := let ⟨ob, e, _⟩ := h; .inl (.inr ⟨ob, e⟩)
theorem KnT.same {H H' : Hp} {p : Addr} {xs : List V} (h : KnT H p xs) (s : Same H H') : KnT H' p xs := let ⟨ob, e, r⟩ := h; ⟨ob, s _ _ e, r⟩
section
variable {X : Cx}
def qTupF (K : PySem.W.Frag) : List V → Hp → VK → Prop := fun xs H Q => ∃ p ys, xs = [.ref p] ∧ SqL K H p ys ∧ ∀ l H', H l = none → Same H H' → KnT H' l ys → Q (.ref l) H'
theorem k_tupF : CallR X (.type "tuple") (qTupF X.K) := by
  intro pins s σ H args vals Q I rv h
  obtain ⟨p, ys, rfl, hl, q⟩ := h
  obtain ⟨u, rfl, ru⟩ := vals1 rv
  cases ru
  obtain ⟨its, ri, pl, hz⟩ := I.list hl
  have hlen := ri.length
  refine call_tuple_list pl.isList (fun h1 kp => ?_) (by rw [List.size_toArray]; omega)
  have J : Inv X pins σ H { s with heap := h1 } := I.kept (t' := s.toks) kp
  have nf := J.hok.fresh (Nat.le_refl _)
  have at0 : (h1.push { cls := .type "tuple", data := .seq its.toArray }).get? h1.objs.size = some { cls := .type "tuple", data := .seq its.toArray } := Heap.get?_push_size _ rfl
  have ok : ObjOk X.prog X.w (upd H h1.objs.size (.frz { cls := .type "tuple", data := .seq its.toArray } (.tup ys))) (h1.push { cls := .type "tuple", data := .seq its.toArray }) h1.objs.size (.frz { cls := .type "tuple", data := .seq its.toArray } (.tup ys)) :=
    ⟨at0, hz, its, ri, IsTup.new _ _⟩
  have J2 := J.laid (t' := s.toks) (fun b o e => Heap.get?_push_of_some _ e) (Nat.le_refl _) ok
  exact ⟨.ref h1.objs.size, _, J2, rfl, q _ _ nf (fun b o e => by rw [upd_ne (ne_of_none e nf)]; exact e) ⟨_, upd_same, rfl, rfl⟩⟩
theorem k_tupFK {K : PySem.W.Frag} (hK : X.K = K) : CallR X (.type "tuple") (qTupF K) := by subst hK; exact k_tupF
def tyT (K : PySem.W.Frag) (x : V) (H : Hp) : Prop := ∃ p, x = .ref p ∧ ((∃ ys, KnT H p ys) ∨ ∃ ob, K.lookup p = some ob ∧ ob.cls = .type "tuple" ∧ ob.dict = none)
def tTM (K : PySem.W.Frag) (r : V → List V → Hp → VK → Prop) (to : TE) (t : TA) : TE := fun σ H Q => to σ H fun x H1 => tyT K x H1 ∧ t σ H1 fun xs H2 => r x xs H2 Q
variable {o e : Expr} {es : List Expr} {to : TE} {t : TA} {name : Str} {apos cpos : Pos} {id : String} {r : V → List V → Hp → VK → Prop}
theorem pe_tupM (pa : PlainAttrs "tuple") (slot : Slot "tuple" name id) (hty : typeOf (.builtin id) = pure (.type "method_descriptor")) (hm : MtR X id r) (ho : PE X o to) (ha : PA X (e :: es) t) (hbase : attributeBase o name X.env (eval o X.env) = eval o X.env := by rfl)
    (hfew : ((backTo cpos (starEach (e :: es) X.env)).all (fun x => !x.1) && (backToKw cpos (keywordEach [] X.env)).all (fun x => x.1.isSome) && decide ((e :: es).length + ([] : List Keyword).length + (if ([] : List Keyword).isEmpty then 0 else 1) < 30)) = true := by rfl) (hline : (apos.endLine == cpos.line) = true := by rfl)
    (hs : starEach (e :: es) X.env = (false, eval e X.env) :: starEach es X.env := by rfl) (hplain : (backTo cpos (starEach es X.env)).any (·.1) = false := by rfl) : PE X (.Call (.Attribute o name apos) (e :: es) [] cpos) (tTM X.K r to t) := by
  constructor
  intro pins s σ H Q I h
  refine wpAny_Call_method_late hbase hfew hline rfl (thn (ho.run pins s σ H _ I h) fun v s1 hv => ?_)
  obtain ⟨x, H1, I1, r1, ⟨p, rfl, ty⟩, q1⟩ := hv
  have r1' := r1
  cases r1'
  have facts : s1.TypeIs (.ref p) "tuple" ∧ ∀ a, Value.ref p = .ref a → ∃ ob, s1.heap.get? a = some ob ∧ ob.dict = none := by
    rcases ty with ⟨ys, ob, e1, c1, d1⟩ | ⟨ob, k1, c1, d1⟩
    · obtain ⟨g, _⟩ := I1.hok p _ e1
      exact ⟨⟨ob, g, c1⟩, fun a z => by cases z; exact ⟨ob, g, d1⟩⟩
    · have g := I1.kIn p ob k1
      exact ⟨⟨ob, g, c1⟩, fun a z => by cases z; exact ⟨ob, g, d1⟩⟩
  refine ⟨"tuple", id, pa, slot, hty, facts.1, facts.2, ?_⟩
  have run := ha.run cpos pins s1 σ H1 _ I1 q1
  rw [hs] at run ⊢
  have one : (false || (backTo cpos (starEach es X.env)).any (·.1)) = false := by rw [hplain]; rfl
  exact Calls.callWith_builtin one (Calls.evalArgs_plain (thn run fun us s2 ⟨vs, H2, I2, r2, q2⟩ => hm pins s2 σ H2 (.ref p) vs (.ref p) us Q I2 r1 r2 q2))
def qTIdx (K : PySem.W.Frag) : V → List V → Hp → VK → Prop := fun x xs H Q => ∃ p, ∃ ys : List Str, ∃ z j, x = .ref p ∧ xs = [.str z] ∧ SqT K H p (ys.map V.str) ∧ ys[j]? = some z ∧ (∀ m, m < j → ys[m]? ≠ some z) ∧ Q (.int (j : Nat)) H
theorem m_tup_index : MtR X "tuple.index" (qTIdx X.K) := mt_tup_index
theorem m_tup_indexK {K : PySem.W.Frag} (hK : X.K = K) : MtR X "tuple.index" (qTIdx K) := by subst hK; exact mt_tup_index
def qStrStr : List V → Hp → VK → Prop := fun xs H Q => ∃ a, xs = [.str a] ∧ Q (.str a) H
theorem k_str_str : CallR X (.type "str") qStrStr := SkE.call_str_str
end
section
variable {K : PySem.W.Frag} {σ : L2.St} {H : Hp} {Q : VK} {to te : TE} {t : TA}
theorem go_tTM {r : V → List V → Hp → VK → Prop} (h : to σ H fun x H1 => tyT K x H1 ∧ t σ H1 fun xs H2 => r x xs H2 Q) : tTM K r to t σ H Q := h
theorem go_strStr {a : Str} (h : Q (.str a) H) : qStrStr [.str a] H Q := ⟨a, rfl, h⟩
theorem go_lenT2 {a : Addr} {x y : V} (hs : SqT K H a [x, y]) (h : Q (.int 2) H) : qLen K [.ref a] H Q := go_lenT hs h
/-- the first place of a text -/
theorem first_at : ∀ (ys : List Str) (z : Str), z ∈ ys → ys[ys.idxOf z]? = some z ∧ ∀ m, m < ys.idxOf z → ys[m]? ≠ some z
  | [], _, h => nomatch h
  | y :: ys, z, h => by
    by_cases e : y = z
    · subst e
      rw [List.idxOf_cons_self]
      exact ⟨rfl, fun m hm => nomatch hm⟩
    · have hm : z ∈ ys := by
        rcases List.mem_cons.mp h with k | k
        · exact absurd k.symm e
        · exact k
      obtain ⟨h1, h2⟩ := first_at ys z hm
      have ei : (y :: ys).idxOf z = ys.idxOf z + 1 := by
        rw [List.idxOf_cons, beq_eq_false_iff_ne.mpr e]
        rfl
      rw [ei]
      refine ⟨by simpa using h1, fun m hlt => ?_⟩
      cases m with
      | zero => intro k; exact e (Option.some.inj k)
      | succ m => simpa using h2 m (by omega)
theorem eqV_str (a b : Str) : eqV (.str a) (.str b) = decide (a = b) := by
  simp only [eqV]
  by_cases h : a = b <;> simp [h]
theorem go_lindexS {K : PySem.W.Frag} {H : Hp} {Q : VK} {a : Addr} {ys : List Str} {z : Str} (hs : SqL K H a (ys.map V.str)) (hz : z ∈ ys) (q : Q (.int ((ys.idxOf z : Nat) : Int)) H) : rIndex K (.ref a) [.str z] H Q := by
  obtain ⟨hget, hno⟩ := first_at ys z hz
  refine ⟨a, _, .str z, ys.idxOf z, .str z, rfl, rfl, hs, rfl, flat_strs ys, by rw [List.getElem?_map, hget]; rfl, by rw [eqV_str, decide_eq_true rfl], fun m z' hm hz' => ?_, q⟩
  obtain ⟨x, rfl, hx⟩ := strs_at hz'
  rw [eqV_str]
  exact decide_eq_false fun e => hno m hm (e ▸ hx)
theorem go_tidx {p : Addr} {ys : List Str} {z : Str} (h : SqT K H p (ys.map V.str)) (hz : z ∈ ys) (q : Q (.int ((ys.idxOf z : Nat) : Int)) H) : qTIdx K (.ref p) [.str z] H Q :=
  ⟨p, ys, z, _, rfl, rfl, h, (first_at ys z hz).1, (first_at ys z hz).2, q⟩
theorem go_star {R : List V → Hp → Prop} (h : te σ H fun x H1 => ∃ p xs, x = V.ref p ∧ (SqT K H1 p xs ∨ SqL K H1 p xs) ∧ t σ H1 fun ys H2 => R (xs ++ ys) H2) : StX.tStar K te t σ H R := h
theorem go_pop {l : Addr} {xs : List V} {y : V} (e : H l = some (.lst (xs ++ [y]))) (q : Q y (upd H l (.lst xs))) : rPop (.ref l) [] H Q :=
  ⟨l, xs ++ [y], y, rfl, rfl, e, by simp, by rw [List.dropLast_concat]; exact q⟩
end
/-! ### codes -/
inductive CIn where
  | push (n : Int)
  | load (k : Nat)
  | long
  | view
  | sign (s : Nat)
def inD : CIn → PyData
  | .push n => .tuple [.str "push", .int n]
  | .load k => .tuple [.str "load", .int (k : Int)]
  | .long => .tuple [.str "long", .int 0]
  | .view => .tuple [.str "view", .int 0]
  | .sign s => .tuple [.str "sign", .int (s : Int)]
def codeE (ns : List Str) (on : Str → Bool) : Ex → List CIn
  | .num n => [.push n]
  | .var x => [.load (ns.idxOf x)]
  | .long => [.long]
  | .view e => codeE ns on e ++ [.view]
  | .pick x a b => if on x = true then codeE ns on a else codeE ns on b
  | .op s a b => codeE ns on a ++ (codeE ns on b ++ [.sign s])
def InOk (m : Nat) : CIn → Prop
  | .push n => 0 ≤ n ∧ n < 65536
  | .load k => k < m
  | .sign s => s < 7
  | _ => True
theorem code_ok {ns ps : List Str} {on : Str → Bool} : ∀ (d : Nat) (e : Ex), ExIn ns ps d e → ∀ c ∈ codeE ns on e, InOk ns.length c
  | 0, _, h => h.elim
  | d + 1, .num n, h => fun c hc => by rw [List.mem_singleton.mp hc]; exact h
  | d + 1, .var x, h => fun c hc => by
    rw [List.mem_singleton.mp hc]
    exact List.idxOf_lt_length_of_mem h
  | d + 1, .long, h => fun c hc => by rw [List.mem_singleton.mp hc]; trivial
  | d + 1, .view e, h => fun c hc => by
    rcases List.mem_append.mp hc with hc | hc
    · exact code_ok d e h c hc
    · rw [List.mem_singleton.mp hc]; trivial
  | d + 1, .pick x a b, h => fun c hc => by
    have hc : c ∈ if on x = true then codeE ns on a else codeE ns on b := hc
    split at hc
    · exact code_ok d a h.2.1 c hc
    · exact code_ok d b h.2.2 c hc
  | d + 1, .op s a b, h => fun c hc => by
    rcases List.mem_append.mp hc with hc | hc
    · exact code_ok d a h.2.1 c hc
    · rcases List.mem_append.mp hc with hc | hc
      · exact code_ok d b h.2.2 c hc
      · rw [List.mem_singleton.mp hc]; exact h.1
/-- one step on a stack (its top last) -/
def stepI (cells seen : List Int) : CIn → List Int → Option (List Int)
  | .push n, st => some (st ++ [n])
  | .load k, st => (cells[k]?).map fun v => st ++ [v]
  | .long, st => some (st ++ [(seen.length : Int)])
  | .view, st => (st.getLast?).map fun (a : Int) => st.dropLast ++ [if a < seen.length then seen.getD a.toNat 0 else 0]
  | .sign s, st => (st.getLast?).bind fun r => (st.dropLast.getLast?).map fun l => st.dropLast.dropLast ++ [comb s l r]
def runI (cells seen : List Int) : List CIn → List Int → Option (List Int)
  | [], st => some st
  | c :: r, st => (stepI cells seen c st).bind (runI cells seen r)
theorem run_app (cells seen : List Int) : ∀ (a b : List CIn) (st : List Int), runI cells seen (a ++ b) st = (runI cells seen a st).bind (runI cells seen b)
  | [], b, st => rfl
  | c :: a, b, st => by
    show (stepI cells seen c st).bind (runI cells seen (a ++ b)) = ((stepI cells seen c st).bind (runI cells seen a)).bind _
    cases stepI cells seen c st with
    | none => rfl
    | some s2 => exact run_app cells seen a b s2
/-- THE LAW of the code -/
theorem run_code {ns ps : List Str} {tab : Str → Int} {on : Str → Bool} {seen : List Int} (hs : seen.length ≤ 65535) : ∀ (d : Nat) (e : Ex) (st : List Int), ExIn ns ps d e → runI (ns.map tab) seen (codeE ns on e) st = some (st ++ [evalE tab on seen e])
  | 0, _, _, h => h.elim
  | d + 1, .num n, st, h => rfl
  | d + 1, .var x, st, h => by
    have e := (first_at ns x h).1
    show ((((ns.map tab)[ns.idxOf x]?).map fun v => st ++ [v]).bind fun s => some s) = _
    rw [List.getElem?_map, e]
    rfl
  | d + 1, .long, st, h => by
    show some (st ++ [(seen.length : Int)]) = some (st ++ [min (seen.length : Int) 65535])
    have : min (seen.length : Int) 65535 = seen.length := by omega
    rw [this]
  | d + 1, .view e, st, h => by
    show runI _ _ (codeE ns on e ++ [.view]) st = _
    rw [run_app, run_code hs d e st h, Option.bind_some]
    show ((((st ++ [evalE tab on seen e]).getLast?).map fun (a : Int) => (st ++ [evalE tab on seen e]).dropLast ++ [if a < seen.length then seen.getD a.toNat 0 else 0]).bind fun s => some s) = _
    rw [List.getLast?_concat, List.dropLast_concat]
    rfl
  | d + 1, .pick x a b, st, h => by
    show runI _ _ (if on x = true then codeE ns on a else codeE ns on b) st = some (st ++ [if on x = true then evalE tab on seen a else evalE tab on seen b])
    split
    · exact run_code hs d a st h.2.1
    · exact run_code hs d b st h.2.2
  | d + 1, .op s a b, st, h => by
    show runI _ _ (codeE ns on a ++ (codeE ns on b ++ [.sign s])) st = _
    rw [run_app, run_code hs d a st h.2.1, Option.bind_some, run_app, run_code hs d b _ h.2.2, Option.bind_some]
    show ((((st ++ [evalE tab on seen a] ++ [evalE tab on seen b]).getLast?).bind fun r => ((st ++ [evalE tab on seen a] ++ [evalE tab on seen b]).dropLast.getLast?).map fun l => (st ++ [evalE tab on seen a] ++ [evalE tab on seen b]).dropLast.dropLast ++ [comb s l r]).bind fun s => some s) = _
    rw [List.getLast?_concat, List.dropLast_concat, Option.bind_some, List.getLast?_concat, List.dropLast_concat]
    rfl
end Gx

set_option Elab.async false
set_option linter.all false
set_option maxRecDepth 100000
set_option maxHeartbeats 4000000
/-! Own lemmas: an error of the program whose maker says super().__init__(text); self.f = a, and whose class stands below a class of the program. -/
namespace ErX
open PySem PySem.W PySem.Calls PyProof.Rows PySem.HandSPX
def eA (an : Str) (p1 p2 : Pos) : Arguments := { posonlyargs := [], args := [{ arg := "self", annotation := none, pos := p1 }, { arg := an, annotation := none, pos := p2 }], vararg := none, kwonlyargs := [], kw_defaults := [], kwarg := none, defaults := [] }
def eB (an fn msg : Str) (j : Nat) (q1 q2 q3 q4 q5 q6 q7 q8 q9 q0 : Pos) : List Stmt :=
  [.Expr (.Call (.Attribute (.Call (.Name "super" q1) [] [] q2) "__init__" q3) [.Constant (.str msg) j q4] [] q5) q6, .Assign [.Attribute (.Name "self" q7) fn q8] (.Name an q9) q0]
def eS (an : Str) : Scope := { kind := .function, names := [(PySem.Str.ofString "self", .local), (an, .local), (PySem.Str.ofString "__class__", .free), (PySem.Str.ofString "super", .globalImplicit)], isGenerator := false, isCoroutine := false, more := [] }
/-- what the names must be -/
structure Nm (an : Str) : Prop where
  n1 : an ≠ "self"
  n2 : an ≠ "__class__"
  n3 : an ≠ "super"
  n4 : (an == ("__debug__" : Str)) = false
  bd : ∀ (qual : Str) (p1 p2 : Pos) (body : List Stmt) (doc pm : Value) (an' : Option Addr) (cda cc x : Addr) (ct v : Value), bindArgs (ksFn "__init__" qual (eA an p1 p2) body (eS an) .none .none doc pm an' (.ref cda) ct cc) ⟨[.ref x, v], []⟩ = (pure [(PySem.Str.ofString "self", Value.ref x), (an, v)] : Sem (List (Str × Value)))
/-- how the call of the maker above is read -/
def Ev (msg : Str) (j : Nat) (q1 q2 q3 q4 q5 : Pos) : Prop := ∃ pl : Sem Bool, ∀ env : Env,
  eval (.Call (.Attribute (.Call (.Name "super" q1) [] [] q2) "__init__" q3) [.Constant (.str msg) j q4] [] q5) env = (do
      let ov ← attributeBase (.Call (.Name "super" q1) [] [] q2) "__init__" env (eval (.Call (.Name "super" q1) [] [] q2) env)
      standAt q3.atName
      let (f, first) ← holding [ov] (getMethod ov "__init__" pl)
      callWith q5 f first (backTo q5 (starEach [.Constant (.str msg) j q4] env)) [])
/-- what the written part says of the class at C, and of its maker, at fI -/
structure ErrT (P : Program) (K : Frag) (mg : Str → Option Value) (C fI : Addr) (an fn : Str) : Prop where
  cls : ∃ nm q N bs bm sn sub ab col dd k0 k1 k2 k3 k5, K.lookup C = some (excClassObj nm q C N bs bm true sn sub ab col dd k0 k1 k2 k3 k5 "ValueError.__new__") ∧ refsVE bm = true
  sa : findIn K (.ref C) "__setattr__" = some (some (.builtin "object.__setattr__"))
  noN : findIn K (.ref C) fn = some none
  iC : findIn K (.ref C) "__init__" = some (some (.ref fI))
  tC : typeIn K (.ref fI) = some (.type "function")
  kC : keepIn K (.ref C) = true
  exC : subIn K (.ref C) (.type "BaseException") = some true
  tyC : typeIn K (.ref C) = some (.type "type")
  opq : nsIn K cStatics "thirdparty.any" = some none
  sup : ks_superIn K C C "__init__" = some (some (.builtin "ValueError.__init__"))
  sVE : subIn K (.ref C) (.type "ValueError") = some true
  mC : mroIn K C (.ref C) = some true
  mgS : mg "super" = none
  top : (P.main.scope.names.lookup ("super" : Str)).isSome = false
  nm : Nm an
  fn : ∃ (oc : Value) (od : Option Addr) (qual : Str) (doc pm : Value) (an' : Option Addr) (cda cc : Addr) (ct : Value) (osl : Array (Option Value)) (p1 p2 : Pos) (msg : Str) (j : Nat) (q1 q2 q3 q4 q5 q6 q7 q8 q9 q0 : Pos)
      (ccl : Value) (cdd : Option Addr) (vs : Array Value) (ccs : Array (Option Value)) (file : Str) (tf : Tok) (cl : Value) (cld : Option Addr) (csl : Array (Option Value)),
    K.lookup fI = some ⟨oc, od, .func (ksFn "__init__" qual (eA an p1 p2) (eB an fn msg j q1 q2 q3 q4 q5 q6 q7 q8 q9 q0) (eS an) .none .none doc pm an' (.ref cda) ct cc), osl⟩ ∧ codeIn K (.ref cda) qual = true ∧
      K.lookup cda = some ⟨ccl, cdd, .fields vs, ccs⟩ ∧ vs[2]? = some (.str file tf) ∧ ((P.main.file : Str) == file) = true ∧ K.lookup cc = some ⟨cl, cld, .cell (some (.ref C)), csl⟩ ∧
      Ev msg j q1 q2 q3 q4 q5
/-- what the maker leaves of a fresh exception at x -/
structure InitEnd (h h' : Heap) (x C dx t1 : Addr) (fn : Str) (v : Value) : Prop where
  keep : ∀ b o, b ≠ x → h.get? b = some o → h'.get? b = some o
  obj : h'.get? x = some { cls := .ref C, dict := some dx, data := .fields #[.ref t1, .none, .none, .none, .bool false, .none] }
  dbig : h.objs.size ≤ dx
  dne : dx ≠ x
  ns : h'.Ns1 dx (fun y => if y = fn then some v else none)
structure Made (h h' : Heap) (e C d : Addr) (fn : Str) (v : Value) : Prop where
  keep : ∀ b o, h.get? b = some o → h'.get? b = some o
  new : h.objs.size ≤ e
  obj : ∃ oe vs, h'.get? e = some oe ∧ oe.cls = .ref C ∧ oe.dict = some d ∧ oe.data = .fields vs ∧ vs[1]? = some .none
  dbig : h.objs.size ≤ d
  dne : d ≠ e
  ns : h'.Ns1 d (fun y => if y = fn then some v else none)
theorem one_size (v : Value) : [v].length ≤ sizeLine := by
  rw [sizeLine_eq]
  exact (by decide : 1 ≤ 16777216)
section
variable {prog : Program} {w : World} {A : Around} {E : Value → Shared → Prop} {h : Heap} {g : Array GenState} {d : Drawn} {t : Nat} {os : OsState}
variable {nm q : Str} {C N : Addr} {bs bm : List Value} {hdct : Bool} {sn : List Str} {sub : List Value} {ab : Bool} {col : Option Bool} {dd : Option Addr} {k0 k1 k2 k3 k5 : Option Value}
theorem call_bv {u e t0 : Addr} {rest : List Value} {Q : Value → Shared → Prop}
    (hC : h.get? C = some (excClassObj nm q C N bs bm hdct sn sub ab col dd k0 k1 k2 k3 k5 "ValueError.__new__")) (he : h.get? e = some (excO C t0)) (hu : h.get? u = some (kxs_mw "ValueError.__init__" e)) (hrest : rest.length ≤ sizeLine)
    (hq : ∀ h' t1, (∀ b o, b ≠ e → h.get? b = some o → h'.get? b = some o) → h'.get? e = some (excO C t1) → Q .none ⟨h', g, d, t, os⟩) :
    wpAny (model prog w) A (call (.ref u) rest) Q E ⟨h, g, d, t, os⟩ := by
  refine wpAny_call (codeAny_of_tree ?_)
  show wpAny _ A.in1 (callAny (.ref u) ⟨rest, []⟩) _ _ _
  simp only [callAny]
  refine wpAny_bind (wpAny_load hu ?_)
  simp only [kxs_mw, show (Value.type "method-wrapper" == Value.type "method" || Value.type "method-wrapper" == Value.type "builtin_function_or_method" || Value.type "method-wrapper" == Value.type "method-wrapper") = true by decide, if_true]
  refine W.KFB.if_so (by decide) ?_
  refine wpAny_bind (PySem.ESX.check_bound F.excBase_ValueError hC he rfl ?_)
  refine wpAny_bind (wpAny_pure (wpAny_pure ?_))
  refine ⟨Code.quiet_builtin _ (by decide +kernel), codeAny_builtin F.excBase_ValueError.initEntry ?_⟩
  rw [Around.under_plainId F.excBase_ValueError.init.plain _]
  wp_walk
  refine hq _ h.objs.size (fun b o hb ho => ?_) ?_
  · rw [Heap.get?_update_other _ _ (Ne.symm hb)]
    exact Heap.get?_push_of_some _ ho
  · rw [Heap.get?_update_self _ (Heap.get?_push_of_some _ he) rfl]
    rfl
end
section
variable {P : Program} {w : World} {A : Around} {R : Result → Shared → Prop} {K : Frag} {mg mb : Str → Option Value} {C fI : Addr} {an fn : Str}
theorem lk_self : (eS an).names.lookup ("self" : Str) = some .local := by simp [eS, List.lookup]
theorem lk_an (n : Nm an) : (eS an).names.lookup an = some .local := by
  have h : (an == (PySem.Str.ofString "self")) = false := by simpa using n.n1
  simp [eS, List.lookup, h]
theorem lk_cls (n : Nm an) : (eS an).names.lookup ("__class__" : Str) = some .free := by
  have h : ((PySem.Str.ofString "__class__") == an) = false := by simpa using n.n2.symm
  have h0 : ((PySem.Str.ofString "__class__") == (PySem.Str.ofString "self")) = false := by decide
  show List.lookup (PySem.Str.ofString "__class__") [(PySem.Str.ofString "self", _), (an, _), (PySem.Str.ofString "__class__", _), (PySem.Str.ofString "super", _)] = _
  simp [List.lookup, h, h0]
theorem lk_sup (n : Nm an) : (eS an).names.lookup ("super" : Str) = some .globalImplicit := by
  have h : ((PySem.Str.ofString "super") == an) = false := by simpa using n.n3.symm
  have h0 : ((PySem.Str.ofString "super") == (PySem.Str.ofString "self")) = false := by decide
  have h1 : ((PySem.Str.ofString "super") == (PySem.Str.ofString "__class__")) = false := by decide
  show List.lookup (PySem.Str.ofString "super") [(PySem.Str.ofString "self", _), (an, _), (PySem.Str.ofString "__class__", _), (PySem.Str.ofString "super", _)] = _
  simp [List.lookup, h, h0, h1]
theorem nocell : ∀ x ∈ (eS an).names, x.2 ≠ NameKind.cell := by
  intro x hx
  simp only [eS, List.mem_cons, List.not_mem_nil, or_false] at hx
  rcases hx with rfl | rfl | rfl | rfl <;> simp
theorem err_init (T : ErrT P K mg C fI an fn) {hp : Heap} {g : Array GenState} {d : Drawn} {t : Nat} {os : OsState} {x t0 : Addr} {v : Value} (X : K.In hp) (hlim : hp.NoLimit) (hG : hp.Ns mainGlobals mg) (hB : hp.Ns builtinsNs mb)
    (hbb : ∀ x : Str, x ≠ "__name__" → mb x = bootBuiltins x) (hx : hp.get? x = some (excO C t0)) (hnx : K.lookup x = none) (hroom : A.depth < recursionLimit)
    (hq : ∀ h' tk dx t1, InitEnd hp h' x C dx t1 fn v → R (.ok (.ret .none)) ⟨h', g, d, tk, os⟩) :
    codeAny (model P w) A (.call (.ref fI) ⟨[.ref x, v], []⟩) R ⟨hp, g, d, t, os⟩ := by
  obtain ⟨oc, od, qual, doc, pm, an', cda, cc, ct, osl, p1, p2, msg, j, q1, q2, q3, q4, q5, q6, q7, q8, q9, q0, ccl, cdd, vs, ccs, file, tf, cl, cld, csl, ho, hcd, hco, hvs, hfile, hcell, pl, hev⟩ := T.fn
  obtain ⟨nm, q, N, bs, bm, sn, sub, ab, col, dd, k0, k1, k2, k3, k5, hC, hbm⟩ := T.cls
  have hcl : clsIn K C = some { name := nm, bases := bs, mro := .ref C :: bm, ns := N, qualname := q, hasDict := true, slotNames := sn, subclasses := sub, abstract := ab, collection := col, hasDel := false } := by unfold clsIn; rw [hC] <;> rfl
  refine ks_codeAny_call_defAt (fd := ksFn "__init__" qual (eA an p1 p2) (eB an fn msg j q1 q2 q3 q4 q5 q6 q7 q8 q9 q0) (eS an) .none .none doc pm an' (.ref cda) ct cc)
    (body := eB an fn msg j q1 q2 q3 q4 q5 q6 q7 q8 q9 q0) (binds := [(PySem.Str.ofString "self", .ref x), (an, v)]) hroom (X _ _ ho) rfl hlim (codeRec_of X hcd) rfl (BindsTo.of_eq (T.nm.bd _ _ _ _ _ _ _ _ _ _ _ _)) nocell ?_ (fun h₁ hns hk₁ => ?_) rfl rfl rfl
  · intro y hy
    simp only [List.mem_cons, List.not_mem_nil, or_false] at hy
    rcases hy with rfl | rfl
    · exact lk_self
    · exact lk_an T.nm
  have X₁ : K.In h₁ := X.keeps hk₁
  have hx₁ := hk₁ _ _ hx
  obtain ⟨oD, hD1, hD2⟩ : ∃ oD, h₁.get? C = some oD ∧ oD.data = .cls { name := nm, bases := bs, mro := .ref C :: bm, ns := N, qualname := q, hasDict := true, slotNames := sn, subclasses := sub, abstract := ab, collection := col, hasDel := false } := ⟨_, X₁ _ _ hC, rfl⟩
  have I₁ : InstAt h₁ x (excO C t0) C none := ⟨hx₁, rfl, rfl, trivial⟩
  have hnS : List.lookup ("self" : Str) [(an, v), (PySem.Str.ofString "self", Value.ref x)] = some (.ref x) := by
    have h : (("self" : Str) == an) = false := by simpa using T.nm.n1.symm
    simp [List.lookup, h]
  have hnA : List.lookup an [(an, v), (PySem.Str.ofString "self", Value.ref x)] = some v := by simp [List.lookup]
  refine ks_wpAt_execs_cons (ks_wpAt_Expr_any (ks_wpAt_MethodCall (pl := pl) ?_ (hev _)))
  refine ks_wpAt_super_base (fd := ksFn "__init__" qual (eA an p1 p2) (eB an fn msg j q1 q2 q3 q4 q5 q6 q7 q8 q9 q0) (eS an) .none .none doc pm an' (.ref cda) ct cc) (lk_sup T.nm) (lk_cls T.nm) rfl rfl (X₁ _ _ ho) rfl rfl rfl (X₁ _ _ hco) rfl hvs hfile T.top ?_
  refine ks_loadName_global rfl (lk_sup T.nm) (loadGlobal_builtin (hG.keeps hk₁) T.mgS (hB.keeps hk₁) ((hbb _ (by decide)).trans (by first | boot_by_name | rfl | kernel_rfl)) ⟨rfl, ?_⟩)
  refine wpAny_loadName_free rfl (lk_cls T.nm) rfl ⟨_, X₁ _ _ hcell, rfl⟩ ?_
  refine wpAny_loadName_local rfl lk_self hns hnS ?_
  refine ks_wpAny_isType_cls hD1 hD2 ⟨rfl, ?_⟩
  refine ks_wpAny_call_super hD1 hD2 hx₁ rfl (fun c e => by cases e) (looks_mroIn X₁ T.mC) (fun h₂ e₂ k₂ => ?_)
  have X₂ : K.In h₂ := X₁.keeps k₂
  have hx₂ := k₂ _ _ hx₁
  have I₂ : InstAt h₂ x (excO C t0) C none := ⟨hx₂, rfl, rfl, trivial⟩
  have hsup := T.sup
  unfold ks_superIn at hsup
  rw [hcl] at hsup
  refine kxs_getMethod kxs_ValueError e₂ (looks_opaque X₂ T.opq) (l₀ := .ref C :: bm) (fun A Q E s k q => wpAny_bind ((looks_clsIn X₂ hcl) A _ E s k (wpAny_pure q))) rfl X₂ hsup (I₂.type.andThen (looks_subIn X₂ T.sVE)) (ks_ne X₂ I₂ hcl) rfl ?_
  have hs1 : ∀ env : Env, starEach [Expr.Constant (Const.str msg) j q4] env = (false, eval (Expr.Constant (Const.str msg) j q4) env) :: starEach [] env := fun _ => rfl
  rw [hs1]
  show wpAny _ _ (callWith q5 (.ref h₂.objs.size) [] ((false, eval (Expr.Constant (Const.str msg) j q4) _) :: backTo q5 (starEach [] _)) []) _ _ _
  have hu₃ : (h₂.push (kxs_mw "ValueError.__init__" x)).get? h₂.objs.size = some (kxs_mw "ValueError.__init__" x) := Heap.get?_push_at rfl rfl
  have k₃ : ∀ b o, h₂.get? b = some o → (h₂.push (kxs_mw "ValueError.__init__" x)).get? b = some o := fun b o e => Heap.get?_push_of_some _ e
  refine kxs_callWith (i := "ValueError.__init__") (x := x) (u := h₂.objs.size) rfl (Calls.evalArgs_plain (Calls.spliced_cons (Calls.Constant_str (Calls.spliced_nil ⟨hu₃, ?_⟩))))
  refine call_bv (X₂.keeps k₃ _ _ hC) (k₃ _ _ hx₂) hu₃ (one_size _) (fun h₄ t1 k₄ hx₄ => ?_)
  have nx : ∀ b o, K.lookup b = some o → b ≠ x := fun b o e z => by rw [z, hnx] at e; cases e
  have X₄ : K.In h₄ := fun b o e => k₄ b o (nx b o e) (k₃ _ _ (X₂ b o e))
  have hn₄ : h₄.Ns hp.objs.size (fun y => List.lookup y [(an, v), (PySem.Str.ofString "self", Value.ref x)]) := by
    have hLx : hp.objs.size ≠ x := Nat.ne_of_gt (Heap.lt_size hx)
    exact hns.at fun o e => k₄ _ o hLx (k₃ _ _ (k₂ _ _ e))
  refine ks_wpAt_execs_cons (wpAt_of_wpAny (plainObj_wpAny_Assign_Attribute ?_))
  refine wpAny_Name (wpAny_loadName_local rfl (lk_an T.nm) hn₄ hnA ?_) T.nm.n4
  refine wpAny_Name (wpAny_loadName_local rfl lk_self hn₄ hnS ?_) (by decide)
  refine set_plain X₄ (ox := excO C t1) (od := none) ⟨hx₄, rfl, rfl, trivial⟩ T.sa ?_
  refine exc_osa X₄ hx₄ hcl (show refsVE (.ref C :: bm) = true from hbm) rfl T.noN (fun h₅ tk₅ dx k₅ dn dne hx₅ hn₅ => ?_)
  show PySem.wpAt _ _ _ (execs [] _) _ _ _
  have kk : ∀ b o, b ≠ x → hp.get? b = some o → h₄.get? b = some o := fun b o hb e => k₄ b o hb (k₃ _ _ (k₂ _ _ (hk₁ _ _ e)))
  have z : hp.objs.size ≤ h₄.objs.size := by
    obtain ⟨oL, es, ep, hL, _⟩ := hn₄
    exact Nat.le_of_lt (Heap.lt_size hL)
  exact wpAt_of_wpAny (wpAny_execs_nil (hq h₅ tk₅ dx t1 ⟨fun b o hb e => k₅ b o hb (kk b o hb e), hx₅, Nat.le_trans z dn, dne, hn₅⟩))
theorem err_made (T : ErrT P K mg C fI an fn) {hp : Heap} {g : Array GenState} {dr : Drawn} {tk : Nat} {os : OsState} {v : Value} (X : K.In hp) (hlim : hp.NoLimit) (hG : hp.Ns mainGlobals mg) (hB : hp.Ns builtinsNs mb)
    (hbb : ∀ x : Str, x ≠ "__name__" → mb x = bootBuiltins x) (hroom : A.depth + 1 < recursionLimit)
    (hq : ∀ h' tk e d, Made hp h' e C d fn v → R (.ok (.ret (.ref e))) ⟨h', g, dr, tk, os⟩) :
    codeAny (model P w) A (.call (.ref C) ⟨[v], []⟩) R ⟨hp, g, dr, tk, os⟩ := by
  obtain ⟨nm, q, N, bs, bm, sn, sub, ab, col, dd, k0, k1, k2, k3, k5, hC, hbm⟩ := T.cls
  have k : ∀ b o, hp.get? b = some o → ((hp.push (kdv_tup [v])).push (excO C hp.objs.size)).get? b = some o := fun b o e => Heap.get?_push_of_some _ (Heap.get?_push_of_some _ e)
  have hget : ((hp.push (kdv_tup [v])).push (excO C hp.objs.size)).get? (hp.objs.size + 1) = some (excO C hp.objs.size) := by heap_get
  have hnx : K.lookup (hp.objs.size + 1) = none := by
    cases e : K.lookup (hp.objs.size + 1) with
    | none => rfl
    | some o =>
      have z : hp.get? (hp.objs.size + 1) = some o := X _ _ e
      exact absurd (Nat.lt_of_succ_lt (Heap.lt_size z)) (Nat.lt_irrefl _)
  refine call_own F.excBase_ValueError (fun X => refsVE_contains X bm hbm) (X _ _ hC) (looks_findIn X T.iC) (fun self => bind_fn X self T.tC) (one_size v) ?_
  refine err_init T (X.keeps k) (hlim.keeps k) (hG.keeps k) (hB.keeps k) hbb hget hnx ?_ fun h' tk' dx t1 ⟨k', hx, dn, dne, hns⟩ => ?_
  · show A.depth + 1 < recursionLimit
    exact hroom
  · have old : ∀ b o, hp.get? b = some o → h'.get? b = some o := fun b o e => k' b o (Nat.ne_of_lt (Nat.lt_succ_of_lt (Heap.lt_size e))) (k b o e)
    have z : hp.objs.size + 1 + 1 ≤ dx := by
      first
        | (simpa only [Heap.size_push] using dn)
        | exact dn
        | (have q := dn; rw [Heap.size_push, Heap.size_push] at q; exact q)
    exact ⟨rfl, hq h' tk' (hp.objs.size + 1) dx ⟨old, Nat.le_succ _, ⟨_, _, hx, rfl, rfl, rfl, rfl⟩, Nat.le_trans (Nat.le_trans (Nat.le_succ _) (Nat.le_succ _)) z, dne, hns⟩⟩
end
end ErX
namespace Gx
open PySem PySem.Spec PyProof.Rows L2
section
variable {X : Cx} {C fI : Addr} {an fn : Str}
theorem relO_err {v : V} {v' : Value} (r : RelV v v') (fn f : Str) : RelO (List.lookup f [(fn, v)]) (if f = fn then some v' else none) := by
  by_cases hw : f = fn
  · subst hw
    rw [if_pos rfl]
    have q : List.lookup f [(f, v)] = some v := by simp [List.lookup]
    rw [q]
    exact r
  · rw [if_neg hw]
    have qw : (f == fn) = false := by simpa using hw
    have q2 : List.lookup f [(fn, v)] = none := by simp [List.lookup, qw]
    rw [q2]
    trivial
/-- C(e) -/
def tMkErr (C : Addr) (fn : Str) (ta : TA) : L2.St → Hp → XK → Prop := fun σ H Q => ta σ H fun vs H1 => ∃ v, vs = [v] ∧ ∀ d, H1 d = none → Q (.ref C) (some d) (upd H1 d (.xd [(fn, v)]))
theorem pmk_err {x : Str} {a : Expr} {ta : TA} {p pos : Pos} {k : Nat} (T : ErX.ErrT X.prog X.K X.mg C fI an fn) (hr : Room k X.A) (hm : X.mg x = some (.ref C)) (ha : PA X [a] ta) (hg : Gl X x := by rfl) (hdb : (x == ("__debug__" : Str)) = false := by decide)
    (he : starEach (a :: []) X.env = (false, eval a X.env) :: starEach [] X.env := by rfl) (hpl : (backTo pos (starEach [] X.env)).any (·.1) = false := by rfl) :
    PMk X (.Call (.Name x p) [a] [] pos) (tMkErr C fn ta) := by
  intro pins s σ H Q I h
  refine wpAny_Call_Name_kw (ld_glob I hg hm ?_ hdb)
  refine PySem.W.callWith_K (h₀ := X.base) I.ok.mod.kin T.kC (thn (ha.run pos pins s σ H _ I h) fun us s1 hh => ?_) he hpl
  obtain ⟨vs, H1, I1, r1, v, ev, q1⟩ := hh
  subst ev
  refine ⟨I1.kIn, ?_⟩
  cases r1 with
  | cons rv rn =>
    rename_i v' us'
    cases rn
    show wpAny _ _ (call (.ref C) [v']) _ _ _
    have hlim := I1.nolimit
    have hG := I1.mod.glob.keeps I1.bk
    obtain ⟨mb, h1, h2⟩ := I1.mod.blt
    have hB := h1.keeps I1.bk
    obtain ⟨hp, g, dr, tk, os⟩ := s1
    refine wpAny_call (ErX.err_made T I1.kIn hlim hG hB h2 (by have := hr.dp; omega) fun h' tk' e d M => ?_)
    show MkP X pins σ Q (.ref e) ⟨h', g, dr, tk', os⟩
    obtain ⟨oe, fv, hoe, hc, hd, hdat, h1⟩ := M.obj
    have hns := M.ns
    obtain ⟨G', g1, g2⟩ := restrict h' fun b => decide (b ≠ e)
    have gk : ∀ b, b ≠ e → G'.get? b = h'.get? b := fun b hb => g1 b (decide_eq_true hb)
    have ge : G'.get? e = none := g2 e (by simp)
    have old : ∀ b o, hp.get? b = some o → G'.get? b = some o := fun b o q => (gk b (Nat.ne_of_lt (Nat.lt_of_lt_of_le (Heap.lt_size q) M.new))).trans (M.keep b o q)
    have ob : ObjOk X.prog X.w (upd H1 d (.xd [(fn, v)])) G' d (.xd [(fn, v)]) :=
      ⟨_, hns.at (fun o q => (gk d M.dne).trans q), fun f => relO_err rv fn f⟩
    have J : Inv X pins σ (upd H1 d (.xd [(fn, v)])) ⟨G', g, dr, tk', os⟩ := I1.laid (t' := tk') old M.dbig ob
    refine ⟨e, oe, fv, ⟨G', g, dr, tk', os⟩, _, .ref C, some d, rfl, J, fun b o q => ?_, ge, hoe, ⟨hc, hd⟩, hdat, h1, ?_, rfl, I1.bare, raises_own T.exC T.tyC, q1 d (I1.hok.fresh M.dbig)⟩
    · by_cases hb : b = e
      · have q' : G'.get? b = some o := q
        rw [hb, ge] at q'; cases q'
      · exact (gk b hb).symm.trans q
    · rw [upd_ne (Ne.symm M.dne)]
      exact I1.hok.fresh M.new
/-- raise C(e) -/
def tRaiseErr (C : Addr) (fn : Str) (W : WX) (ta : TA) : TS := fun _ σ H => tMkErr C fn ta σ H fun cls d H' => W cls d σ H'
theorem ps_raiseErr {x : Str} {a : Expr} {ta : TA} {W : WX} {p pos pos2 : Pos} {k : Nat} (hc : X.calm = true) (T : ErX.ErrT X.prog X.K X.mg C fI an fn) (hr : Room k X.A) (hm : X.mg x = some (.ref C)) (tk : Takes X W) (ha : PA X [a] ta) (hg : Gl X x := by rfl) (hdb : (x == ("__debug__" : Str)) = false := by decide)
    (he : starEach (a :: []) X.env = (false, eval a X.env) :: starEach [] X.env := by rfl) (hpl : (backTo pos (starEach [] X.env)).any (·.1) = false := by rfl) :
    PS X (.Raise (some (.Call (.Name x p) [a] [] pos)) none pos2) (tRaiseErr C fn W ta) := ps_raise hc tk (pmk_err T hr hm ha hg hdb he hpl)
end
/-! calls of defs that may raise: what is raised is wished for at the caller's slots -/
section
variable {X : Cx} {CX : CXT} {k : Nat} {f C : Addr} {fd : FuncData} {ps : List Str} {sp : Sp} {dvs : List V} {ds : List Value} {E : L2.St → XK} {x m : Str} {p pos apos : Pos} {e o : Expr} {es : List Expr} {ta : TE} {t : TA}
def tMethSD (C : Addr) (m : Str) (sp : Sp) (dvs : List V) (E : L2.St → XK) (ta : TE) (t : TA) : TE := fun σ H Q => ta σ H fun x H1 => ∃ a dx fs, x = .ref a ∧ H1 a = some (.ins C dx fs) ∧ fs.lookup m = none ∧
  t σ H1 fun vs H2 => sp (x :: (vs ++ dvs)) H2 Q (E σ)
def tMakeSD (C : Addr) (sp : Sp) (dvs : List V) (E : L2.St → XK) (t : TA) : TE := fun σ H Q => t σ H fun vs H1 => ∀ x dx, H1 x = none → H1 dx = none → dx ≠ x →
  sp (.ref x :: (vs ++ dvs)) (upd (upd H1 dx (.own x)) x (.ins C dx [])) (fun v H2 => v = .non ∧ Q (.ref x) H2) (E σ)
theorem pe_callSD0 (F : FnOk X.prog X.w X.K X.mg X.base CX k f fd ps sp) (hr : Room k X.A) (hg : Gl X x) (hm : X.mg x = some (.ref f)) (hk : PySem.W.keepIn X.K (.ref f) = true) (hb : Binds X.K fd ps ds) (hd : Vals dvs ds) (hx : ∀ σ, PassesAt CX X σ (E σ))
    (hdb : (x == ("__debug__" : Str)) = false := by decide) : PE X (.Call (.Name x p) [] [] pos) (tCallSD sp dvs E tNil) := by
  refine ⟨fun pins s σ H Q I h => ?_⟩
  refine wpAny_Call_Name_kw (ld_glob I hg hm ?_ hdb)
  exact PySem.W.callWith_K0 I.kIn hk (run_fnSD (us := []) F hr hb hd (hx σ) I .nil h)
theorem pe_methSD {pl : Sem Bool} (he : PE X o ta) (c : Cls X.K C) (hm : Meth X.K C m f) (F : FnOk X.prog X.w X.K X.mg X.base CX k f fd ps sp) (hr : Room k X.A) (hb : Binds X.K fd ps ds) (hd : Vals dvs ds) (hx : ∀ σ, PassesAt CX X σ (E σ)) (ha : PA X (e :: es) t)
    (hst : starEach (e :: es) X.env = (false, eval e X.env) :: starEach es X.env := by rfl) (hpl : (backTo pos (starEach es X.env)).any (·.1) = false := by rfl)
    (ht : eval (.Call (.Attribute o m apos) (e :: es) [] pos) X.env = (do
      let ov ← eval o X.env
      standAt apos.atName
      let (f, first) ← holding [ov] (getMethod ov m pl)
      callWith pos f first (backTo pos (starEach (e :: es) X.env)) (backToKw pos (keywordEach [] X.env))) := by rfl) :
    PE X (.Call (.Attribute o m apos) (e :: es) [] pos) (tMethSD C m sp dvs E ta t) := by
  refine ⟨fun pins s σ H Q I h => ?_⟩
  refine PySem.W.methodCall_KW (pl := pl) (thn (he.run pins s σ H _ I h) fun u s1 ⟨x, H1, I1, rx, a, dx, fs, ex, ea, l, q⟩ => ?_) ht
  subst ex
  obtain rfl : u = Value.ref a := rx
  refine getmeth_ok I1 ea c hm l ?_
  refine PySem.W.callWith_K (first := [.ref a]) (h₀ := X.base) I.ok.mod.kin hm.kp (thn (ha.run pos pins s1 σ H1 _ I1 q) fun us s2 ⟨vs, H2, I2, r, q2⟩ => ⟨I2.kIn, ?_⟩) hst hpl
  exact run_fnSD (us := .ref a :: us) (vs := .ref a :: vs) F hr hb hd (hx σ) I2 (.cons rfl r) q2
theorem pe_methSD0 {pl : Sem Bool} (he : PE X o ta) (c : Cls X.K C) (hm : Meth X.K C m f) (F : FnOk X.prog X.w X.K X.mg X.base CX k f fd ps sp) (hr : Room k X.A) (hb : Binds X.K fd ps ds) (hd : Vals dvs ds) (hx : ∀ σ, PassesAt CX X σ (E σ))
    (ht : eval (.Call (.Attribute o m apos) [] [] pos) X.env = (do
      let ov ← eval o X.env
      standAt apos.atName
      let (f, first) ← holding [ov] (getMethod ov m pl)
      callWith pos f first (backTo pos (starEach [] X.env)) (backToKw pos (keywordEach [] X.env))) := by rfl) :
    PE X (.Call (.Attribute o m apos) [] [] pos) (tMethSD C m sp dvs E ta tNil) := by
  refine ⟨fun pins s σ H Q I h => ?_⟩
  refine PySem.W.methodCall_KW (pl := pl) (thn (he.run pins s σ H _ I h) fun u s1 ⟨x, H1, I1, rx, a, dx, fs, ex, ea, l, q⟩ => ?_) ht
  subst ex
  obtain rfl : u = Value.ref a := rx
  refine getmeth_ok I1 ea c hm l ?_
  exact PySem.W.callWith_K0 (first := [.ref a]) I1.kIn hm.kp (run_fnSD (us := [.ref a]) (vs := [.ref a]) F hr hb hd (hx σ) I1 (.cons rfl .nil) q)
theorem run_makeSD {pins : List (Addr × Obj)} {σ : L2.St} {H : Hp} {s : Shared} {Q : VK} {us : List Value} {vs : List V} (M : Mk X.K C f) (F : FnOk X.prog X.w X.K X.mg X.base CX k f fd ps sp) (hr : Room (k + 1) X.A) (hb : Binds X.K fd ps ds) (hd : Vals dvs ds)
    (hx : PassesAt CX X σ (E σ)) (I : L2.Inv X pins σ H s) (r : Vals vs us)
    (h : ∀ x dx, H x = none → H dx = none → dx ≠ x → sp (.ref x :: (vs ++ dvs)) (upd (upd H dx (.own x)) x (.ins C dx [])) (fun v H2 => v = .non ∧ Q (.ref x) H2) (E σ)) :
    wpAny (model X.prog X.w) X.A (call (.ref C) us) (EP X pins σ Q) X.xe s := by
  have hq := h (s.heap.objs.size + 1) s.heap.objs.size (I.hok.fresh (Nat.le_succ _)) (I.hok.fresh (Nat.le_refl _)) (Nat.ne_of_lt (Nat.lt_succ_self _))
  have I2 := Inv.made (C := C) I
  have r2 : Vals (V.ref (s.heap.objs.size + 1) :: (vs ++ dvs)) (Value.ref (s.heap.objs.size + 1) :: (us ++ ds)) := .cons rfl (r.append hd)
  have hl : (Value.ref (s.heap.objs.size + 1) :: us ++ ds).length = ps.length := by
    have e := r2.length
    rw [F.len _ _ _ _ hq] at e
    exact e.symm
  refine wpAny_call (make_map (f := f) I.kIn M.makes M.init (beq_iff_eq.mp M.fn) (codeAny_mono (F.run _ X.stack _ _ ⟨Value.ref (s.heap.objs.size + 1) :: us, []⟩ (Value.ref (s.heap.objs.size + 1) :: (us ++ ds)) _ _ (E σ) (hr.make C us [])
    (I2.env0.make C us []) (hb _ (Value.ref (s.heap.objs.size + 1) :: us) I2.kIn hl) r2 hq) fun r s' hq' => ?_))
  cases r with
  | error e => exact hx pins _ _ e s' I2 hq'
  | ok fl =>
    cases fl with
    | ret u =>
      obtain ⟨v, H', I3, rv, ev, q3⟩ := I2.after hq'
      subst ev
      exact ⟨rv, ⟨V.ref (s.heap.objs.size + 1), H', I3, rfl, q3⟩⟩
    | next => exact False.elim hq'
    | brk => exact False.elim hq'
    | cont => exact False.elim hq'
theorem pe_makeSD (M : Mk X.K C f) (F : FnOk X.prog X.w X.K X.mg X.base CX k f fd ps sp) (hr : Room (k + 1) X.A) (hg : Gl X x) (hm : X.mg x = some (.ref C)) (hb : Binds X.K fd ps ds) (hd : Vals dvs ds) (hx : ∀ σ, PassesAt CX X σ (E σ))
    (ha : PA X (e :: es) t) (hdb : (x == ("__debug__" : Str)) = false := by decide) (he : starEach (e :: es) X.env = (false, eval e X.env) :: starEach es X.env := by rfl) (hpl : (backTo pos (starEach es X.env)).any (·.1) = false := by rfl) :
    PE X (.Call (.Name x p) (e :: es) [] pos) (tMakeSD C sp dvs E t) := by
  refine ⟨fun pins s σ H Q I h => ?_⟩
  refine wpAny_Call_Name_kw (ld_glob I hg hm ?_ hdb)
  refine PySem.W.callWith_K (h₀ := X.base) I.ok.mod.kin M.kp (thn (ha.run pos pins s σ H _ I h) fun us s1 ⟨vs, H1, I1, r, q⟩ => ⟨I1.kIn, ?_⟩) he hpl
  exact run_makeSD M F hr hb hd (hx σ) I1 r q
/-! readings -/
variable {σ : L2.St} {H : Hp} {Q : VK} {D : Ends}
theorem go_callSD (h : t σ H fun vs H1 => sp (vs ++ dvs) H1 Q (E σ)) : tCallSD sp dvs E t σ H Q := h
theorem go_methSD (h : ta σ H fun x H1 => ∃ a dx fs, x = .ref a ∧ H1 a = some (.ins C dx fs) ∧ fs.lookup m = none ∧ t σ H1 fun vs H2 => sp (x :: (vs ++ dvs)) H2 Q (E σ)) : tMethSD C m sp dvs E ta t σ H Q := h
theorem go_makeSD (h : t σ H fun vs H1 => ∀ x dx, H1 x = none → H1 dx = none → dx ≠ x →
  sp (.ref x :: (vs ++ dvs)) (upd (upd H1 dx (.own x)) x (.ins C dx [])) (fun v H2 => v = .non ∧ Q (.ref x) H2) (E σ)) : tMakeSD C sp dvs E t σ H Q := h
theorem go_raise {W : WX} {fn : Str} (h : t σ H fun vs H1 => ∃ v, vs = [v] ∧ ∀ d, H1 d = none → W (.ref C) (some d) σ (upd H1 d (.xd [(fn, v)]))) : tRaiseErr C fn W t D σ H := h
end
/-! a def called within an except suite (it raises nothing itself) -/
structure RoomM (k : Nat) (A : Around) : Prop where
  dp : A.depth + 3 * k + 5 < recursionLimit
  un : A.units + 16 * k + 200 < cLine
theorem RoomM.mono {j k : Nat} {A : Around} (r : RoomM k A) (h : j ≤ k) : RoomM j A := ⟨by have := r.dp; omega, by have := r.un; omega⟩
theorem RoomM.deeper {k : Nat} {A : Around} (r : RoomM (k + 1) A) (env : Env) : RoomM k (A.deeper env) :=
  ⟨by have := r.dp; show A.depth + 1 + 3 * k + 5 < _; omega, by have := r.un; show A.units + 3 + 16 * k + 200 < _; omega⟩
theorem RoomM.depth {k : Nat} {A : Around} (r : RoomM k A) : A.depth < recursionLimit := by have := r.dp; omega
theorem roomM_mark {k : Nat} {A : Around} (r : Room k A) (h : Option Value) : RoomM k (A.mark h) := ⟨r.dp, r.un⟩
structure FnM (P : Program) (w : World) (K : PySem.W.Frag) (mg : Str → Option Value) (base : Heap) (k : Nat) (f : Addr) (fd : FuncData) (ps : List Str) (sp : Sp) : Prop where
  len : ∀ vs H Q E, sp vs H Q E → vs.length = ps.length
  run : ∀ (A : Around) (outer : List Env) (s : Shared) (H : Hp) (args : Args) (us : List Value) (vs : List V) (Q : VK), RoomM k A → Env0 P w K mg base A outer s H → BindsTo s fd args (ps.zip us) → Vals vs us → sp vs H Q E0 →
    codeAny (model P w) A (.call (.ref f) args) (CR CX0 outer P w H s Q E0) s
def cxM (P : Program) (w : World) (K : PySem.W.Frag) (mg : Str → Option Value) (base : Heap) (N : List Str) (qual : Str) (scope : Scope) (f : Addr) (cd : Value) (A : Around) (outer : List Env) (s : Shared) (H : Hp) : Cx :=
  { cxOf CX0 P w K mg base N qual scope f cd A outer s H E0 with calm := false }
theorem inv_startM {P : Program} {w : World} {K : PySem.W.Frag} {mg : Str → Option Value} {base : Heap} {N ps : List Str} {qual : Str} {scope : Scope} {f : Addr} {cd : Value} {A : Around} {outer : List Env} {s s1 : Shared} {H : Hp} {us : List Value} {vs : List V}
    (S : FnScope N ps scope) (e0 : Env0 P w K mg base A outer s H) (hl : vs.length = ps.length) (r : Vals vs us)
    (x : InCallC s s.heap.objs.size (bindL (envOfC qual scope s.heap.objs.size f cd).kindOf (ps.zip us) fun _ => none) (cellsFrom (s.heap.objs.size + 1) scope.names []) (bindC (envOfC qual scope s.heap.objs.size f cd).kindOf (ps.zip us) fun _ => none) s1) :
    L2.Inv (cxM P w K mg base N qual scope f cd A outer s H) [] (L2.start N vs) H s1 := by
  have hpl : ps.length ≤ N.length := by have := congrArg List.length S.pre; rw [List.length_take] at this; omega
  obtain ⟨h1, tk, rfl, hk⟩ := x.done
  have noA : ∀ b : Addr, b ∉ (cxM P w K mg base N qual scope f cd A outer s H).ex := fun b z => absurd (show b ∈ ([] : List Addr) from z) (by simp)
  refine ⟨⟨e0.mod, S.kind, rfl, rfl, Nat.le_refl _, fun y z c h1 h2 => ?_, fun y hy => ?_, fun y c _ h => ?_, (fun z => Bool.noConfusion (show false = true from z)), Around.frames_deeper e0.frames, .inr ⟨rfl, rfl⟩, fun b z => absurd z (noA b), e0.bs, e0.bsz, fun b _ _ => noA b, fun b z => absurd z (noA b), e0.funs, e0.frf⟩,
    rfl, e0.bare, Un.kept hk, ⟨_, x.toInCall.ns, fun i y v h1 h2 h3 => ?_⟩, fun y c h => ⟨_, x.cell y c h⟩, e0.hok.fresh (Nat.le_refl _), fun y c h => ?_, fun p hp => absurd (show p ∈ ([] : List (Addr × Obj)) from hp) (by simp), e0.hok.kept hk, ?_⟩
  · exact name_of_addr x.apart (PySem.mem_of_lookup h1) (PySem.mem_of_lookup h2)
  · have hy : scope.names.lookup y = some .cell ∨ scope.names.lookup y = some .free := hy
    rcases hy with hy | hy
    · exact cell_has hy
    · exact absurd rfl (S.nofree _ (PySem.mem_of_lookup hy))
  · exact Nat.le_of_lt (x.above y c (PySem.mem_of_lookup h))
  · have hi : i < vs.length := by
      unfold L2.start at h2
      by_cases hi : i < vs.length
      · exact hi
      · rw [List.getElem?_append_right (by simpa using hi)] at h2
        rw [List.getElem?_replicate] at h2
        split at h2 <;> cases h2
    have ha : vs[i]? = some v := by
      unfold L2.start at h2
      rw [List.getElem?_append_left (by simpa using hi), List.getElem?_map] at h2
      cases e : vs[i]? with
      | none => rw [e] at h2; cases h2
      | some a => rw [e] at h2; cases h2; rfl
    obtain ⟨u, hu, rv⟩ := r.get ha
    have hp : ps[i]? = some y := by
      rw [← S.pre, List.getElem?_take_of_lt (by omega)]; exact h1
    have ndP : ps.Nodup := by rw [← S.pre]; exact S.nd.sublist (List.take_sublist _ _)
    refine ⟨u, rv, ?_⟩
    rcases S.par y (List.mem_of_getElem? hp) with k | k
    · exact .inl ⟨k, bindL_get ndP hp hu k⟩
    · obtain ⟨c, e⟩ := cell_has (n := s.heap.objs.size + 1) k
      refine .inr ⟨.inl k, c, e, ?_⟩
      have q := x.cell y c e
      rw [bindC_get ndP hp hu (by show scope.names.lookup y ≠ _; rw [k]; decide)] at q
      exact q
  · exact e0.hok.fresh (Nat.le_of_lt (x.above y c (PySem.mem_of_lookup h)))
  · unfold L2.start
    show _ = N.length
    rw [List.length_append, List.length_map, List.length_replicate]
    omega
section
variable {P : Program} {w : World} {K : PySem.W.Frag} {mg : Str → Option Value} {base : Heap}
theorem Fun.okM {x qual : Str} {st : Stmt} {f : Addr} {fd : FuncData} {N ps : List Str} {k : Nat} {sp : Sp} (F : Fun K x qual st f fd) (S : FnScope N ps (defScope st)) (len : ∀ vs H Q E, sp vs H Q E → vs.length = ps.length)
    (hbody : ∀ (cdv : Value) (A : Around) (outer : List Env) (s : Shared) (H : Hp) (vs : List V) (Q : VK), RoomM k (A.deeper (envOfC qual (defScope st) s.heap.objs.size f cdv)) → sp vs H Q E0 →
      ∃ t, PSs (cxM P w K mg base N qual (defScope st) f cdv A outer s H) (defBody st) t ∧ t { nx := fun _ H' => Q .non H', rt := Q } (L2.start N vs) H) : FnM P w K mg base (k + 1) f fd ps sp := by
  obtain ⟨oc, od, kV, doc, pm, an, cdv, ct, osl, rfl, lk, hcd⟩ := F.ex
  refine ⟨len, fun A outer s H args us vs Q hr e0 hb r hsp => ?_⟩
  have hl := len _ _ _ _ hsp
  have KX : K.In s.heap := e0.mod.kin.keeps fun b o e => (e0.bs b o e).1
  have lim : s.heap.NoLimit := e0.mod.nolimit.keeps fun b o e => (e0.bs b o e).1
  have hkind : ∀ y ∈ ps.zip us, (defScope st).names.lookup y.1 = some .local ∨ ((defScope st).names.lookup y.1 = some .cell ∧ ((cellsFrom (s.heap.objs.size + 1) (defScope st).names []).lookup y.1).isSome = true) := fun ⟨n, v⟩ hy => by
    rcases S.par n (List.of_mem_zip hy).1 with q | q
    · exact .inl q
    · exact .inr ⟨q, PySem.W.cellsFrom_some _ _ _ (.inl q)⟩
  refine codeAny_call_function hr.depth (KX _ _ lk) rfl S.co S.gen rfl (PySem.W.codeRec_of KX hcd) (hb _ _ _ _ ?_)
  refine wpAny_newFunctionEnv_cells S.kind hkind fun env he s1 x => ?_
  subst he
  refine ⟨lim.keeps x.toInCall.keep, codeAny_func ?_⟩
  obtain ⟨t, ht, hq⟩ := hbody cdv A outer s H vs Q (hr.deeper _) hsp
  have I : L2.Inv (cxM P w K mg base N qual (defScope st) f cdv A outer s H) [] (L2.start N vs) H s1 := inv_startM S e0 hl r x
  refine wpAny_mono (ht.run [] s1 (L2.start N vs) H _ I hq) (fun fl s' hs => ?_) fun e s' hs => hs
  have fin : ∀ {σ' : L2.St} {H' : Hp} {v : V} {u : Value}, L2.Inv (cxM P w K mg base N qual (defScope st) f cdv A outer s H) [] σ' H' s' → RelV v u → Q v H' → CE outer P w H s Q u s' :=
    fun {σ' H' v u} J rv q => ⟨v, H', J.os, J.bare, J.base, J.hok, rv, q⟩
  cases fl with
  | ret u =>
    obtain ⟨v, σ', H', J, rv, q⟩ := hs
    exact fin J rv q
  | next =>
    obtain ⟨σ', H', J, q⟩ := hs
    exact fin (v := V.non) (u := Value.none) J rfl q
  | brk =>
    obtain ⟨_, _, _, q⟩ := hs
    exact False.elim q
  | cont =>
    obtain ⟨_, _, _, q⟩ := hs
    exact False.elim q
end
section
variable {X : Cx} {k : Nat} {f : Addr} {fd : FuncData} {ps : List Str} {sp : Sp} {x : Str} {q pos : Pos} {e : Expr} {es : List Expr} {t : TA}
theorem pe_callM (F : FnM X.prog X.w X.K X.mg X.base k f fd ps sp) (hr : RoomM k X.A) (hg : Gl X x) (hm : X.mg x = some (.ref f)) (hk : PySem.W.keepIn X.K (.ref f) = true) (hb : Binds X.K fd ps [])
    (ha : PA X (e :: es) t) (hdb : (x == ("__debug__" : Str)) = false := by decide) (he : starEach (e :: es) X.env = (false, eval e X.env) :: starEach es X.env := by rfl) (hpl : (backTo pos (starEach es X.env)).any (·.1) = false := by rfl) :
    PE X (.Call (.Name x q) (e :: es) [] pos) (tCall sp [] E0 t) := by
  refine ⟨fun pins s σ H Q I h => ?_⟩
  refine wpAny_Call_Name_kw (ld_glob I hg hm ?_ hdb)
  refine PySem.W.callWith_K (h₀ := X.base) I.ok.mod.kin hk (thn (ha.run pos pins s σ H _ I h) fun us s1 ⟨vs, H1, I1, r, q⟩ => ⟨I1.kIn, ?_⟩) he hpl
  have q : sp vs H1 Q E0 := by
    have z : sp (vs ++ []) H1 Q E0 := q
    rwa [List.append_nil] at z
  have hl : us.length = ps.length := by rw [← r.length]; exact F.len _ _ _ _ q
  have b := hb s1 us I1.kIn (by rw [List.append_nil]; exact hl)
  rw [List.append_nil] at b
  refine wpAny_call (codeAny_mono (F.run X.A X.stack s1 H1 ⟨us, []⟩ us vs Q hr I1.env0 b r q) fun r s' hq => ?_)
  cases r with
  | error e => exact False.elim hq
  | ok fl =>
    cases fl with
    | ret u => exact I1.after hq
    | next => exact False.elim hq
    | brk => exact False.elim hq
    | cont => exact False.elim hq
end
/-- what is raised is the clause's -/
theorem we_as {K : PySem.W.Frag} {c cls : Value} {i : Nat} {ts : Addr → Value → Option Addr → TS} {Wout : WX} {D : Ends} {σ : L2.St} {H : Hp} {d : Option Addr} (hc : PySem.W.exmOne K cls c = some true)
    (h : ∀ a, H a = none → ts a cls d { nx := fun σ' H' => D.nx (σ'.set i none) H', rt := D.rt, bk := fun σ' H' => D.bk (σ'.set i none) H', ct := fun σ' H' => D.ct (σ'.set i none) H' } (σ.set i (some (.ref a))) H) :
    WE (wAs K c i ts Wout D) σ cls d H := ⟨true, hc, fun _ => h, fun q => Bool.noConfusion q⟩
/-- e.f of a caught error whose dict tells f -/
theorem go_xf {a C : Addr} {cls : Value} {d : Option Addr} {f : Str} {te : TE} {σ : L2.St} {H : Hp} {Q : VK} (h : te σ H fun x H1 => x = .ref a ∧ cls = .ref C ∧ ∃ (dd : Addr) (fs : List (Str × V)) (v : V), d = some dd ∧ H1 dd = some (.xd fs) ∧ fs.lookup f = some v ∧ Q v H1) :
    tXf a cls d C f te σ H Q := h
end Gx
/-! isinstance of the error that a suite holds -/
namespace Gx
open PySem PySem.Spec PyProof.Rows L2
/-- what the class D must say, so that isinstance asks its instances rightly -/
structure ExD (K : PySem.W.Frag) (D : Addr) : Prop where
  cl : (PySem.W.clsIn K D).isSome = true
  hg : PySem.W.findIn K (.ref D) "__getattribute__" = some (some (.builtin "BaseException.__getattribute__"))
  hk : PySem.W.findIn K (.ref D) "__getattr__" = some none
  hs : PySem.W.subIn K (.ref D) (.type "BaseException") = some true
  ha : PySem.W.findIn K (.ref D) "__class__" = some (some (.builtin "object.__class__"))
  hn : PySem.W.specialIn K (.builtin "object.__class__") "__get__" = some (some (.builtin "getset_descriptor.__get__"))
  ht : PySem.W.takesIn K (.builtin "object.__class__") = some true
  hm : PySem.W.mroIn K D (.type "object") = some true
/-- what is asked of: one class, or a written tuple of classes -/
inductive AskX (K : PySem.W.Frag) (D : Addr) (H : Hp) (b : Bool) : V → Prop
  | one {c : V} {cv : Value} : (∀ u, RelV c u → u = cv) → PySem.W.kitOne K (.ref D) cv = some b → AskX K D H b c
  | tup {tp : Addr} {cs : List V} {cvs : List Value} : H tp = some (.tup cs) → (∀ us, Vals cs us → us = cvs) → PySem.W.kitAny K (.ref D) cvs = some b → AskX K D H b (.ref tp)
def rIsX (K : PySem.W.Frag) (cls : Value) (d : Option Addr) (a : Addr) : List V → Hp → VK → Prop := fun xs H Q => ∃ (D dd : Addr) (fs : List (Str × V)) (b : Bool) (c : V),
  xs = [.ref a, c] ∧ cls = .ref D ∧ d = some dd ∧ H dd = some (.xd fs) ∧ ExD K D ∧ AskX K D H b c ∧ Q (.bl b) H
theorem call_isX {X : Cx} {a : Addr} {oe : Obj} {cls : Value} {d : Option Addr} {pn : List (Addr × Obj)} (hz : Zc cls d oe) (hf : ∃ vs, oe.data = .fields vs) : CallR (X.suite a ((a, oe) :: pn)) (.builtin "isinstance") (rIsX X.K cls d a) := by
  intro pins s σ H xs us Q I r h
  obtain ⟨D, dd, fs, b, c, rfl, rfl, rfl, ed, C, ask, q⟩ := h
  cases r with
  | cons rx rr =>
    cases rr with
    | cons rt rr =>
      cases rr
      cases rx
      obtain ⟨hget, _⟩ := I.pin (a, oe) (List.mem_append.mpr (.inl List.mem_cons_self))
      obtain ⟨vs, hv⟩ := hf
      have hx : ObjOk X.prog X.w H s.heap dd (.xd fs) := I.hok dd _ ed
      obtain ⟨mA, hns, _⟩ := hx
      obtain ⟨od, _, _, hod, _⟩ := hns
      have J : PySem.W.InstAt s.heap a oe D (some od) := by
        obtain ⟨oc, odd, oda, osl⟩ := oe
        obtain ⟨h1, h2⟩ := hz
        dsimp only at h1 h2 hv
        subst h1 h2 hv
        exact ⟨hget, rfl, rfl, hod⟩
      have KX := PySem.W.kitx_exc (K := X.K) (C := D) (x := a) (ox := oe) (od := some od) C.cl C.hg C.hk C.hs C.ha C.hn C.ht C.hm
      cases ask with
      | one hcv e =>
        have ec := hcv _ rt
        subst ec
        exact PySem.W.kia_one KX I.kIn J e (fun z => nomatch z) fun tk => ⟨.bl b, H, I.kept (t' := tk) fun _ _ z => z, rfl, q⟩
      | tup ht hcs e =>
        cases rt
        have hx : ObjOk X.prog X.w H s.heap _ (.tup _) := I.hok _ _ ht
        obtain ⟨_, its, hv, hi⟩ := hx
        have ec := hcs _ hv
        subst ec
        obtain ⟨⟨oc', od', oda', osl'⟩, h1, h2, n, h3⟩ := hi
        dsimp only at h2 h3
        subst h2 h3
        exact PySem.W.kia_tup KX I.kIn J h1 e (fun z => nomatch z) fun tk => ⟨.bl b, H, I.kept (t' := tk) fun _ _ z => z, rfl, q⟩
/-- values of written class names -/
inductive ClsVs : List V → List Value → Prop
  | nil : ClsVs [] []
  | ref {a : Addr} {cs : List V} {cvs : List Value} : ClsVs cs cvs → ClsVs (.ref a :: cs) (.ref a :: cvs)
theorem ClsVs.only {cs : List V} {cvs : List Value} (h : ClsVs cs cvs) : ∀ us, Vals cs us → us = cvs := by
  induction h with
  | nil => intro us r; cases r; rfl
  | ref _ ih =>
    intro us r
    cases r with
    | cons rx rr =>
      cases rx
      rw [ih _ rr]
/-- one own class -/
theorem AskX.cls {K : PySem.W.Frag} {D C : Addr} {H : Hp} {b : Bool} (e : PySem.W.kitOne K (.ref D) (.ref C) = some b) : AskX K D H b (.ref C) := .one (cv := .ref C) (fun u r => by cases r; rfl) e
/-- one built-in class -/
theorem AskX.ty {K : PySem.W.Frag} {D : Addr} {T : String} {H : Hp} {b : Bool} (e : PySem.W.kitOne K (.ref D) (.type T) = some b) : AskX K D H b (.ty T) := .one (cv := .type T) (fun u r => by cases r; rfl) e
theorem go_isX {K : PySem.W.Frag} {D dd a : Addr} {fs : List (Str × V)} {b : Bool} {c : V} {H : Hp} {Q : VK} (ed : H dd = some (.xd fs)) (C : ExD K D) (ask : AskX K D H b c) (h : Q (.bl b) H) : rIsX K (.ref D) (some dd) a [.ref a, c] H Q :=
  ⟨D, dd, fs, b, c, rfl, rfl, rfl, ed, C, ask, h⟩
end Gx

set_option Elab.async false
set_option linter.all false
set_option maxRecDepth 100000
set_option maxHeartbeats 4000000
/-! Own lemmas: dicts whose keys are plain data (tuples of tuples of ints and texts): in, store of a new key, look-up. -/
namespace Gx
open PySem PySem.Spec PyProof.Rows L2
mutual
def plainK : PyData → Bool
  | .int _ => true
  | .str _ => true
  | .tuple ds => plainKs ds
  | _ => false
def plainKs : List PyData → Bool
  | [] => true
  | d :: r => plainK d && plainKs r
end
mutual
def keyD : PyData → NestedKey
  | .int i => .num i
  | .str x => .text x
  | .tuple ds => .tup (keyDs ds)
  | _ => .none
def keyDs : List PyData → List NestedKey
  | [] => []
  | d :: r => keyD d :: keyDs r
end
mutual
theorem keyD_inj : ∀ a b : PyData, plainK a = true → plainK b = true → keyD a = keyD b → a = b
  | .int i, .int j, _, _, h => by
    have : i = j := by simpa [keyD] using h
    rw [this]
  | .str i, .str j, _, _, h => by
    have : i = j := by simpa [keyD] using h
    rw [this]
  | .tuple ds, .tuple es, h1, h2, h => by
    rw [keyDs_inj ds es (by simpa [plainK] using h1) (by simpa [plainK] using h2) (by simpa [keyD] using h)]
  | .int _, .str _, _, _, h => by simp [keyD] at h
  | .int _, .tuple _, _, _, h => by simp [keyD] at h
  | .str _, .int _, _, _, h => by simp [keyD] at h
  | .str _, .tuple _, _, _, h => by simp [keyD] at h
  | .tuple _, .int _, _, _, h => by simp [keyD] at h
  | .tuple _, .str _, _, _, h => by simp [keyD] at h
  | .none, _, h, _, _ => by simp [plainK] at h
  | .bool _, _, h, _, _ => by simp [plainK] at h
  | .list _, _, h, _, _ => by simp [plainK] at h
  | .dict _, _, h, _, _ => by simp [plainK] at h
  | _, .none, _, h, _ => by simp [plainK] at h
  | _, .bool _, _, h, _ => by simp [plainK] at h
  | _, .list _, _, h, _ => by simp [plainK] at h
  | _, .dict _, _, h, _ => by simp [plainK] at h
theorem keyDs_inj : ∀ a b : List PyData, plainKs a = true → plainKs b = true → keyDs a = keyDs b → a = b
  | [], [], _, _, _ => rfl
  | [], _ :: _, _, _, h => by simp [keyDs] at h
  | _ :: _, [], _, _, h => by simp [keyDs] at h
  | d :: r, e :: t, h1, h2, h => by
    have k1 : plainK d = true ∧ plainKs r = true := by simpa [plainKs] using h1
    have k2 : plainK e = true ∧ plainKs t = true := by simpa [plainKs] using h2
    have k : keyD d = keyD e ∧ keyDs r = keyDs t := by simpa [keyDs] using h
    rw [keyD_inj d e k1.1 k2.1 k.1, keyDs_inj r t k1.2 k2.2 k.2]
end
section
variable {X : Cx} {pins : List (Addr × Obj)} {σ : L2.St} {H : Hp} {s : Shared}
mutual
theorem dp_key (I : Inv X pins σ H s) : ∀ (d : PyData) (v : V) (u : Value), plainK d = true → Dp X.K H v d → RelV v u → NestedIs s.heap (keyD d) u
  | .int i, _, _, _, h, r => by
    cases h
    obtain ⟨t, rfl⟩ := r
    exact .int i t
  | .str x, _, _, _, h, r => by
    cases h
    obtain ⟨t, rfl⟩ := r
    exact .text x t
  | .tuple ds, _, _, p, h, r => by
    cases h with
    | tup hs ha =>
      cases r
      obtain ⟨its, rv, ⟨o, ho, hc, n, hd⟩, _⟩ := I.tuple hs
      exact .tup ho hc hd (dpAll_key I ds _ _ (by simpa [plainK] using p) ha (by simpa using rv))
  | .none, _, _, p, _, _ => by simp [plainK] at p
  | .bool _, _, _, p, _, _ => by simp [plainK] at p
  | .list _, _, _, p, _, _ => by simp [plainK] at p
  | .dict _, _, _, p, _, _ => by simp [plainK] at p
theorem dpAll_key (I : Inv X pins σ H s) : ∀ (ds : List PyData) (vs : List V) (us : List Value), plainKs ds = true → DpAll X.K H vs ds → Vals vs us → NestedAll s.heap (keyDs ds) us
  | [], _, _, _, h, r => by
    cases h
    cases r
    exact .nil
  | d :: ds, _, _, p, h, r => by
    have p2 : plainK d = true ∧ plainKs ds = true := by simpa [plainKs] using p
    cases h with
    | cons h1 h2 =>
      cases r with
      | cons r1 r2 => exact .cons (dp_key I d _ _ p2.1 h1 r1) (dpAll_key I ds _ _ p2.2 h2 r2)
end
end
/-- a key's data, its address, the value -/
abbrev NRow := PyData × Addr × V
def NRel (p : NRow) (q : NestedKey × Addr × Value) : Prop := keyD p.1 = q.1 ∧ p.2.1 = q.2.1 ∧ RelV p.2.2 q.2.2
/-- the dict's own object at d holds the rows xs -/
def NDo (P : Program) (w : World) (d : Addr) (xs : List NRow) (h : Heap) : Prop :=
  (d == sysModules) = false ∧ ∃ ys : List (NestedKey × Addr × Value), Paired NRel xs ys ∧ ∃ o es ep, h.get? d = some o ∧ o.ExactDict ∧ o.data = .dict es ep ∧ es.toList = ys.map (entryOfKey (nestedKind P w)) ∧ (ys.map (·.1)).Nodup
def ndO (P : Program) (w : World) (d : Addr) (xs : List NRow) : HO := .ext (NDo P w d xs)
theorem ndO_ok {P : Program} {w : World} {H : Hp} {h : Heap} {d : Addr} {xs : List NRow} (k : NDo P w d xs h) : ObjOk P w H h d (ndO P w d xs) := by
  refine ⟨k, ?_, fun h1 h2 k1 st => ?_⟩
  · obtain ⟨_, _, _, o, _, _, e, _⟩ := k
    exact ⟨o, e⟩
  · obtain ⟨nm, ys, r, o, es, ep, e, z⟩ := k1
    exact ⟨nm, ys, r, o, es, ep, st o e, z⟩
/-- the keys' tuples stand -/
def NKeys (K : PySem.W.Frag) (H : Hp) (xs : List NRow) : Prop := ∀ x ∈ xs, plainK x.1 = true ∧ (keyD x.1).depth ≤ 8 ∧ Dp K H (.ref x.2.1) x.1
def nAt (xs : List NRow) (k : NestedKey) : Option V := (xs.find? fun x => decide (keyD x.1 = k)).map (·.2.2)
theorem nrel_find {k : NestedKey} : ∀ {xs : List NRow} {ys : List (NestedKey × Addr × Value)}, Paired NRel xs ys → (nAt xs k = none ↔ atKey ys k = none) ∧ ∀ v, nAt xs k = some v → ∃ p, atKey ys k = some p ∧ RelV v p.2
  | _, _, .nil => ⟨⟨fun _ => rfl, fun _ => rfl⟩, fun _ h => nomatch h⟩
  | x :: xs, y :: ys, .cons r rs => by
    obtain ⟨h1, h2⟩ := nrel_find (k := k) rs
    by_cases e : keyD x.1 = k
    · have e2 : y.1 = k := r.1.symm.trans e
      have a1 : nAt (x :: xs) k = some x.2.2 := by simp [nAt, e]
      have a2 : atKey (y :: ys) k = some y.2 := by simp [atKey, e2]
      rw [a1, a2]
      refine ⟨⟨fun z => absurd z (by simp), fun z => absurd z (by simp)⟩, fun v z => ?_⟩
      cases z
      exact ⟨_, rfl, r.2.2⟩
    · have e2 : ¬ y.1 = k := fun z => e (r.1.trans z)
      have a1 : nAt (x :: xs) k = nAt xs k := by simp [nAt, e]
      have a2 : atKey (y :: ys) k = atKey ys k := by simp [atKey, e2]
      rw [a1, a2]
      exact ⟨h1, h2⟩
section
variable {X : Cx} {pins : List (Addr × Obj)} {σ : L2.St} {H : Hp} {s : Shared} {p : Addr} {xs : List NRow}
theorem Inv.nd1 (I : Inv X pins σ H s) (e : H p = some (ndO X.prog X.w p xs)) (hk : NKeys X.K H xs) : (p == sysModules) = false ∧ ∃ ys, Paired NRel xs ys ∧ s.heap.DictOfH (nestedKind X.prog X.w) p ys := by
  obtain ⟨⟨nm, ys, r, o, es, ep, e1, e2, e3, e4, e5⟩, _, _⟩ := I.hok p _ e
  refine ⟨nm, ys, r, o, es, ep, e1, e2, e3, e4, fun y hy => ?_, e5⟩
  have key : ∀ {xs : List NRow} {ys : List (NestedKey × Addr × Value)}, Paired NRel xs ys → NKeys X.K H xs → ∀ y ∈ ys, (nestedKind X.prog X.w).is s.heap y.1 y.2.1 := fun {xs ys} r => by
    induction r with
    | nil => exact fun _ _ h => nomatch h
    | cons r1 _ ih =>
      intro hk y hy
      rcases List.mem_cons.mp hy with rfl | hy
      · obtain ⟨k1, k2, k3⟩ := hk _ List.mem_cons_self
        rw [← r1.1, ← r1.2.1]
        exact ⟨dp_key I _ _ _ k1 k3 rfl, k2⟩
      · exact ih (fun x hx => hk x (List.mem_cons_of_mem _ hx)) y hy
  exact key r hk y hy
/-- the empty dict -/
theorem Inv.nd0 (I : Inv X pins σ H s) (e : H p = some (.dK [])) : (p == sysModules) = false ∧ s.heap.DictOfH (nestedKind X.prog X.w) p [] := by
  obtain ⟨_, nm, vs, r, o, es, ep, e1, e2, e3, _, e5, _⟩ := I.hok p _ e
  cases r
  have ez : es.toList = [] := by
    cases z : es.toList with
    | nil => rfl
    | cons a b =>
      rw [z] at e5
      cases e5
  exact ⟨nm, o, es, ep, e1, e2, e3, ez, (fun _ h => nomatch h), List.nodup_nil⟩
/-- such a dict, or the empty one that is not told apart yet -/
def NDst (P : Program) (w : World) (H : Hp) (p : Addr) (xs : List NRow) : Prop := H p = some (ndO P w p xs) ∨ (H p = some (.dK []) ∧ xs = [])
theorem Inv.nd (I : Inv X pins σ H s) (e : NDst X.prog X.w H p xs) (hk : NKeys X.K H xs) : (p == sysModules) = false ∧ ∃ ys, Paired NRel xs ys ∧ s.heap.DictOfH (nestedKind X.prog X.w) p ys := by
  rcases e with e | ⟨e, rfl⟩
  · exact Inv.nd1 I e hk
  · obtain ⟨nm, k⟩ := Inv.nd0 I e
    exact ⟨nm, [], .nil, k⟩
/-- key in dict -/
def rInN (P : Program) (w : World) (K : PySem.W.Frag) : R2 := fun x y H Q => ∃ a p d xs, x = .ref a ∧ y = .ref p ∧ NDst P w H p xs ∧ NKeys K H xs ∧ plainK d = true ∧ (keyD d).depth ≤ 8 ∧ Dp K H (.ref a) d ∧ Q (.bl (nAt xs (keyD d)).isSome) H
theorem op_inN (hu : X.A.units + 9 < cLine) : OpR X (compareOp .In) (rInN X.prog X.w X.K) := by
  intro pins s σ H x y v u Q I rx ry h
  obtain ⟨a, p, d, xs, rfl, rfl, e, hk, pd, dd, hd, q⟩ := h
  cases rx
  cases ry
  obtain ⟨nm, ys, r, hm⟩ := Inv.nd I e hk
  obtain ⟨f1, f2⟩ := nrel_find (k := keyD d) r
  have room : (nestedKind X.prog X.w).room X.A.in1 := by
    show X.A.units + 1 + 8 < cLine
    omega
  refine wpAny_in_heap (k := keyD d) room ⟨dp_key I _ _ _ pd hd rfl, dd⟩ nm hm ?_
  have same : (atKey ys (keyD d)).isSome = (nAt xs (keyD d)).isSome := by
    cases z : nAt xs (keyD d) with
    | none =>
      rw [f1.mp z]
      rfl
    | some v =>
      obtain ⟨p2, z2, _⟩ := f2 v z
      rw [z2]
      rfl
  rw [same]
  exact ⟨.bl _, H, I.tok _, rfl, q⟩
/-- d[k] = v, k not there yet -/
def rSetN (P : Program) (w : World) (K : PySem.W.Frag) : V → V → V → Hp → (Hp → Prop) → Prop := fun o i v H Q => ∃ p a d xs, o = .ref p ∧ i = .ref a ∧ NDst P w H p xs ∧ NKeys K H xs ∧ xs.length ≤ 100000 ∧
  plainK d = true ∧ (keyD d).depth ≤ 8 ∧ Dp K H (.ref a) d ∧ nAt xs (keyD d) = none ∧ Q (upd H p (ndO P w p (xs ++ [(d, a, v)])))
theorem set_nd (hu : X.A.units + 9 < cLine) : PSet X (rSetN X.prog X.w X.K) := by
  intro pins s σ H o i v ov iv u Q I ro ri rv h
  obtain ⟨p, a, d, xs, rfl, rfl, e, hk, hl, pd, dd, hd, hn, q⟩ := h
  cases ro
  cases ri
  obtain ⟨nm, ys, r, hm⟩ := Inv.nd I e hk
  have mu : Mut (H p) := by
    rcases e with e | ⟨e, _⟩
    · rw [e]; trivial
    · rw [e]; trivial
  obtain ⟨f1, _⟩ := nrel_find (k := keyD d) r
  have room : (nestedKind X.prog X.w).room X.A.in1 := by
    show X.A.units + 1 + 8 < cLine
    omega
  have hlen : ys.length ≤ sizeLine := by
    rw [← Paired.length r, sizeLine_eq]
    omega
  refine wpAny_setItem_heap (k := keyD d) room ⟨dp_key I _ _ _ pd hd rfl, dd⟩ hm (fun h' hm' sb => ?_) hlen
  rw [storedH_new (f1.mp hn)] at hm'
  obtain ⟨ob, es, ep, e1, e2, e3, e4, e5, e6⟩ := hm'
  refine ⟨_, I.write (x := p) (e := p) mu (.inl rfl) (fun b o ne k => (sb.2 b ne).trans k) ⟨ob, e1⟩ (ndO_ok ⟨nm, _, Paired.snoc r ⟨rfl, rfl, rv⟩, ob, es, ep, e1, e2, e3, e4, e6⟩), q⟩
end
section
variable {P : Program} {w : World} {K : PySem.W.Frag} {H H' : Hp} {Q : VK}
theorem NKeys.imp {xs : List NRow} (h : NKeys K H xs) (k : ∀ (d : PyData) (v : V), plainK d = true → Dp K H v d → Dp K H' v d) : NKeys K H' xs := fun x hx => let ⟨a, b, c⟩ := h x hx; ⟨a, b, k _ _ a c⟩
theorem go_inN {a p : Addr} {d : PyData} {xs : List NRow} (e : NDst P w H p xs) (hk : NKeys K H xs) (pd : plainK d = true) (dd : (keyD d).depth ≤ 8) (hd : Dp K H (.ref a) d) (q : Q (.bl (nAt xs (keyD d)).isSome) H) : rInN P w K (.ref a) (.ref p) H Q :=
  ⟨a, p, d, xs, rfl, rfl, e, hk, pd, dd, hd, q⟩
theorem go_setN {a p : Addr} {d : PyData} {v : V} {xs : List NRow} {R : Hp → Prop} (e : NDst P w H p xs) (hk : NKeys K H xs) (hl : xs.length ≤ 100000) (pd : plainK d = true) (dd : (keyD d).depth ≤ 8) (hd : Dp K H (.ref a) d) (hn : nAt xs (keyD d) = none)
    (q : R (upd H p (ndO P w p (xs ++ [(d, a, v)])))) : rSetN P w K (.ref p) (.ref a) v H R := ⟨p, a, d, xs, rfl, rfl, e, hk, hl, pd, dd, hd, hn, q⟩
end
/-! a walk over the items, the dict locked -/
def Itn (P : Program) (w : World) (d : Addr) (o : Obj) (xs : List NRow) : It where
  go i H := H d = some (.frz o (ndO P w d xs)) ∧ i < xs.length
  yld i H x H' := ∃ T r, xs[i]? = some r ∧ x = .ref T ∧ H T = none ∧ H' = upd H T (.tup [.ref r.2.1, r.2.2])
  stop i H := H d = some (.frz o (ndO P w d xs)) ∧ xs.length ≤ i
theorem nrel_at {P : Program} {w : World} : ∀ {xs : List NRow} {ys : List (NestedKey × Addr × Value)} {i : Nat} {r : NRow}, Paired NRel xs ys → xs[i]? = some r → ∃ y, ys[i]? = some y ∧ NRel r y
  | _, _, _, _, .nil, h => nomatch h
  | _, _, 0, _, .cons r1 _, h => by cases h; exact ⟨_, rfl, r1⟩
  | _, _, i + 1, _, .cons _ rs, h => nrel_at (P := P) (w := w) (i := i) rs (by simpa using h)
section
variable {X : Cx} {pins : List (Addr × Obj)} {σ : L2.St} {H : Hp} {s : Shared} {d : Addr} {o : Obj} {xs : List NRow}
theorem Inv.frzN (I : Inv X pins σ H s) (h : H d = some (.frz o (ndO X.prog X.w d xs))) : (d == sysModules) = false ∧ ∃ (es : Array DictEntry) (ep : Nat), o.data = .dict es ep ∧ es.size = xs.length ∧ s.heap.DictRaw d es ep ∧
    ∀ (i : Nat) r, xs[i]? = some r → ∃ hi : i < es.size, es[i].key = .ref r.2.1 ∧ RelV r.2.2 es[i].val := by
  obtain ⟨hd, ⟨nm, ys, r, o', es, ep, e1, e2, e3, e4, _⟩, _⟩ := I.hok d _ h
  rw [hd] at e1
  cases e1
  have l1 : es.size = ys.length := by
    have := congrArg List.length e4
    rw [Array.length_toList, List.length_map] at this
    exact this
  refine ⟨nm, es, ep, e3, by rw [l1, ← Paired.length r], ⟨o, hd, e2, e3⟩, fun i x hx => ?_⟩
  obtain ⟨y, hy, k1, k2, k3⟩ := nrel_at (P := X.prog) (w := X.w) r hx
  have hi : i < es.size := by
    rw [l1]
    exact (List.getElem?_eq_some_iff.mp hy).1
  have ent : es[i]? = some (entryOfKey (nestedKind X.prog X.w) y) := by
    rw [← Array.getElem?_toList, e4, List.getElem?_map, hy]
    rfl
  have ent2 : es[i] = entryOfKey (nestedKind X.prog X.w) y := by
    rw [Array.getElem?_eq_getElem hi] at ent
    exact Option.some.inj ent
  refine ⟨hi, ?_, ?_⟩
  · rw [ent2, k2]
    rfl
  · rw [ent2]
    exact k3
end
theorem turn_itemsN {P : Program} {w : World} {K : PySem.W.Frag} {d it : Addr} {o : Obj} {xs : List NRow} {es : Array DictEntry} {ep : Nat} {elts : List Expr} {kk : Nat} {tpos : Pos} (hod : o.data = .dict es ep) :
    L2.Turn P w K (.Tuple elts kk tpos) (Itn P w d o xs) [it] it (fun i h => ∃ ok ov, IsItemIter h it d i xs.length ep ok ov) where
  mem := by simp
  obj := fun i h st b hb => by
    obtain rfl : b = it := by simpa using hb
    obtain ⟨ok, ov, e⟩ := st
    exact ⟨_, e, fun v z => nomatch z⟩
  keep := fun i h h' st k => by
    obtain ⟨ok, ov, e⟩ := st
    exact ⟨ok, ov, k it (by simp) _ e⟩
  item := by
    rintro X rfl rfl rfl hc i pins s σ H E I hf ⟨ok, ov, he⟩ ⟨hd, hi⟩
    obtain ⟨_, es', ep', q1, q2, raw, ent⟩ := Inv.frzN I hd
    obtain ⟨rfl, rfl⟩ := dict_ep hod q1
    obtain ⟨r, hr⟩ : ∃ r, xs[i]? = some r := ⟨xs[i], List.getElem?_eq_getElem hi⟩
    obtain ⟨hie, key, val⟩ := ent i r hr
    rw [← q2] at he
    have young : it < s.heap.objs.size := Heap.lt_size he
    refine wpAny_pyNext_items_item_raw he raw hie fun h1 ho hT hz hk => ?_
    refine ⟨_, rfl, ?_⟩
    refine wpAny_letOwnedTupleGo_items (s := { s with heap := h1 }) ho fun h2 he2 sb => ?_
    have T2 : h2.get? s.heap.objs.size = some { cls := .type "tuple", data := .seq #[es'[i].key, es'[i].val] } :=
      (sb.2 _ (Nat.ne_of_gt young)).trans hT
    have made : ObjOk X.prog X.w (upd H s.heap.objs.size (.tup [.ref r.2.1, r.2.2])) h2 s.heap.objs.size (.tup [.ref r.2.1, r.2.2]) :=
      ⟨by show 2 ≤ sizeLine; decide, [es'[i].key, es'[i].val], .cons key (.cons val .nil), ⟨_, T2, rfl, _, rfl⟩⟩
    have J := I.turnedNew (t' := s.toks) (ch := [it]) (fun b ob hb e =>
      (sb.2 b (by simpa using hb)).trans (hk b ob (by simpa using hb) e)) hf (Nat.le_refl _) made
    refine ⟨.ref s.heap.objs.size, _, J, rfl, ⟨_, r, hr, rfl, I.hok.fresh (Nat.le_refl _), rfl⟩, ⟨_, _, by rw [← q2]; exact he2⟩, fun b hb => ?_⟩
    obtain rfl : b = it := by simpa using hb
    rw [upd_ne (Nat.ne_of_lt young)]
    exact (hf b (by simp)).1
  done := by
    rintro X rfl rfl rfl hc i pins s σ H E I hf ⟨ok, ov, he⟩ ⟨hd, hi⟩
    obtain ⟨_, es', ep', q1, q2, raw, _⟩ := Inv.frzN I hd
    obtain ⟨rfl, rfl⟩ := dict_ep hod q1
    obtain ⟨f0, f1, f2, f3, f4, f5⟩ := hf it (by simp)
    rw [← q2] at he
    exact wpAny_pyNext_items_end_raw (I.ok.hd hc) he raw (by omega) fun h1 eb => ⟨rfl, I.turned (t' := s.toks) (fun b ob hb e => eb b ob hb e) f0 f1 f3 f4 f5⟩
  self := fun A i s Q E st h => by
    obtain ⟨_, _, e⟩ := st
    exact PySem.W.kcp_self e h
/-- for .. in d.items(), the dict locked (tLock) -/
def iItemsN (P : Program) (w : World) (td : TE) : TI := fun σ H R => td σ H fun x H1 => ∃ d o xs, x = .ref d ∧ H1 d = some (.frz o (ndO P w d xs)) ∧ R (Itn P w d o xs) H1
theorem pi_itemsN {X : Cx} {e : Expr} {td : TE} {apos cpos tpos : Pos} {elts : List Expr} {kk : Nat} (he : PE X e td) (hbase : attributeBase e "items" X.env (eval e X.env) = eval e X.env := by rfl) (hline : (apos.endLine == cpos.line) = true := by rfl) :
    PI X (.Tuple elts kk tpos) (.Call (.Attribute e "items" apos) [] [] cpos) (iItemsN X.prog X.w td) := by
  constructor
  intro pins s σ H R I h
  refine wpAny_Call_method (T := "dict") (id := "dict.items") hbase rfl hline F.plainAttrs_dict F.slot_dict_items F.type_dict_items (thn (he.run pins s σ H _ I h) fun u s1 h1 => ?_)
  obtain ⟨x, H1, I1, rx, d, o, xs, rfl, hd, q⟩ := h1
  obtain rfl : u = Value.ref d := rx
  obtain ⟨nm, es, ep, hdt, hsz, raw, _⟩ := Inv.frzN I1 hd
  have view : Inv X pins σ H1 { s1 with heap := s1.heap.push { cls := .type "dict_items", data := .fields #[.ref d] } } :=
    I1.kept (t' := s1.toks) fun b ob k => Heap.get?_push_of_some _ k
  have last : wpAny (model X.prog X.w) X.A (pyIter (.ref s1.heap.objs.size)) (PIE X pins σ (.Tuple elts kk tpos) R) X.xe { s1 with heap := s1.heap.push { cls := .type "dict_items", data := .fields #[.ref d] } } := by
    refine wpAny_pyIter_items_raw (d := d) (es := es) (ep := ep) ⟨_, Heap.get?_push_size _ rfl, rfl, rfl⟩ (raw.at fun ob k => Heap.get?_push_of_some _ k) ?_
    refine pi_one (tk := s1.toks) view _ (turn_itemsN hdt) ⟨.none, .none, ?_⟩ q
    rw [← hsz]
    exact Heap.get?_push_size _ rfl
  obtain ⟨ob, k1, k2, k3⟩ := id raw
  refine ⟨⟨ob, k1, k2.1⟩, fun a z => ?_, ?_⟩
  · cases z
    exact ⟨ob, k1, k2.2.1⟩
  show wpAny _ _ (callWith cpos (.builtin "dict.items") [.ref d] [] []) _ X.xe s1
  exact method_meetsIn F.slot_dict_items F.entry_dict_items rfl (PySem.evalArgs_none ⟨rfl, ⟨ob, k1, k2.1⟩, F.args_dict_items_1 _, _, meets_dict_items_raw d nm, ⟨es, ep, raw⟩, last⟩)
/-! d.get(k, x), d[k] -/
def rGetN (P : Program) (w : World) (K : PySem.W.Frag) : V → List V → Hp → VK → Prop := fun x vs H Q => ∃ p a d dv xs, x = .ref p ∧ vs = [.ref a, dv] ∧ NDst P w H p xs ∧ NKeys K H xs ∧ plainK d = true ∧ (keyD d).depth ≤ 8 ∧ Dp K H (.ref a) d ∧ Q ((nAt xs (keyD d)).getD dv) H
section
variable {X : Cx}
theorem mt_getN (hu : X.A.units + 9 < cLine) : MtR X "dict.get" (rGetN X.prog X.w X.K) := by
  intro pins s σ H x vs v us Q I rx rv h
  obtain ⟨p, a, d, dv, xs, rfl, rfl, e, hk, pd, dd, hd, q⟩ := h
  cases rx
  obtain ⟨nm, ys, r, hm⟩ := Inv.nd I e hk
  obtain ⟨f1, f2⟩ := nrel_find (k := keyD d) r
  have room : (nestedKind X.prog X.w).room X.A.in1 := by
    show X.A.units + 1 + 8 < cLine
    omega
  cases rv with
  | cons r1 rv =>
    cases rv with
    | cons r2 rv =>
      cases rv
      cases r1
      refine getOr_keyed (k := keyD d) (kvs := pairsH ys) room ⟨dp_key I _ _ _ pd hd rfl, dd⟩ nm ⟨ys, hm, rfl⟩ ?_
      rw [valueAt_pairsH]
      cases z : nAt xs (keyD d) with
      | none =>
        rw [z] at q
        rw [f1.mp z]
        exact ⟨dv, H, I.tok _, r2, q⟩
      | some y =>
        rw [z] at q
        obtain ⟨p2, z2, r3⟩ := f2 y z
        rw [z2]
        exact ⟨y, H, I.tok _, r3, q⟩
def tIxN (P : Program) (w : World) (K : PySem.W.Frag) (td ty : TE) : TE := fun σ H Q => td σ H fun x H1 => ty σ H1 fun y H2 => ∃ p a d v xs, x = .ref p ∧ y = .ref a ∧ NDst P w H2 p xs ∧ NKeys K H2 xs ∧ plainK d = true ∧ (keyD d).depth ≤ 8 ∧ Dp K H2 (.ref a) d ∧ nAt xs (keyD d) = some v ∧ Q v H2
theorem pe_ixN {o i : Expr} {pos : Pos} {td ty : TE} (hu : X.A.units + 9 < cLine) (ho : PE X o td) (hi : PE X i ty) (hs : NoSl i) : PE X (.Subscript o i pos) (tIxN X.prog X.w X.K td ty) := by
  constructor
  intro pins s σ H Q I h
  refine subD_of PySem.F.slot_dict_getitem.lookup hs (thn (ho.run pins s σ H _ I h) fun u s1 h1 => ?_)
  obtain ⟨x, H1, I1, rx, h1⟩ := h1
  refine thn (hi.run pins s1 σ H1 _ I1 h1) fun iv s2 h2 => ?_
  obtain ⟨y, H2, I2, ry, p, a, d, v, xs, rfl, rfl, e, hk, pd, dd, hd, hv, q⟩ := h2
  cases rx
  cases ry
  obtain ⟨nm, ys, r, hm⟩ := Inv.nd I2 e hk
  obtain ⟨_, f2⟩ := nrel_find (k := keyD d) r
  obtain ⟨p2, z2, r3⟩ := f2 v hv
  have room : (nestedKind X.prog X.w).room X.A.in1 := by
    show X.A.units + 1 + 8 < cLine
    omega
  exact ⟨hm.typeIs, wpAny_getItem_heap (k := keyD d) room ⟨dp_key I2 _ _ _ pd hd rfl, dd⟩ hm z2 ⟨v, H2, I2.tok _, r3, q⟩⟩
end
section
variable {P : Program} {w : World} {K : PySem.W.Frag} {σ : L2.St} {H : Hp} {Q : VK} {td ty : TE}
theorem go_getN {a p : Addr} {d : PyData} {dv : V} {xs : List NRow} (e : NDst P w H p xs) (hk : NKeys K H xs) (pd : plainK d = true) (dd : (keyD d).depth ≤ 8) (hd : Dp K H (.ref a) d) (q : Q ((nAt xs (keyD d)).getD dv) H) : rGetN P w K (.ref p) [.ref a, dv] H Q :=
  ⟨p, a, d, dv, xs, rfl, rfl, e, hk, pd, dd, hd, q⟩
/-- rows behind a store -/
theorem nAt_snoc {xs : List NRow} {d : PyData} {a : Addr} {v : V} {k : NestedKey} : nAt (xs ++ [(d, a, v)]) k = match nAt xs k with | some u => some u | none => if keyD d = k then some v else none := by
  unfold nAt
  rw [List.find?_append]
  cases h : xs.find? fun x => decide (keyD x.1 = k) with
  | some y => rfl
  | none =>
    by_cases e : keyD d = k
    · simp [e]
    · simp [e]
end
/-- for a block's target of a form: the written part told apart -/
theorem pg_tupK {X : Cx} {K : PySem.W.Frag} {es : List Expr} {k : Nat} {t : TGs} {n : Nat} {pos : Pos} (hK : X.K = K) (hc : X.calm = true) (h : PGs X es t) (hn : (assignEach es X.env).length = n := by rfl) (hst : (assignEach es X.env).findIdx? (·.1) = none := by rfl) :
    PG X (.Tuple es k pos) (gTup K n t) := by
  subst hK
  exact pg_tup hc h hn hst
/-- {} as such a dict -/
def tDNewN (P : Program) (w : World) : TE := fun σ H Q => ∀ p, H p = none → Q (.ref p) (upd H p (ndO P w p []))
theorem pe_dnewN {X : Cx} {pos : Pos} : PE X (.Dict [] [] pos) (tDNewN X.prog X.w) := by
  constructor
  intro pins s σ H Q I h
  have run := (pe_dnewK (X := X) (pos := pos)).run pins s σ H (fun x H1 => ∃ p, x = .ref p ∧ H1 = upd H p (.dK []) ∧ Q (.ref p) (upd H p (ndO X.prog X.w p []))) I fun p hp => ⟨p, rfl, rfl, h p hp⟩
  refine thn run fun v s1 h1 => ?_
  obtain ⟨x, H1, I1, rx, p, rfl, rfl, q⟩ := h1
  obtain ⟨nm, o, es, ep, e1, e2, e3, e4, _, e6⟩ := Inv.nd0 (p := p) I1 upd_same
  have J := I1.write (t' := s1.toks) (h' := s1.heap) (x := p) (e := p) (o := ndO X.prog X.w p []) (by rw [upd_same]; trivial) (.inl rfl) (fun b u _ k => k) ⟨o, e1⟩ (ndO_ok ⟨nm, [], .nil, o, es, ep, e1, e2, e3, e4, e6⟩)
  rw [upd_upd] at J
  exact ⟨.ref p, _, J, rx, q⟩
theorem go_dnewN {P : Program} {w : World} {σ : L2.St} {H : Hp} {Q : VK} (h : ∀ p, H p = none → Q (.ref p) (upd H p (ndO P w p []))) : tDNewN P w σ H Q := h
/-- [e for (a, b) in d.items()], behind the reading of d -/
theorem lc_itemsN {P : Program} {w : World} {d : Addr} {o : Obj} {xs : List NRow} {g : TG} {tt : TT} {te : TE} {vs : List Nat} {σ : L2.St} {H1 : Hp} {D : Addr} {Qd : Hp → Prop} (Pv : Nat → Hp → Prop) (h0 : Pv 0 (upd H1 D (.lst [])))
    (hl : ∀ i H, i ≤ xs.length → Pv i H → H d = some (.frz o (ndO P w d xs)))
    (hs : ∀ (i : Nat) r T H, xs[i]? = some r → Pv i H → H T = none → g (.ref T) (wipe σ vs) (upd H T (.tup [.ref r.2.1, r.2.2])) fun σ2 H2 => wipe σ2 vs = wipe σ vs ∧ tt σ2 H2 fun b H3 =>
      if b = true then te σ2 H3 fun y H4 => ∃ acc, H4 D = some (.lst acc) ∧ acc.length < sizeLine ∧ Pv (i + 1) (upd H4 D (.lst (acc ++ [y]))) else Pv (i + 1) H3)
    (hd : ∀ H, Pv xs.length H → Qd H) :
    ∃ W : Nat → Nat → Hp → Prop, (∃ m, W 0 m (upd H1 D (.lst []))) ∧ ∀ i m H, W i m H →
      ((Itn P w d o xs).stop i H ∧ Qd H) ∨ ((Itn P w d o xs).go i H ∧ ∃ Nx : Hp → Prop, (∀ H', Nx H' → ∃ m', m' < m ∧ W (i + 1) m' H') ∧ ∀ x H', (Itn P w d o xs).yld i H x H' → g x (wipe σ vs) H' fun σ2 H2 => wipe σ2 vs = wipe σ vs ∧ tt σ2 H2 fun b H3 =>
        if b = true then te σ2 H3 fun y H4 => ∃ acc, H4 D = some (.lst acc) ∧ acc.length < sizeLine ∧ Nx (upd H4 D (.lst (acc ++ [y]))) else Nx H3) := by
  refine ⟨fun i m H => i ≤ xs.length ∧ m + i = xs.length ∧ Pv i H, ⟨xs.length, Nat.zero_le _, rfl, h0⟩, ?_⟩
  rintro i m H ⟨hi, hm, hp⟩
  rcases Nat.lt_or_ge i xs.length with h | h
  · refine .inr ⟨⟨hl i H hi hp, h⟩, fun H' => Pv (i + 1) H', fun H' hp' => ⟨m - 1, by omega, by omega, by omega, hp'⟩, ?_⟩
    rintro x H' ⟨T, r, hr, rfl, hT, rfl⟩
    exact hs i r T H hr hp hT
  · obtain rfl : i = xs.length := by omega
    exact .inl ⟨⟨hl _ H hi hp, Nat.le_refl _⟩, hd H hp⟩
/-- for (i, x) in enumerate(xs), behind the reading of xs -/
theorem foEn {K : PySem.W.Frag} {σ : L2.St} {H1 : Hp} {g : TG} {D : Ends} {tb : TS} {a : Addr} (xs : List V) (Pv : Nat → L2.St → Hp → Prop) (h0 : Pv 0 σ H1) (hl : ∀ i σ H, i ≤ xs.length → Pv i σ H → SqL K H a xs)
    (hs : ∀ (i : Nat) x T σ H, xs[i]? = some x → Pv i σ H → H T = none → g (.ref T) σ (upd H T (.tup [.int (i : Nat), x])) fun σ2 H2 => tb { D with nx := Pv (i + 1), ct := Pv (i + 1), bk := D.nx } σ2 H2)
    (hd : ∀ σ H, Pv xs.length σ H → D.nx σ H) :
    ∃ W : Nat → Nat → L2.St → Hp → Prop, (∃ m, W 0 m σ H1) ∧ ∀ i m σ H, W i m σ H →
      ((Ite K a).stop i H ∧ D.nx σ H) ∨ ((Ite K a).go i H ∧ ∃ N : L2.St → Hp → Prop, (∀ σ' H', N σ' H' → ∃ m', m' < m ∧ W (i + 1) m' σ' H') ∧ ∀ x H', (Ite K a).yld i H x H' → g x σ H' fun σ2 H2 => tb { D with nx := N, ct := N, bk := D.nx } σ2 H2) := by
  refine ⟨fun i m σ H => i ≤ xs.length ∧ m + i = xs.length ∧ Pv i σ H, ⟨xs.length, Nat.zero_le _, rfl, h0⟩, ?_⟩
  rintro i m σ H ⟨hi, hm, hp⟩
  have here := hl i σ H hi hp
  rcases Nat.lt_or_ge i xs.length with h | h
  · refine .inr ⟨⟨xs, xs[i], here, List.getElem?_eq_getElem h⟩, Pv (i + 1), fun σ' H' hp' => ⟨m - 1, by omega, by omega, by omega, hp'⟩, ?_⟩
    rintro x H' ⟨T, y, rfl, hT, rfl, at_⟩
    exact hs i y T σ H (at_ xs here) hp hT
  · obtain rfl : i = xs.length := by omega
    exact .inl ⟨⟨xs, here, Nat.le_refl _⟩, hd σ H hp⟩
end Gx

set_option Elab.async false
set_option linter.all false
set_option maxRecDepth 100000
set_option maxHeartbeats 4000000
/-! Own lemmas: != of two lists whose items are equal by an own __eq__. -/
namespace Gx
open PySem PySem.Spec PyProof.Rows L2
open AutoSeq1 (wpAny_loadPart')
open PySem.SeqAt MeetsSeq MeetsSeq2 MeetsSeq3 SeqRoads2
section
variable {prog : Program} {w : World} {A : Around} {R : Result → Shared → Prop}
/-- the loop's turns, each pair equal: False at the end -/
theorem nel_turns {l b : Addr} {N : Nat} {I : Nat → Shared → Prop} (hl : GQ.ListI prog w A (fun e s' => R (.error e) s') l b N I) (fin : ∀ s, I N s → R (.ok (.ret (.bool false))) s) :
    ∀ (k i : Nat), k + i = N → ∀ s, I i s → wpAny (model prog w) A.in1 (Builtin.«list.__eq__.loop» ⟨[.ref l, .ref b, rawInt i, rawInt 3], []⟩) (GQ.FinOf prog w A R) (fun e s' => R (.error e) s') s
  | 0, i, hk, s, h => by
    obtain ⟨xs, ys, n, n2, e1, e2, z1, z2, _⟩ := hl _ _ h
    obtain rfl : i = N := by omega
    have hR := fin s h
    obtain ⟨hp, g, d, tk, os⟩ := s
    wp_walk using wpAny_loadPart' e1, wpAny_loadPart' e2
    have o1 : xs[((i : Nat) : Int).toNat]? = none := by simp; omega
    have o2 : ys[((i : Nat) : Int).toNat]? = none := by simp; omega
    rw [o1, o2]
    wp_walk using wpAny_loadPart' e1, wpAny_loadPart' e2
    show R (.ok (.ret (.bool (xs.size != ys.size)))) _
    rw [z1, z2]
    simpa using hR
  | k + 1, i, hk, s, h => by
    obtain ⟨xs, ys, n, n2, e1, e2, z1, z2, turn⟩ := hl _ _ h
    have g1 : i < xs.size := by omega
    have g2 : i < ys.size := by omega
    have go := turn g1 g2
    obtain ⟨hp, g, d, tk, os⟩ := s
    wp_walk using wpAny_loadPart' e1, wpAny_loadPart' e2
    have o1 : xs[((i : Nat) : Int).toNat]? = some xs[i] := by simp [g1]
    have o2 : ys[((i : Nat) : Int).toNat]? = some ys[i] := by simp [g2]
    have cast : ((i : Int) + 1) = ((i + 1 : Nat) : Int) := by omega
    rw [o1, o2]
    refine wpAny_bind (wpAny_mono go (fun r s2 q => ?_) fun _ _ x => x)
    obtain ⟨rfl, q⟩ := q
    have rest := nel_turns hl fin k (i + 1) (by omega) s2 q
    obtain ⟨hp2, g2, d2, tk2, os2⟩ := s2
    wp_walk
    rw [cast]
    refine ⟨plainId_quiet plain_eq_loop _, codeAny_builtin entry_eq_loop ?_⟩
    rw [Around.under_plainId plain_eq_loop _]
    exact rest
theorem nel_all {l b : Addr} {N : Nat} {I : Nat → Shared → Prop} (hl : GQ.ListI prog w A (fun e s' => R (.error e) s') l b N I) (fin : ∀ s, I N s → R (.ok (.ret (.bool false))) s) {s : Shared} (h : I 0 s) :
    wpAny (model prog w) A.in1 (Builtin.«list.__ne__» ⟨[.ref l, .ref b], []⟩) (GQ.FinOf prog w A R) (fun e s' => R (.error e) s') s := by
  obtain ⟨xs, ys, n, n2, e1, e2, z1, z2, _⟩ := hl _ _ h
  have rest := nel_turns (A := A) (R := R) hl fin N 0 rfl s h
  obtain ⟨hp, g, d, tk, os⟩ := s
  have sub := AutoSeq1.sub_list_list
  have hz : ¬ (xs.size != ys.size) = true := by simp [z1, z2]
  wp_walk using wpAny_loadPart' e1, wpAny_loadPart' e2
  refine ⟨plainId_quiet plain_eq_loop _, codeAny_builtin entry_eq_loop ?_⟩
  rw [Around.under_plainId plain_eq_loop _]
  exact rest
end
section
variable {prog : Program} {w : World} {A : Around} {E : Value → Shared → Prop} {s : Shared}
theorem rc_nel {l b : Addr} {N : Nat} {Q : Value → Shared → Prop} (hu : A.units < cLine) (I : Nat → Shared → Prop) (hl : GQ.ListI prog w A E l b N I)
    (fin : ∀ s, I N s → Q (.bool false) s) (h : I 0 s) : wpAny (model prog w) A (richCompare .NotEq (.ref l) (.ref b)) Q E s := by
  obtain ⟨xs, ys, n, n2, e1, e2, _⟩ := hl _ _ h
  refine wpAny_richCompare_same_room (op := .NotEq) ⟨_, e1, rfl⟩ ⟨_, e2, rfl⟩ F.slot_list_ne (GQ.call_here F.slot_list_ne ⟨_, e1, rfl⟩ F.entry_list_ne (F.args_list_ne_2 _ _) ?_) hu
  exact nel_all (R := wants (fun v s' => v ≠ .notImplemented ∧ Q v s') E) hl (fun s' q => ⟨(fun x => nomatch x), fin s' q⟩) h
end
section
variable {X : Cx} {n : Nat} {D : Eqv}
/-- x != y of two lists, item by item equal: False -/
def rNeL (D : Eqv) : R2 := fun x y H Q => DList D x y H ∧ ∀ H', Ext H H' → Q (.bl false) H'
theorem op_neL (hD : Mon D) (h : EqG X n D) (hr : Room (n + 1) X.A) : OpR X (compareOp .NotEq) (rNeL D) := by
  intro pins s σ H x y v u Q I rx ry hq
  obtain ⟨⟨a, b, xs, ys, rfl, rfl, ha, hb, p⟩, q⟩ := hq
  have sb : Sub X (n + 1) X.A := ⟨hr, rfl⟩
  cases rx
  cases ry
  show wpAny (model X.prog X.w) X.A (richCompare .NotEq (.ref a) (.ref b)) (EP X pins σ Q) X.xe s
  refine rc_nel (N := xs.length) sb.room.units0 (fun _ s' => LoopI X pins σ H s') (fun i s' z => ?_) (fun s' z => ?_) ⟨H, I, Ext.rfl'⟩
  · obtain ⟨H1, I1, e1⟩ := id z
    obtain ⟨m1, as, k, r, e⟩ := I1.hok a _ (e1 _ _ ha)
    obtain ⟨m2, bs, k2, r2, e2⟩ := I1.hok b _ (e1 _ _ hb)
    exact ⟨as.toArray, bs.toArray, k, k2, e, e2, by rw [List.size_toArray, ← r.length], by rw [List.size_toArray, ← r2.length, ← p.1], fun h1 h2 => turnG hD h sb p r r2 i h1 h2 s' z⟩
  · obtain ⟨H1, I1, e1⟩ := z
    exact ⟨.bl false, H1, I1, rfl, q H1 e1⟩
/-- all that stands outlasts, but at S -/
def Off (S : Addr → Prop) (H H' : Hp) : Prop := ∀ c o, ¬ S c → H c = some o → H' c = some o
/-- no tuple stands at S -/
def NoT (S : Addr → Prop) (H : Hp) : Prop := ∀ c xs, S c → H c ≠ some (.tup xs) ∧ ∀ o, H c ≠ some (.frz o (.tup xs))
theorem sqT_off {K : PySem.W.Frag} {S : Addr → Prop} {H H' : Hp} {a : Addr} {xs : List V} (o : Off S H H') (n : NoT S H) (h : SqT K H a xs) : SqT K H' a xs := by
  rcases h with (h | ⟨b, h⟩) | h
  · exact .inl (.inl (o _ _ (fun z => (n a xs z).1 h) h))
  · exact .inl (.inr ⟨b, o _ _ (fun z => (n a xs z).2 b h) h⟩)
  · exact .inr h
mutual
theorem dp_off {K : PySem.W.Frag} {S : Addr → Prop} {H H' : Hp} (o : Off S H H') (n : NoT S H) : ∀ (d : PyData) (v : V), plainK d = true → Dp K H v d → Dp K H' v d
  | .none, _, _, h => by cases h; exact .non
  | .bool b, _, _, h => by cases h; exact .bl b
  | .int i, _, _, h => by cases h; exact .int i
  | .str x, _, _, h => by cases h; exact .str x
  | .list ds, _, k, _ => by simp [plainK] at k
  | .dict _, _, k, _ => by simp [plainK] at k
  | .tuple ds, _, k, h => by
    cases h with
    | tup hs ha => exact .tup (sqT_off o n hs) (dpAll_off o n ds _ (by simpa [plainK] using k) ha)
theorem dpAll_off {K : PySem.W.Frag} {S : Addr → Prop} {H H' : Hp} (o : Off S H H') (n : NoT S H) : ∀ (ds : List PyData) (vs : List V), plainKs ds = true → DpAll K H vs ds → DpAll K H' vs ds
  | [], _, _, h => by cases h; exact .nil
  | d :: ds, _, k, h => by
    have k' : plainK d = true ∧ plainKs ds = true := by simpa [plainKs] using k
    cases h with
    | cons h1 h2 => exact .cons (dp_off o n d _ k'.1 h1) (dpAll_off o n ds _ k'.2 h2)
end
theorem But.off {p : Addr} {H H' : Hp} (b : But p H H') : Off (fun c => c = p) H H' := fun c o n e => b c o n e
theorem noT_ins {p : Addr} {H : Hp} {C dx : Addr} {fs : List (Str × V)} (h : H p = some (.ins C dx fs)) : NoT (fun c => c = p) H := fun c xs z => by
  subst z
  rw [h]
  exact ⟨fun e => (by cases e), fun o e => (by cases e)⟩
theorem noT_lst {p : Addr} {H : Hp} {ys : List V} (h : H p = some (.lst ys)) : NoT (fun c => c = p) H := fun c xs z => by
  subst z
  rw [h]
  exact ⟨fun e => (by cases e), fun o e => (by cases e)⟩
theorem Off.trans {S : Addr → Prop} {H H1 H2 : Hp} (a : Off S H H1) (b : Off S H1 H2) : Off S H H2 := fun c o n e => b c o n (a c o n e)
theorem Off.same {S : Addr → Prop} {H H1 H2 : Hp} (a : Off S H H1) (b : Same H1 H2) : Off S H H2 := fun c o n e => b c o (a c o n e)
theorem Off.put {S : Addr → Prop} {H H1 : Hp} {p : Addr} {o : HO} (a : Off S H H1) (h : S p) : Off S H (upd H1 p o) := fun c u n e => by
  have ne : c ≠ p := fun z => n (by rw [z]; exact h)
  rw [upd_ne ne]
  exact a c u n e
theorem nAt_any {xs : List NRow} {k : NestedKey} : (nAt xs k).isSome = xs.any fun x => decide (keyD x.1 = k) := by
  unfold nAt
  rw [Option.isSome_map]
  induction xs with
  | nil => rfl
  | cons x t ih =>
    rw [List.find?_cons, List.any_cons]
    by_cases e : keyD x.1 = k
    · simp [e]
    · simp [e, ih]
/-- d.name(..) of a dict by nested keys -/
def tBMN (P : Program) (w : World) (r : V → List V → Hp → VK → Prop) (to : TE) (t : TA) : TE := fun σ H Q => to σ H fun x H1 => (∃ p xs, x = .ref p ∧ NDst P w H1 p xs) ∧ t σ H1 fun xs H2 => r x xs H2 Q
theorem nd_is {X : Cx} {pins : List (Addr × Obj)} {σ : L2.St} {H : Hp} {s : Shared} {p : Addr} {xs : List NRow} (I : Inv X pins σ H s) (e : NDst X.prog X.w H p xs) : s.TypeIs (.ref p) "dict" ∧ ∀ a, Value.ref p = .ref a → ∃ ob, s.heap.get? a = some ob ∧ ob.dict = none := by
  have z : ∃ o, s.heap.get? p = some o ∧ o.ExactDict := by
    rcases e with e | ⟨e, _⟩
    · obtain ⟨_, _, _, o, _, _, e1, e2, _⟩ := (I.hok p _ e).1
      exact ⟨o, e1, e2⟩
    · obtain ⟨_, o, _, _, e1, e2, _⟩ := Inv.nd0 I e
      exact ⟨o, e1, e2⟩
  obtain ⟨o, e1, e2⟩ := z
  refine ⟨⟨o, e1, e2.1⟩, fun a h => ?_⟩
  cases h
  exact ⟨o, e1, e2.2.1⟩
theorem pe_bmN {X : Cx} {o e : Expr} {es : List Expr} {to : TE} {t : TA} {name : Str} {ap cp : Pos} {id : String} {r : V → List V → Hp → VK → Prop} (pa : PlainAttrs "dict") (slot : Slot "dict" name id) (hty : typeOf (.builtin id) = pure (.type "method_descriptor")) (hm : MtR X id r) (ho : PE X o to) (ha : PA X (e :: es) t)
    (hbase : attributeBase o name X.env (eval o X.env) = eval o X.env := by rfl)
    (hfew : ((backTo cp (starEach (e :: es) X.env)).all (fun x => !x.1) && (backToKw cp (keywordEach [] X.env)).all (fun x => x.1.isSome) && decide ((e :: es).length + ([] : List Keyword).length + (if ([] : List Keyword).isEmpty then 0 else 1) < 30)) = true := by rfl)
    (hline : (ap.endLine == cp.line) = true := by rfl) (hst : starEach (e :: es) X.env = (false, eval e X.env) :: starEach es X.env := by rfl) (hp : (backTo cp (starEach es X.env)).any (·.1) = false := by rfl) :
    PE X (.Call (.Attribute o name ap) (e :: es) [] cp) (tBMN X.prog X.w r to t) := by
  constructor
  intro pins s σ H Q I h
  refine wpAny_Call_method_late hbase hfew hline rfl (thn (ho.run pins s σ H _ I h) fun v s1 z => ?_)
  obtain ⟨x, H1, I1, r1, ⟨p, xs, rfl, nd⟩, q1⟩ := z
  have run := ha.run cp pins s1 σ H1 _ I1 q1
  cases r1
  obtain ⟨h1, h2⟩ := nd_is I1 nd
  refine ⟨"dict", id, pa, slot, hty, h1, h2, ?_⟩
  rw [hst] at run ⊢
  have no : (false || (backTo cp (starEach es X.env)).any (·.1)) = false := by rw [hp] <;> rfl
  refine Calls.callWith_builtin no (Calls.evalArgs_plain ?_)
  exact thn run fun us s2 ⟨vs, H2, I2, r2, q2⟩ =>
     hm pins s2 σ H2 (.ref p) vs _ us Q I2 rfl r2 q2
/-- within a block: the written part told apart -/
theorem pi_listK {X : Cx} {K : PySem.W.Frag} {tg l : Expr} {tl : TE} (hK : X.K = K) (hl : PE X l tl) : PI X tg l (iList K tl) := by
  subst hK
  exact pi_list hl
/-- [e for x in range(n)] that makes objects, behind the reading of n -/
theorem lcRh {σ : L2.St} {H1 : Hp} {te : TE} {vs : List Nat} {j : Nat} {R : Addr → Hp → Prop} {n : Int} {P : Hp → Nat → V → Prop} (hP : Stays P) (hz : n ≤ 100000) (hn : -(2 ^ 62) ≤ n) (hw : ∀ x, wipe ((wipe σ vs).set j x) vs = wipe σ vs)
    (he : ∀ (i : Nat) H', i < n.toNat → Same H1 H' → ∀ R : VK, (∀ y H'', Same H' H'' → P H'' i y → R y H'') → te ((wipe σ vs).set j (some (.int i))) H' R)
    (q : ∀ D (ys : List V) H2, H1 D = none → Same H1 H2 → H2 D = some (.lst ys) → ys.length = n.toNat → (∀ k y, ys[k]? = some y → P H2 k y) → R D H2) :
    ∃ k : Int, [V.int n] = [.int k] ∧ -(2 ^ 62) ≤ k ∧ k < 2 ^ 62 ∧ ∀ D, H1 D = none → ∃ W : Nat → Nat → Hp → Prop, (∃ m, W 0 m (upd H1 D (.lst []))) ∧ ∀ i m H, W i m H →
      ((Itr 0 k.toNat).stop i H ∧ R D H) ∨ ((Itr 0 k.toNat).go i H ∧ ∃ Nx : Hp → Prop, (∀ H', Nx H' → ∃ m', m' < m ∧ W (i + 1) m' H') ∧ ∀ x H', (Itr 0 k.toNat).yld i H x H' → gName j x (wipe σ vs) H' fun σ2 H2 => wipe σ2 vs = wipe σ vs ∧ tYes σ2 H2 fun b H3 =>
        if b = true then te σ2 H3 fun y H4 => ∃ acc, H4 D = some (.lst acc) ∧ acc.length < sizeLine ∧ Nx (upd H4 D (.lst (acc ++ [y]))) else Nx H3) := by
  refine ⟨n, rfl, hn, by omega, fun D hD => ?_⟩
  refine lc_range (lo := 0) (n := n.toNat) (fun i H' => Same H1 H' ∧ ∃ ys : List V, H' D = some (.lst ys) ∧ ys.length = i ∧ ∀ k y, ys[k]? = some y → P H' k y) ⟨same_new hD, [], upd_same, rfl, fun k y h => by simp at h⟩ (fun i H hi p => ?_) fun H p => ?_
  · obtain ⟨s, ys, e, hl, hp⟩ := p
    refine ⟨hw _, go_yes (iteT ?_)⟩
    rw [Int.zero_add]
    refine he i H hi s _ fun y H4 s4 hy => ?_
    have e4 := s4 _ _ e
    refine ⟨ys, e4, szlt (by omega), same_mut (s.trans s4) hD, ys ++ [y], upd_same, by simp [hl], fun k z hz => ?_⟩
    refine hP.lst _ _ ys _ _ _ e4 ?_
    rcases Nat.lt_or_ge k ys.length with h | h
    · rw [List.getElem?_append_left h] at hz
      exact hP.same _ _ _ _ s4 (hp k z hz)
    · have hk := (List.getElem?_eq_some_iff.mp hz).1
      rw [List.length_append, List.length_singleton] at hk
      obtain rfl : k = ys.length := by omega
      rw [List.getElem?_append_right (Nat.le_refl _), Nat.sub_self] at hz
      cases hz
      rw [hl]
      exact hy
  · obtain ⟨s, ys, e, hl, hp⟩ := p
    exact q D ys H hD s e hl hp
theorem go_iTp {K : PySem.W.Frag} {σ : L2.St} {H : Hp} {tl : TE} {R : It → Hp → Prop} (h : tl σ H fun x H1 => ∃ a, x = .ref a ∧ (∃ xs, SqT K H1 a xs) ∧ R (Itt K a) H1) : iTup K tl σ H R := h
/-- for x in a tuple, behind the tuple's reading -/
theorem foTp {K : PySem.W.Frag} {σ : L2.St} {H1 : Hp} {D : Ends} {g : TG} {tb : TS} {a : Addr} (xs : List V) (Pv : Nat → L2.St → Hp → Prop) (h0 : Pv 0 σ H1) (hl : ∀ i σ H, i ≤ xs.length → Pv i σ H → SqT K H a xs)
    (hs : ∀ i x σ H, xs[i]? = some x → Pv i σ H → g x σ H fun σ2 H2 => tb { D with nx := Pv (i + 1), ct := Pv (i + 1), bk := D.nx } σ2 H2) (hd : ∀ σ H, Pv xs.length σ H → D.nx σ H) :
    ∃ b, V.ref a = .ref b ∧ (∃ xs, SqT K H1 b xs) ∧ ∃ W : Nat → Nat → L2.St → Hp → Prop, (∃ m, W 0 m σ H1) ∧ ∀ i m σ H, W i m σ H →
      ((Itt K b).stop i H ∧ D.nx σ H) ∨ ((Itt K b).go i H ∧ ∃ N : L2.St → Hp → Prop, (∀ σ' H', N σ' H' → ∃ m', m' < m ∧ W (i + 1) m' σ' H') ∧ ∀ x H', (Itt K b).yld i H x H' → g x σ H' fun σ2 H2 => tb { D with nx := N, ct := N, bk := D.nx } σ2 H2) :=
  ⟨a, rfl, ⟨xs, hl 0 σ H1 (Nat.zero_le _) h0⟩, for_tup Pv h0 hl hs hd⟩
/-- the turns of a comprehension's walk over a list, whatever its body -/
theorem walkL {K : PySem.W.Frag} {a : Addr} {xs : List V} {Q : Hp → Prop} {Bd : V → Hp → (Hp → Prop) → Prop} {H0 : Hp} (Pv : Nat → Hp → Prop) (h0 : Pv 0 H0) (hl : ∀ i H, i ≤ xs.length → Pv i H → SqL K H a xs)
    (hs : ∀ (i : Nat) x H, xs[i]? = some x → Pv i H → Bd x H (Pv (i + 1))) (hd : ∀ H, Pv xs.length H → Q H) :
    ∃ W : Nat → Nat → Hp → Prop, (∃ m, W 0 m H0) ∧ ∀ i m H, W i m H → ((Itl K a).stop i H ∧ Q H) ∨ ((Itl K a).go i H ∧ ∃ N : Hp → Prop, (∀ H', N H' → ∃ m', m' < m ∧ W (i + 1) m' H') ∧ ∀ x H', (Itl K a).yld i H x H' → Bd x H' N) := by
  refine ⟨fun i m H => m + i = xs.length ∧ Pv i H, ⟨xs.length, rfl, h0⟩, ?_⟩
  rintro i m H ⟨hm, p⟩
  have here := hl i H (by omega) p
  by_cases lt : i < xs.length
  · refine .inr ⟨⟨xs, xs[i], here, by simp [lt]⟩, Pv (i + 1), fun H' p' => ⟨m - 1, by omega, by omega, p'⟩, fun x H' y => ?_⟩
    obtain ⟨e, y⟩ := y
    subst e
    exact hs i x _ (y xs here) p
  · obtain rfl : i = xs.length := by omega
    exact .inl ⟨⟨xs, here, Nat.le_refl _⟩, hd H p⟩
/-- the same over range(n) -/
theorem walkR {n : Nat} {Q : Hp → Prop} {Bd : V → Hp → (Hp → Prop) → Prop} {H0 : Hp} (Pv : Nat → Hp → Prop) (h0 : Pv 0 H0)
    (hs : ∀ (i : Nat) H, i < n → Pv i H → Bd (.int (i : Nat)) H (Pv (i + 1))) (hd : ∀ H, Pv n H → Q H) :
    ∃ W : Nat → Nat → Hp → Prop, (∃ m, W 0 m H0) ∧ ∀ i m H, W i m H → ((Itr 0 n).stop i H ∧ Q H) ∨ ((Itr 0 n).go i H ∧ ∃ N : Hp → Prop, (∀ H', N H' → ∃ m', m' < m ∧ W (i + 1) m' H') ∧ ∀ x H', (Itr 0 n).yld i H x H' → Bd x H' N) := by
  refine ⟨fun i m H => m + i = n ∧ Pv i H, ⟨n, rfl, h0⟩, ?_⟩
  rintro i m H ⟨hm, p⟩
  by_cases lt : i < n
  · refine .inr ⟨lt, Pv (i + 1), fun H' p' => ⟨m - 1, by omega, by omega, p'⟩, fun x H' y => ?_⟩
    obtain ⟨e1, e2⟩ := y
    subst e1
    subst e2
    rw [Int.zero_add]
    exact hs i _ lt p
  · obtain rfl : i = n := by omega
    exact .inl ⟨Nat.le_refl _, hd H p⟩
/-- key not in dict -/
def rNotInN (P : Program) (w : World) (K : PySem.W.Frag) : R2 := fun x y H Q => ∃ a p d xs, x = .ref a ∧ y = .ref p ∧ NDst P w H p xs ∧ NKeys K H xs ∧ plainK d = true ∧ (keyD d).depth ≤ 8 ∧ Dp K H (.ref a) d ∧ Q (.bl (!(nAt xs (keyD d)).isSome)) H
theorem op_notInN {X : Cx} (hu : X.A.units + 9 < cLine) : OpR X (compareOp .NotIn) (rNotInN X.prog X.w X.K) := by
  intro pins s σ H x y v u Q I rx ry h
  obtain ⟨a, p, d, xs, rfl, rfl, e, hk, pd, dd, hd, q⟩ := h
  cases rx
  cases ry
  obtain ⟨nm, ys, r, hm⟩ := Inv.nd I e hk
  obtain ⟨f1, f2⟩ := nrel_find (k := keyD d) r
  have room : (nestedKind X.prog X.w).room X.A.in1 := by
    show X.A.units + 1 + 8 < cLine
    omega
  refine wpAny_notIn_heap (k := keyD d) room ⟨dp_key I _ _ _ pd hd rfl, dd⟩ nm hm ?_
  have same : (atKey ys (keyD d)).isSome = (nAt xs (keyD d)).isSome := by
    cases z : nAt xs (keyD d) with
    | none =>
      rw [f1.mp z]
      rfl
    | some v =>
      obtain ⟨p2, z2, _⟩ := f2 v z
      rw [z2]
      rfl
  rw [same]
  exact ⟨.bl _, H, I.tok _, rfl, q⟩
mutual
theorem eqv_plain : ∀ a b : PyData, plainK a = true → plainK b = true → PyData.eqv a b = true → a = b
  | .int i, .int j, _, _, h => by
    have : i = j := by simpa [PyData.eqv] using h
    rw [this]
  | .str i, .str j, _, _, h => by
    have : i = j := by simpa [PyData.eqv] using h
    rw [this]
  | .tuple ds, .tuple es, h1, h2, h => by
    rw [eqvs_plain ds es (by simpa [plainK] using h1) (by simpa [plainK] using h2) (by simpa [PyData.eqv] using h)]
  | .int _, .str _, _, _, h => by simp [PyData.eqv] at h
  | .int _, .tuple _, _, _, h => by simp [PyData.eqv] at h
  | .str _, .int _, _, _, h => by simp [PyData.eqv] at h
  | .str _, .tuple _, _, _, h => by simp [PyData.eqv] at h
  | .tuple _, .int _, _, _, h => by simp [PyData.eqv] at h
  | .tuple _, .str _, _, _, h => by simp [PyData.eqv] at h
  | .none, _, h, _, _ => by simp [plainK] at h
  | .bool _, _, h, _, _ => by simp [plainK] at h
  | .list _, _, h, _, _ => by simp [plainK] at h
  | .dict _, _, h, _, _ => by simp [plainK] at h
  | _, .none, _, h, _ => by simp [plainK] at h
  | _, .bool _, _, h, _ => by simp [plainK] at h
  | _, .list _, _, h, _ => by simp [plainK] at h
  | _, .dict _, _, h, _ => by simp [plainK] at h
theorem eqvs_plain : ∀ a b : List PyData, plainKs a = true → plainKs b = true → PyData.eqvAll a b = true → a = b
  | [], [], _, _, _ => rfl
  | [], _ :: _, _, _, h => by simp [PyData.eqvAll] at h
  | _ :: _, [], _, _, h => by simp [PyData.eqvAll] at h
  | a :: as, b :: bs, h1, h2, h => by
    have h1' : plainK a = true ∧ plainKs as = true := by simpa [plainKs] using h1
    have h2' : plainK b = true ∧ plainKs bs = true := by simpa [plainKs] using h2
    have h' : PyData.eqv a b = true ∧ PyData.eqvAll as bs = true := by simpa [PyData.eqvAll] using h
    rw [eqv_plain a b h1'.1 h2'.1 h'.1, eqvs_plain as bs h1'.2 h2'.2 h'.2]
end
theorem cut_ints {ds : List Int} {a n : Nat} : ∃ ws : List Int, cutV (ds.map V.int) (some (a : Int)) (some ((a + n : Nat) : Int)) = ws.map V.int ∧ ws.length ≤ n ∧ (∀ w ∈ ws, w ∈ ds) ∧ (a + n ≤ ds.length → ws.length = n) := by
  unfold cutV
  rw [HT.sIx_nat, HT.sIx_nat]
  refine ⟨(ds.drop (min a (ds.map V.int).length)).take (min (a + n) (ds.map V.int).length - min a (ds.map V.int).length), by rw [List.map_take, List.map_drop], ?_, fun w h => List.mem_of_mem_drop (List.mem_of_mem_take h), fun h => ?_⟩
  · rw [List.length_take]
    omega
  · rw [List.length_take, List.length_drop, List.length_map]
    omega
theorem cut_tl {ws : List Int} : cutV (ws.map V.int) (some 1) none = (ws.drop 1).map V.int := by
  unfold cutV
  have h1 : HT.sIx (ws.map V.int).length 0 (some 1) = min 1 (ws.map V.int).length := HT.sIx_nat _ _ 1
  rw [h1]
  cases ws with
  | nil => rfl
  | cons w r =>
    have h2 : min 1 (List.map V.int (w :: r)).length = 1 := by simp
    rw [h2]
    show List.take ((List.map V.int (w :: r)).length - 1) (r.map V.int) = _
    rw [List.take_of_length_le (by simp)]
    rfl
theorem ite_nI {a : Int} {A B : Prop} (k : B) : if (!decide (a = a)) = true then A else B := by rw [decide_eq_true rfl]; exact k
theorem room65 {k : Nat} {A : Around} (r : Room k A) : A.units + 65 < cLine := by
  have := r.un
  omega
end
end Gx

set_option Elab.async false
set_option linter.all false
set_option maxRecDepth 100000
set_option maxHeartbeats 4000000
/-! tuples that are known to their object; dict of a tuple of pairs; a heap without one place -/
namespace Gx
open PySem PySem.Spec PyProof.Rows L2
section
variable {X : Cx} {es : List Expr} {t : TA}
def tTupF (t : TA) : TE := fun σ H Q => t σ H fun vs H1 => vs.length ≤ sizeLine ∧ ∀ l H', H1 l = none → Same H1 H' → KnT H' l vs → Q (.ref l) H'
theorem pe_tupF {x1} (h : PA X es t) : PE X (.Tuple es x1 pos) (tTupF t) := by
  constructor
  intro pins s σ H Q I hq
  refine wpAny_Tuple_spliced (thn (h.run pos pins s σ H _ I hq) fun us s1 hz => ?_)
  obtain ⟨xs, H1, I1, r, z, q⟩ := hz
  refine ⟨by rw [← r.length]; exact z, ?_⟩
  have nf : H1 s1.heap.objs.size = none := I1.hok.fresh (Nat.le_refl _)
  have at0 := Heap.get?_push_size s1.heap (o := ({ cls := .type "tuple", data := .seq us.toArray } : Obj)) rfl
  have ok : ObjOk X.prog X.w (upd H1 s1.heap.objs.size (.frz { cls := .type "tuple", data := .seq us.toArray } (.tup xs))) (s1.heap.push { cls := .type "tuple", data := .seq us.toArray }) s1.heap.objs.size (.frz { cls := .type "tuple", data := .seq us.toArray } (.tup xs)) :=
    ⟨at0, z, us, r, ⟨_, at0, rfl, _, rfl⟩⟩
  exact ⟨.ref s1.heap.objs.size, _, I1.laid (t' := s1.toks) (fun b u e => Heap.get?_push_of_some _ e) (Nat.le_refl _) ok, rfl, q _ _ nf (fun b o e => by rw [upd_ne (ne_of_none e nf)]; exact e) ⟨_, upd_same, rfl, rfl⟩⟩
theorem go_tupF {σ : L2.St} {H : Hp} {Q : VK} (h : t σ H fun vs H1 => vs.length ≤ sizeLine ∧ ∀ l H', H1 l = none → Same H1 H' → KnT H' l vs → Q (.ref l) H') : tTupF t σ H Q := h
/-- tuple(xs) of a list or a tuple -/
def qTupG (K : PySem.W.Frag) : List V → Hp → VK → Prop := fun xs H Q => ∃ p ys, xs = [.ref p] ∧ ((SqL K H p ys ∧ ∀ l H', H l = none → Same H H' → KnT H' l ys → Q (.ref l) H') ∨ (SqT K H p ys ∧ Q (.ref p) H))
theorem k_tupG : CallR X (.type "tuple") (qTupG X.K) := by
  intro pins s σ H args vals Q I rv h
  obtain ⟨p, ys, e, h⟩ := h
  rcases h with ⟨hl, q⟩ | ⟨ht, q⟩
  · exact k_tupF pins s σ H args vals Q I rv ⟨p, ys, e, hl, q⟩
  · exact k_tuple_of pins s σ H args vals Q I rv ⟨p, ys, e, .inr ⟨ht, q⟩⟩
theorem k_tupGK {K : PySem.W.Frag} (hK : X.K = K) : CallR X (.type "tuple") (qTupG K) := by subst hK; exact k_tupG
theorem go_tupGL {K : PySem.W.Frag} {H : Hp} {Q : VK} {a : Addr} {xs : List V} (hs : SqL K H a xs) (h : ∀ l H', H l = none → Same H H' → KnT H' l xs → Q (.ref l) H') : qTupG K [.ref a] H Q := ⟨a, xs, rfl, .inl ⟨hs, h⟩⟩
theorem go_tupGT {K : PySem.W.Frag} {H : Hp} {Q : VK} {a : Addr} {xs : List V} (hs : SqT K H a xs) (h : Q (.ref a) H) : qTupG K [.ref a] H Q := ⟨a, xs, rfl, .inr ⟨hs, h⟩⟩
/-- dict(xs) of a tuple of pairs -/
def qDictT (K : PySem.W.Frag) : List V → Hp → VK → Prop := fun xs H Q => ∃ (a : Addr) (ps : List Addr) (kvs : List (Key × V)), xs = [.ref a] ∧ KnT H a (ps.map V.ref) ∧ Paired (fun p kv => SqT K H p [kV kv.1, kv.2]) ps kvs ∧ ∀ p, H p = none → Q (.ref p) (upd H p (.dK (mergeK [] kvs)))
theorem call_dictT (hc : X.calm = true) : CallR X (.type "dict") (qDictT X.K) := by
  intro pins s σ H xs us Q I r h
  obtain ⟨a, ps, kvs, rfl, ht, hp, q⟩ := h
  obtain ⟨u, rfl, rx⟩ := vals1 r
  cases rx
  obtain ⟨ob, e, e1, e2⟩ := ht
  obtain ⟨g, z, its, rv, ob', g', _, n, g3⟩ := I.hok _ _ e
  rw [g] at g'
  cases g'
  have ei := refs_at rv
  subst ei
  rw [List.length_map] at z
  obtain ⟨prs, rel, hl, hpr⟩ := pairs_of I hp
  have pick : ∀ j : Nat, ∃ (b : Addr) (u : Value), ∀ q, prs[j]? = some q → ps[j]? = some b ∧ IsTup s.heap b #[u, q.2] ∧ keyIs q.1 u = true := fun j => by
    cases ez : prs[j]? with
    | none => exact ⟨0, .none, fun q h => by cases h⟩
    | some q =>
      obtain ⟨b, u, h1, h2, h3⟩ := hpr j q ez
      exact ⟨b, u, fun q' h => by cases h; exact ⟨h1, h2, h3⟩⟩
  obtain ⟨Ts, pick⟩ := Classical.axiomOfChoice pick
  obtain ⟨kf, pick⟩ := Classical.axiomOfChoice pick
  obtain ⟨pvs, hpv⟩ : ∃ pvs : List (Value × Value), pvs = (prs.zipIdx).map fun p => (kf p.2, p.1.2) := ⟨_, rfl⟩
  have pl : pvs.length = prs.length := by rw [hpv, List.length_map, List.length_zipIdx]
  have pat : ∀ (i : Nat) k v, pvs[i]? = some (k, v) → ∃ p, prs[i]? = some p ∧ k = kf i ∧ v = p.2 := fun i k v hi => by
    rw [hpv, List.getElem?_map, List.getElem?_zipIdx] at hi
    cases ez : prs[i]? with
    | none => rw [ez] at hi; cases hi
    | some p =>
      rw [ez] at hi
      have hi : some (kf (0 + i), p.2) = some (k, v) := hi
      rw [Nat.zero_add] at hi
      cases hi
      exact ⟨p, rfl, rfl, rfl⟩
  have ok : PlainSeq "tuple" s.heap a (ps.map Value.ref).toArray ∧ PairItems s.heap (ps.map Value.ref).toArray Ts pvs := by
    refine ⟨⟨ob, n, g, e1, e2, g3⟩, by simp [pl, hl], fun j k v hj => ?_⟩
    obtain ⟨p, ez, rfl, rfl⟩ := pat j k v hj
    obtain ⟨h1, h2, _⟩ := pick j p ez
    exact ⟨by simp [h1], .inl h2⟩
  refine PySem.call_dict_pairs (knd := mixKind X.prog X.w) (kvs := prs) (PairArg.tuple a (ps.map Value.ref).toArray Ts pvs) (I.ok.hd hc) ok ⟨by rw [pl], fun i k v hi => ?_⟩ (by rw [pl, hl]; exact z) fun h' tk hd' kp => ?_
  · obtain ⟨p, ez, rfl, rfl⟩ := pat i k v hi
    exact ⟨p.1, ez, (pick i p ez).2.2⟩
  · have hm : (s.heap.objs.size == sysModules) = false := beq_eq_false_iff_ne.mpr (Nat.ne_of_gt I.big)
    have hlen : (mergeK [] kvs).length ≤ sizeLine := by
      refine Nat.le_trans (length_mergeK kvs []) ?_
      rw [List.length_nil, Nat.zero_add, rel.length, hl]
      exact z
    exact ⟨.ref s.heap.objs.size, upd H s.heap.objs.size (.dK (mergeK [] kvs)), I.laid (t' := tk) (fun b o e => kp b o (fun z => nomatch z) e) (Nat.le_refl _) (show ObjOk X.prog X.w _ _ _ (.dK (mergeK [] kvs)) from ⟨hlen, hm, merged [] prs, KV.merge rel .nil, hd'⟩), rfl, q _ (I.hok.fresh (Nat.le_refl _))⟩
def qDictD : List V → Hp → VK → Prop := fun xs H Q => ∃ (a : Addr) (kvs : List (Key × V)), xs = [.ref a] ∧ Rd H a (.dK kvs) ∧ ∀ p, H p = none → Q (.ref p) (upd H p (.dK kvs))
theorem call_dictC : CallR X (.type "dict") qDictD := call_dictD
theorem go_dictD {H : Hp} {Q : VK} {a : Addr} {kvs : List (Key × V)} (h : H a = some (.dK kvs)) (q : ∀ p, H p = none → Q (.ref p) (upd H p (.dK kvs))) : qDictD [.ref a] H Q := ⟨a, kvs, rfl, .inl h, q⟩
end
theorem go_iRevA {K : PySem.W.Frag} {te : TE} {σ : L2.St} {H : Hp} {R : It → Hp → Prop} (h : te σ H fun v H1 => ∃ (a : Addr) (xs : List V), v = .ref a ∧ ((SqL K H1 a xs ∧ R (Itv K a xs.length) H1) ∨ (SqT K H1 a xs ∧ R (RT.ItvT K a xs.length) H1))) : RT.iRevA K te σ H R := h
theorem foRevT {K : PySem.W.Frag} {σ : L2.St} {H1 : Hp} {g : TG} {D : Ends} {tb : TS} {a : Addr} (xs : List V) (Pv : Nat → L2.St → Hp → Prop) (hs0 : SqT K H1 a xs) (h0 : Pv 0 σ H1) (hl : ∀ i σ H, Pv i σ H → SqT K H a xs)
    (hs : ∀ (i : Nat) (x : V) (σ : L2.St) (H : Hp), i < xs.length → xs[xs.length - 1 - i]? = some x → Pv i σ H → g x σ H fun σ2 H2 => tb { D with nx := Pv (i + 1), ct := Pv (i + 1), bk := D.nx } σ2 H2) (hd : ∀ σ H, Pv xs.length σ H → D.nx σ H) :
    ∃ (b : Addr) (ys : List V), V.ref a = .ref b ∧ ((SqL K H1 b ys ∧ ∃ W : Nat → Nat → L2.St → Hp → Prop, (∃ m, W 0 m σ H1) ∧ ∀ i m σ H, W i m σ H →
      ((Itv K b ys.length).stop i H ∧ D.nx σ H) ∨ ((Itv K b ys.length).go i H ∧ ∃ N : L2.St → Hp → Prop, (∀ σ' H', N σ' H' → ∃ m', m' < m ∧ W (i + 1) m' σ' H') ∧ ∀ v H', (Itv K b ys.length).yld i H v H' → g v σ H' fun σ2 H2 => tb { D with nx := N, ct := N, bk := D.nx } σ2 H2)) ∨
      (SqT K H1 b ys ∧ ∃ W : Nat → Nat → L2.St → Hp → Prop, (∃ m, W 0 m σ H1) ∧ ∀ i m σ H, W i m σ H →
      ((RT.ItvT K b ys.length).stop i H ∧ D.nx σ H) ∨ ((RT.ItvT K b ys.length).go i H ∧ ∃ N : L2.St → Hp → Prop, (∀ σ' H', N σ' H' → ∃ m', m' < m ∧ W (i + 1) m' σ' H') ∧ ∀ v H', (RT.ItvT K b ys.length).yld i H v H' → g v σ H' fun σ2 H2 => tb { D with nx := N, ct := N, bk := D.nx } σ2 H2))) :=
  ⟨a, xs, rfl, .inr ⟨hs0, RT.for_ItvT Pv h0 hl hs hd⟩⟩
theorem put_new {kvs : List (Key × V)} {k : Key} {v : V} (h : ∀ p ∈ kvs, p.1 ≠ k) : putK kvs k v = kvs ++ [(k, v)] := by
  unfold putK
  rw [if_neg]
  intro z
  obtain ⟨p, hp, e⟩ := List.any_eq_true.mp z
  exact h p hp (of_decide_eq_true e)
/-- no key twice: the dict of the pairs -/
theorem merge_nodup : ∀ (kvs acc : List (Key × V)), ((acc ++ kvs).map (·.1)).Nodup → mergeK acc kvs = acc ++ kvs
  | [], acc, _ => (List.append_nil acc).symm
  | p :: r, acc, h => by
    have e : mergeK acc (p :: r) = mergeK (putK acc p.1 p.2) r := rfl
    rw [e, put_new, merge_nodup r (acc ++ [(p.1, p.2)]) (by rw [List.append_assoc]; exact h), List.append_assoc]
    · rfl
    · intro x hx e
      rw [List.map_append, List.map_cons] at h
      exact (List.nodup_append.mp h).2.2 x.1 (List.mem_map.mpr ⟨x, hx, rfl⟩) p.1 List.mem_cons_self e
/-- the heap without one place -/
def Hm (H : Hp) (b : Addr) : Hp := fun a => if a = b then none else H a
theorem hm_same {H H' : Hp} {b : Addr} (B : But b H H') : Same (Hm H b) (Hm H' b) := fun a o e => by
  unfold Hm at e ⊢
  split at e
  · cases e
  · rename_i n
    rw [if_neg n]
    exact B a o n e
theorem hm_sub {H : Hp} {b : Addr} : Same (Hm H b) H := fun a o e => by
  unfold Hm at e
  split at e
  · cases e
  · exact e
theorem hm_at {H : Hp} {a b : Addr} {o : HO} (n : a ≠ b) (e : H a = some o) : Hm H b a = some o := by
  unfold Hm
  rw [if_neg n]
  exact e
theorem hm_none {H : Hp} {a b : Addr} (e : H a = none) : Hm H b a = none := by
  unfold Hm
  split
  · rfl
  · exact e
theorem hm_upd {H : Hp} {a b : Addr} {o : HO} (n : a ≠ b) : Hm (upd H a o) b = upd (Hm H b) a o := by
  funext c
  unfold Hm
  by_cases h : c = b
  · subst h
    rw [if_pos rfl, upd_ne n.symm, if_pos rfl]
  · rw [if_neg h]
    by_cases h2 : c = a
    · subst h2
      rw [upd_same, upd_same]
    · rw [upd_ne h2, upd_ne h2, if_neg h]
/-- data that hold no list stand in the heap without a place that is no tuple -/
theorem dp_hm {K : PySem.W.Frag} {H : Hp} {b : Addr} (hn : ∀ xs, H b ≠ some (.tup xs)) (hf : ∀ o u, H b ≠ some (.frz o u)) {d : PyData} {v : V} (n : noL d = true) (h : Dp K H v d) : Dp K (Hm H b) v d :=
  dp_ext (fun c xs e => hm_at (fun (z : c = b) => hn xs (by rw [← z]; exact e)) e) (fun c o u e => hm_at (fun (z : c = b) => hf o u (by rw [← z]; exact e)) e) d v n h
end Gx

set_option Elab.async false
set_option linter.all false
set_option maxRecDepth 100000
set_option maxHeartbeats 4000000
/-! comprehensions over range with any invariant; made elements told as data -/
namespace Gx
open PySem PySem.Spec PyProof.Rows L2
section
variable {K : PySem.W.Frag} {σ : L2.St} {H H1 : Hp} {Q : VK} {te : TE} {vs : List Nat} {j : Nat}
/-- [e for x in range(n)], behind the reading of n: any invariant -/
theorem lcRI {R : Addr → Hp → Prop} {n : Int} (hn : -(2 ^ 62) ≤ n ∧ n < 2 ^ 62) (hw : ∀ x, wipe ((wipe σ vs).set j x) vs = wipe σ vs)
    (h : ∀ D, H1 D = none → ∃ W : Nat → Hp → Prop, W 0 (upd H1 D (.lst [])) ∧
      (∀ (i : Nat) H', (i : Int) < n → W i H' → te ((wipe σ vs).set j (some (.int i))) H' fun y H4 => ∃ acc, H4 D = some (.lst acc) ∧ acc.length < sizeLine ∧ W (i + 1) (upd H4 D (.lst (acc ++ [y])))) ∧ ∀ H', W n.toNat H' → R D H') :
    ∃ k : Int, [V.int n] = [.int k] ∧ -(2 ^ 62) ≤ k ∧ k < 2 ^ 62 ∧ ∀ D, H1 D = none → ∃ W : Nat → Nat → Hp → Prop, (∃ m, W 0 m (upd H1 D (.lst []))) ∧ ∀ i m H, W i m H →
      ((Itr 0 k.toNat).stop i H ∧ R D H) ∨ ((Itr 0 k.toNat).go i H ∧ ∃ Nx : Hp → Prop, (∀ H', Nx H' → ∃ m', m' < m ∧ W (i + 1) m' H') ∧ ∀ x H', (Itr 0 k.toNat).yld i H x H' → gName j x (wipe σ vs) H' fun σ2 H2 => wipe σ2 vs = wipe σ vs ∧ tYes σ2 H2 fun b H3 =>
        if b = true then te σ2 H3 fun y H4 => ∃ acc, H4 D = some (.lst acc) ∧ acc.length < sizeLine ∧ Nx (upd H4 D (.lst (acc ++ [y]))) else Nx H3) := by
  refine ⟨n, rfl, hn.1, hn.2, fun D hD => ?_⟩
  obtain ⟨W, w0, ws, wd⟩ := h D hD
  refine lc_range (lo := 0) (n := n.toNat) W w0 (fun i H hi p => ?_) wd
  refine ⟨hw _, ?_⟩
  refine go_yes ?_
  refine iteT ?_
  rw [Int.zero_add]
  exact ws i H (by omega) p
theorem dpAll_snoc {ds : List PyData} {vs : List V} {v : V} {d : PyData} (h : DpAll K H vs ds) (hd : Dp K H v d) : DpAll K H (vs ++ [v]) (ds ++ [d]) := dpAll_append h (.cons hd .nil)
theorem noLAll_app : ∀ {a b : List PyData}, noLAll a = true → noLAll b = true → noLAll (a ++ b) = true
  | [], _, _, hb => hb
  | x :: a, b, ha, hb => by
    rw [List.cons_append]
    have h : (noL x && noLAll a) = true := ha
    show (noL x && noLAll (a ++ b)) = true
    rw [Bool.and_eq_true] at h ⊢
    exact ⟨h.1, noLAll_app h.2 hb⟩
theorem get_snoc {α : Type} {G : Nat → α → Prop} {ds : List α} {d : α} (h : ∀ i d, ds[i]? = some d → G i d) (hd : G ds.length d) : ∀ i x, (ds ++ [d])[i]? = some x → G i x := fun i x hx => by
  rcases Nat.lt_or_ge i ds.length with z | z
  · rw [List.getElem?_append_left z] at hx
    exact h i x hx
  · rw [List.getElem?_append_right z] at hx
    rcases Nat.eq_or_lt_of_le z with e | e
    · rw [← e, Nat.sub_self] at hx
      cases hx
      exact e ▸ hd
    · rw [List.getElem?_eq_none (by simp; omega)] at hx
      cases hx
/-- the same, its elements told as data; a pool turns -/
theorem lcPD {R : Addr → Hp → Prop} {n : Int} {p : Pl} {b : Int} (G : Nat → PyData → Prop) (hp : Pool H1 p b) (hz : n ≤ 100000) (hn : -(2 ^ 62) ≤ n) (hw : ∀ x, wipe ((wipe σ vs).set j x) vs = wipe σ vs)
    (he : ∀ (i : Nat) H', (i : Int) < n → Turn p b H1 H' → ∀ R : VK, (∀ y H'' d, Turn p b H' H'' → G i d → noL d = true → Dp K H'' y d → R y H'') → te ((wipe σ vs).set j (some (.int i))) H' R)
    (q : ∀ D (ys : List V) (ds : List PyData) H2, H1 D = none → Turn p b H1 H2 → H2 D = some (.lst ys) → ds.length = n.toNat → DpAll K H2 ys ds → (∀ i d, ds[i]? = some d → G i d) → noLAll ds = true → R D H2) :
    ∃ k : Int, [V.int n] = [.int k] ∧ -(2 ^ 62) ≤ k ∧ k < 2 ^ 62 ∧ ∀ D, H1 D = none → ∃ W : Nat → Nat → Hp → Prop, (∃ m, W 0 m (upd H1 D (.lst []))) ∧ ∀ i m H, W i m H →
      ((Itr 0 k.toNat).stop i H ∧ R D H) ∨ ((Itr 0 k.toNat).go i H ∧ ∃ Nx : Hp → Prop, (∀ H', Nx H' → ∃ m', m' < m ∧ W (i + 1) m' H') ∧ ∀ x H', (Itr 0 k.toNat).yld i H x H' → gName j x (wipe σ vs) H' fun σ2 H2 => wipe σ2 vs = wipe σ vs ∧ tYes σ2 H2 fun b H3 =>
        if b = true then te σ2 H3 fun y H4 => ∃ acc, H4 D = some (.lst acc) ∧ acc.length < sizeLine ∧ Nx (upd H4 D (.lst (acc ++ [y]))) else Nx H3) := by
  refine lcRI ⟨hn, by omega⟩ hw fun D hD => ?_
  have nD : D ≠ p.a := hp.nea hD
  refine ⟨fun i H' => Turn p b H1 H' ∧ ∃ (ys : List V) (ds : List PyData), H' D = some (.lst ys) ∧ ds.length = i ∧ DpAll K H' ys ds ∧ (∀ i d, ds[i]? = some d → G i d) ∧ noLAll ds = true, ⟨(Turn.refl hp).new hD, [], [], upd_same, rfl, .nil, (fun i d h => by cases h), rfl⟩, ?_, ?_⟩
  · rintro i H' hi ⟨t, ys, ds, e, hl, hd, hg, hno⟩
    refine he i H' hi t _ fun y H4 d t4 gd nd dd => ?_
    have e4 := t4.but D _ nD e
    have d4 : DpAll K H4 ys ds := dpAll_but (l := p.a) t.pool.there.choose_spec t4.but ds ys hno hd
    refine ⟨ys, e4, szlt (by rw [dpAll_len hd]; omega), Turn.mut hp hD (t.trans t4), ys ++ [y], ds ++ [d], upd_same, by simp [hl], ?_, get_snoc hg (by rw [hl]; exact gd), noLAll_app hno (by show (noL d && true) = true; rw [nd]; rfl)⟩
    exact dpAll_snoc (dpAll_put e4 ds ys hno d4) (dp_put e4 d y nd dd)
  · rintro H' ⟨t, ys, ds, e, hl, hd, hg, hno⟩
    exact q D ys ds H' hD t e hl hd hg hno
/-- [e for x in a list], any target, any invariant -/
theorem lcLW {R : Addr → Hp → Prop} {g : TG} {a : Addr} (xs : List V) (hs : SqL K H1 a xs)
    (h : ∀ D, H1 D = none → ∃ W : Nat → Hp → Prop, W 0 (upd H1 D (.lst [])) ∧ (∀ i H', W i H' → SqL K H' a xs) ∧
      (∀ (i : Nat) x H', xs[i]? = some x → W i H' → g x (wipe σ vs) H' fun σ2 H2 => wipe σ2 vs = wipe σ vs ∧ tYes σ2 H2 fun b H3 => if b = true then te σ2 H3 fun y H4 => ∃ acc, H4 D = some (.lst acc) ∧ acc.length < sizeLine ∧ W (i + 1) (upd H4 D (.lst (acc ++ [y]))) else W (i + 1) H3) ∧ ∀ H', W xs.length H' → R D H') :
    ∃ b, V.ref a = .ref b ∧ (∃ xs, SqL K H1 b xs) ∧ ∀ D, H1 D = none → ∃ W : Nat → Nat → Hp → Prop, (∃ m, W 0 m (upd H1 D (.lst []))) ∧ ∀ i m H, W i m H →
      ((Itl K b).stop i H ∧ R D H) ∨ ((Itl K b).go i H ∧ ∃ Nx : Hp → Prop, (∀ H', Nx H' → ∃ m', m' < m ∧ W (i + 1) m' H') ∧ ∀ x H', (Itl K b).yld i H x H' → g x (wipe σ vs) H' fun σ2 H2 => wipe σ2 vs = wipe σ vs ∧ tYes σ2 H2 fun b H3 =>
        if b = true then te σ2 H3 fun y H4 => ∃ acc, H4 D = some (.lst acc) ∧ acc.length < sizeLine ∧ Nx (upd H4 D (.lst (acc ++ [y]))) else Nx H3) := by
  refine ⟨a, rfl, ⟨xs, hs⟩, fun D hD => ?_⟩
  obtain ⟨W, w0, wl, ws, wd⟩ := h D hD
  refine lc_list (xs := xs) W w0 (fun i H _ p => wl i H p) ws wd
/-- [e for x in a tuple], any target, any invariant -/
theorem lcTW {R : Addr → Hp → Prop} {g : TG} {a : Addr} (xs : List V) (hs : SqT K H1 a xs)
    (h : ∀ D, H1 D = none → ∃ W : Nat → Hp → Prop, W 0 (upd H1 D (.lst [])) ∧ (∀ i H', W i H' → SqT K H' a xs) ∧
      (∀ (i : Nat) x H', xs[i]? = some x → W i H' → g x (wipe σ vs) H' fun σ2 H2 => wipe σ2 vs = wipe σ vs ∧ tYes σ2 H2 fun b H3 => if b = true then te σ2 H3 fun y H4 => ∃ acc, H4 D = some (.lst acc) ∧ acc.length < sizeLine ∧ W (i + 1) (upd H4 D (.lst (acc ++ [y]))) else W (i + 1) H3) ∧ ∀ H', W xs.length H' → R D H') :
    ∃ b, V.ref a = .ref b ∧ (∃ xs, SqT K H1 b xs) ∧ ∀ D, H1 D = none → ∃ W : Nat → Nat → Hp → Prop, (∃ m, W 0 m (upd H1 D (.lst []))) ∧ ∀ i m H, W i m H →
      ((Itt K b).stop i H ∧ R D H) ∨ ((Itt K b).go i H ∧ ∃ Nx : Hp → Prop, (∀ H', Nx H' → ∃ m', m' < m ∧ W (i + 1) m' H') ∧ ∀ x H', (Itt K b).yld i H x H' → g x (wipe σ vs) H' fun σ2 H2 => wipe σ2 vs = wipe σ vs ∧ tYes σ2 H2 fun b H3 =>
        if b = true then te σ2 H3 fun y H4 => ∃ acc, H4 D = some (.lst acc) ∧ acc.length < sizeLine ∧ Nx (upd H4 D (.lst (acc ++ [y]))) else Nx H3) := by
  refine ⟨a, rfl, ⟨xs, hs⟩, fun D hD => ?_⟩
  obtain ⟨W, w0, wl, ws, wd⟩ := h D hD
  refine lc_tup (xs := xs) W w0 (fun i H _ p => wl i H p) ws wd
theorem sqL_butI {c C dx a : Addr} {fs : List (Str × V)} {xs : List V} (hc : H c = some (.ins C dx fs)) (B : But c H H1) (h : SqL K H a xs) : SqL K H1 a xs := by
  rcases h with (h | ⟨o, h⟩) | h
  · exact .inl (.inl (B _ _ (fun z => by rw [z, hc] at h; cases h) h))
  · exact .inl (.inr ⟨o, B _ _ (fun z => by rw [z, hc] at h; cases h) h⟩)
  · exact .inr h
theorem sqT_butI {c C dx a : Addr} {fs : List (Str × V)} {xs : List V} (hc : H c = some (.ins C dx fs)) (B : But c H H1) (h : SqT K H a xs) : SqT K H1 a xs := by
  rcases h with (h | ⟨o, h⟩) | h
  · exact .inl (.inl (B _ _ (fun z => by rw [z, hc] at h; cases h) h))
  · exact .inl (.inr ⟨o, B _ _ (fun z => by rw [z, hc] at h; cases h) h⟩)
  · exact .inr h
mutual
/-- data outlast a write at an instance -/
theorem dp_butI {c C dx : Addr} {fs : List (Str × V)} (hc : H c = some (.ins C dx fs)) (B : But c H H1) : ∀ (d : PyData) (v : V), Dp K H v d → Dp K H1 v d
  | .none, _, h => by cases h; exact .non
  | .bool _, _, h => by cases h; exact .bl _
  | .int _, _, h => by cases h; exact .int _
  | .str _, _, h => by cases h; exact .str _
  | .list ds, _, h => by cases h with | lst e a => exact .lst (sqL_butI hc B e) (dpAll_butI hc B ds _ a)
  | .tuple ds, _, h => by cases h with | tup e a => exact .tup (sqT_butI hc B e) (dpAll_butI hc B ds _ a)
  | .dict _, _, h => by cases h
theorem dpAll_butI {c C dx : Addr} {fs : List (Str × V)} (hc : H c = some (.ins C dx fs)) (B : But c H H1) : ∀ (ds : List PyData) (vs : List V), DpAll K H vs ds → DpAll K H1 vs ds
  | [], _, h => by cases h; exact .nil
  | d :: ds, _, h => by cases h with | cons e a => exact .cons (dp_butI hc B d _ e) (dpAll_butI hc B ds _ a)
end
theorem dp_lst {v : V} {ds : List PyData} (h : Dp K H v (.list ds)) : ∃ a xs, v = .ref a ∧ SqL K H a xs ∧ DpAll K H xs ds := by
  cases h with | lst e a => exact ⟨_, _, rfl, e, a⟩
/-- told by a map -/
theorem map_of {α : Type} {f : α → PyData} {P : α → Prop} : ∀ {ds : List PyData}, (∀ (i : Nat) d, ds[i]? = some d → ∃ p, d = f p ∧ P p) → ∃ c : List α, ds = c.map f ∧ ∀ p ∈ c, P p
  | [], _ => ⟨[], rfl, fun _ h => nomatch h⟩
  | d :: ds, h => by
    obtain ⟨p, e, hp⟩ := h 0 d rfl
    obtain ⟨c, e2, h2⟩ := map_of (f := f) (P := P) (ds := ds) fun i d hd => h (i + 1) d hd
    refine ⟨p :: c, by rw [e, e2, List.map_cons], fun z hz => ?_⟩
    rcases List.mem_cons.mp hz with rfl | hz
    · exact hp
    · exact h2 z hz
theorem dpAll_ints {ns : List Int} {xs : List V} (h : DpAll K H xs (ns.map PyData.int)) : xs = ns.map V.int := by
  induction ns generalizing xs with
  | nil => cases h; rfl
  | cons n r ih => cases h with | cons e a => cases e; rw [ih a]; rfl
theorem dpAll_of : ∀ {ds : List PyData} {vs : List V}, vs.length = ds.length → (∀ (i : Nat) d, ds[i]? = some d → ∃ v, vs[i]? = some v ∧ Dp K H v d) → DpAll K H vs ds
  | [], [], _, _ => .nil
  | [], _ :: _, h, _ => nomatch h
  | _ :: _, [], h, _ => nomatch h
  | d :: ds, v :: vs, h, g => by
    obtain ⟨w, e, hw⟩ := g 0 d rfl
    cases e
    exact .cons hw (dpAll_of (Nat.succ.inj h) fun i d hd => g (i + 1) d hd)
/-- what was there before a fresh instance was written -/
theorem same_butF {c : Addr} {H2 : Hp} (s : Same H H1) (n : H c = none) (B : But c H1 H2) : Same H H2 := fun b o e => B b o (fun z => by rw [z, n] at e; cases e) (s b o e)
theorem go_extend {l b : Addr} {xs zs : List V} (e : H l = some (.lst xs)) (hb : H b = some (.lst zs)) (hz : xs.length + zs.length ≤ 100000) (h : Q .non (upd H l (.lst (xs ++ zs)))) : rExtend (.ref l) [.ref b] H Q := ⟨l, b, xs, zs, rfl, rfl, e, hb, sz hz, h⟩
end
end Gx

set_option Elab.async false
set_option linter.all false
set_option maxRecDepth 100000
set_option maxHeartbeats 4000000
/-! walks over what is a list or a tuple; range(a, b) -/
namespace L2
open PySem PySem.Spec PyProof.Rows
section
variable {X : Cx} {tg : Expr}
def iSeq (K : PySem.W.Frag) (tl : TE) : TI := fun σ H R => tl σ H fun x H1 => ∃ a, x = .ref a ∧ (((∃ xs, SqL K H1 a xs) ∧ R (Itl K a) H1) ∨ ((∃ xs, SqT K H1 a xs) ∧ R (Itt K a) H1))
theorem pi_seq {l : Expr} {tl : TE} (hl : PE X l tl) : PI X tg l (iSeq X.K tl) := by
  refine ⟨fun pins s σ H R I h => ?_⟩
  refine thn (hl.run pins s σ H _ I h) fun v s1 ⟨x, H1, I1, r1, q1⟩ => ?_
  obtain ⟨a, e, q1⟩ := q1
  subst e
  cases r1
  rcases q1 with ⟨⟨xs, hq⟩, q⟩ | ⟨⟨xs, hq⟩, q⟩
  · obtain ⟨its, rv, p, hz⟩ := I1.list hq
    refine wpAny_pyIter_list p.isList ?_
    refine ⟨s1.heap.objs.size, [s1.heap.objs.size], _, _, H1, rfl, I1.kept (t' := s1.toks) fun b o e => Heap.get?_push_of_some _ e, turn_list a _, ⟨_, Heap.get?_push_size _ rfl, rfl, rfl⟩, fun b hb => ?_, q⟩
    have e : b = s1.heap.objs.size := by simpa using hb
    subst e
    exact I1.fpOk (Nat.le_refl _) (I1.hok.fresh (Nat.le_refl _))
  · obtain ⟨its, rv, p, hz⟩ := I1.tuple hq
    refine wpAny_pyIter_tuple (show s1.heap.IsTuple a its.toArray from p) ?_
    refine ⟨s1.heap.objs.size, [s1.heap.objs.size], _, _, H1, rfl, I1.kept (t' := s1.toks) fun b o e => Heap.get?_push_of_some _ e, turn_tuple a _, ⟨_, Heap.get?_push_size _ rfl, rfl, rfl⟩, fun b hb => ?_, q⟩
    have e : b = s1.heap.objs.size := by simpa using hb
    subst e
    exact I1.fpOk (Nat.le_refl _) (I1.hok.fresh (Nat.le_refl _))
end
end L2
namespace Gx
open PySem PySem.Spec PyProof.Rows L2
section
variable {K : PySem.W.Frag} {σ : L2.St} {H H1 : Hp} {g : TG}
theorem go_iSeq {tl : TE} {R : It → Hp → Prop} (h : tl σ H fun x H1 => ∃ a, x = .ref a ∧ (((∃ xs, SqL K H1 a xs) ∧ R (Itl K a) H1) ∨ ((∃ xs, SqT K H1 a xs) ∧ R (Itt K a) H1))) : iSeq K tl σ H R := h
/-- for x in a list or a tuple -/
theorem foSq {D : Ends} {tb : TS} {a : Addr} (xs : List V) (b0 : Bool) (Pv : Nat → L2.St → Hp → Prop) (h0 : Pv 0 σ H1) (hl : ∀ i σ H, i ≤ xs.length → Pv i σ H → if b0 = true then SqL K H a xs else SqT K H a xs)
    (hs : ∀ i x σ H, xs[i]? = some x → Pv i σ H → g x σ H fun σ2 H2 => tb { D with nx := Pv (i + 1), ct := Pv (i + 1), bk := D.nx } σ2 H2) (hd : ∀ σ H, Pv xs.length σ H → D.nx σ H) :
    ∃ b, V.ref a = .ref b ∧ (((∃ xs, SqL K H1 b xs) ∧ ∃ W : Nat → Nat → L2.St → Hp → Prop, (∃ m, W 0 m σ H1) ∧ ∀ i m σ H, W i m σ H →
      ((Itl K b).stop i H ∧ D.nx σ H) ∨ ((Itl K b).go i H ∧ ∃ N : L2.St → Hp → Prop, (∀ σ' H', N σ' H' → ∃ m', m' < m ∧ W (i + 1) m' σ' H') ∧ ∀ x H', (Itl K b).yld i H x H' → g x σ H' fun σ2 H2 => tb { D with nx := N, ct := N, bk := D.nx } σ2 H2)) ∨
      ((∃ xs, SqT K H1 b xs) ∧ ∃ W : Nat → Nat → L2.St → Hp → Prop, (∃ m, W 0 m σ H1) ∧ ∀ i m σ H, W i m σ H →
      ((Itt K b).stop i H ∧ D.nx σ H) ∨ ((Itt K b).go i H ∧ ∃ N : L2.St → Hp → Prop, (∀ σ' H', N σ' H' → ∃ m', m' < m ∧ W (i + 1) m' σ' H') ∧ ∀ x H', (Itt K b).yld i H x H' → g x σ H' fun σ2 H2 => tb { D with nx := N, ct := N, bk := D.nx } σ2 H2))) := by
  refine ⟨a, rfl, ?_⟩
  cases b0 with
  | true =>
    have hl : ∀ i σ H, i ≤ xs.length → Pv i σ H → SqL K H a xs := fun i σ H h p => by have := hl i σ H h p; rw [if_pos rfl] at this; exact this
    exact .inl ⟨⟨xs, hl 0 σ H1 (Nat.zero_le _) h0⟩, for_list Pv h0 hl hs hd⟩
  | false =>
    have hl : ∀ i σ H, i ≤ xs.length → Pv i σ H → SqT K H a xs := fun i σ H h p => by have := hl i σ H h p; rw [if_neg Bool.false_ne_true] at this; exact this
    exact .inr ⟨⟨xs, hl 0 σ H1 (Nat.zero_le _) h0⟩, for_tup Pv h0 hl hs hd⟩
/-- for x in range(a, b), behind the reading of a, b -/
theorem foR2 {D : Ends} {tb : TS} {l n : Int} (Pv : Nat → L2.St → Hp → Prop) (hn : -(2 ^ 62) ≤ l ∧ l < 2 ^ 62 ∧ -(2 ^ 62) ≤ n ∧ n < 2 ^ 62) (h0 : Pv 0 σ H1)
    (hs : ∀ (i : Nat) σ H, l + (i : Int) < n → Pv i σ H → g (.int (l + i)) σ H fun σ2 H2 => tb { D with nx := Pv (i + 1), ct := Pv (i + 1), bk := D.nx } σ2 H2) (hd : ∀ σ H, Pv (n - l).toNat σ H → D.nx σ H) :
    ∃ i j : Int, [V.int l, V.int n] = [.int i, .int j] ∧ (-(2 ^ 62) ≤ i ∧ i < 2 ^ 62 ∧ -(2 ^ 62) ≤ j ∧ j < 2 ^ 62) ∧ ∃ W : Nat → Nat → L2.St → Hp → Prop, (∃ m, W 0 m σ H1) ∧ ∀ k m σ H, W k m σ H →
      ((Itr i (j - i).toNat).stop k H ∧ D.nx σ H) ∨ ((Itr i (j - i).toNat).go k H ∧ ∃ N : L2.St → Hp → Prop, (∀ σ' H', N σ' H' → ∃ m', m' < m ∧ W (k + 1) m' σ' H') ∧ ∀ x H', (Itr i (j - i).toNat).yld k H x H' → g x σ H' fun σ2 H2 => tb { D with nx := N, ct := N, bk := D.nx } σ2 H2) :=
  ⟨l, n, rfl, hn, for_range Pv h0 (fun i σ H hi p => hs i σ H (by omega) p) hd⟩
end
end Gx

local macro_rules | `(tactic| walk_at "side") => `(tactic| first | decide | omega | assumption | exact Or.inl ⟨by decide, by decide⟩ | exact Or.inr ⟨by decide, by decide⟩ | exact Or.inl ⟨by omega, by omega⟩ | exact Or.inr ⟨by omega, by omega⟩ | (refine ⟨?_, ?_⟩ <;> first | decide | omega | assumption))
local macro_rules | `(tactic| walk_at "go1") => `(tactic| first
  | with_reducible refine Gx.go_seq ?_
  | with_reducible refine Gx.go_asg ?_
  | with_reducible refine Gx.go_name ?_
  | with_reducible refine Gx.go_var rfl ?_
  | with_reducible refine Gx.go_c ?_
  | with_reducible refine Gx.go_op ?_
  | with_reducible refine Gx.go_rI0 ?_
  | ((with_reducible refine Gx.go_rI ?k1 ?k2); (case k1 => walk_at "side"))
  | with_reducible refine Gx.go_test ?_
  | with_reducible refine Gx.go_if ?_
  | with_reducible refine Gx.go_cons ?_
  | with_reducible refine Gx.go_nil ?_
  | with_reducible refine Gx.go_CB ?_
  | with_reducible refine Gx.go_call ?_
  | with_reducible refine Gx.go_eqI ?_
  | with_reducible refine Gx.go_neI ?_
  | with_reducible refine Gx.go_eqS ?_
  | with_reducible refine Gx.go_neS ?_
  | with_reducible refine Gx.go_eqB ?_
  | with_reducible refine Gx.go_neB ?_
  | with_reducible refine Gx.go_eqN ?_
  | with_reducible refine Gx.ite_dt ?_
  | with_reducible refine Gx.go_ret ?_
  | with_reducible refine Gx.go_retN ?_
  | with_reducible refine Gx.go_next ?_
  | with_reducible refine Gx.go_drop ?_
  | with_reducible refine Gx.go_un ?_
  | with_reducible refine Gx.go_rU ?_
  | with_reducible refine Gx.go_and ?_
  | with_reducible refine Gx.go_or ?_
  | with_reducible refine Gx.go_not ?_
  | with_reducible refine Gx.go_andV ?_
  | with_reducible refine Gx.go_orV ?_
  | with_reducible refine Gx.go_notV ?_
  | with_reducible refine Gx.go_blA ?_
  | with_reducible refine L2.iteT ?_
  | with_reducible refine L2.iteF ?_
  | with_reducible refine Gx.ite_nt ?_
  | with_reducible refine Gx.ite_nf ?_
  | with_reducible refine Gx.go_ifE ?_
  | with_reducible refine Gx.go_chain ?_
  | with_reducible refine Gx.go_B ?_
  | with_reducible refine Gx.go_int1 ?_
  | with_reducible refine Gx.go_intB ?_
  | with_reducible refine Gx.go_lst ?_
  | with_reducible refine Gx.go_tup ?_
  | with_reducible refine Gx.go_sl ?_
  | with_reducible refine Gx.go_noPart ?_
  | with_reducible refine Gx.go_part ?_
  | with_reducible refine Gx.go_partI ?_
  | with_reducible refine Gx.isi_int_int ?_
  | with_reducible refine Gx.isi_int_bool ?_
  | with_reducible refine Gx.isi_int_str ?_
  | with_reducible refine Gx.isi_int_list ?_
  | with_reducible refine Gx.isi_int_tuple ?_
  | with_reducible refine Gx.isi_bool_int ?_
  | with_reducible refine Gx.isi_bool_bool ?_
  | with_reducible refine Gx.isi_bool_str ?_
  | with_reducible refine Gx.isi_bool_list ?_
  | with_reducible refine Gx.isi_bool_tuple ?_
  | with_reducible refine Gx.isi_str_int ?_
  | with_reducible refine Gx.isi_str_bool ?_
  | with_reducible refine Gx.isi_str_str ?_
  | with_reducible refine Gx.isi_str_list ?_
  | with_reducible refine Gx.isi_str_tuple ?_
  | with_reducible refine Gx.isi_NoneType_int ?_
  | with_reducible refine Gx.isi_NoneType_bool ?_
  | with_reducible refine Gx.isi_NoneType_str ?_
  | with_reducible refine Gx.isi_NoneType_list ?_
  | with_reducible refine Gx.isi_NoneType_tuple ?_
  | with_reducible refine Gx.go_bool1 ?_
  | with_reducible refine Gx.go_boolB ?_
  | with_reducible refine Gx.go_abs ?_
  | with_reducible refine Gx.go_max2 ?_
  | with_reducible refine Gx.go_min2 ?_
  | with_reducible refine Gx.go_ord ?_
  | with_reducible refine Gx.go_isN0 ?_
  | with_reducible refine Gx.go_isNI ?_
  | with_reducible refine Gx.go_isNS ?_
  | with_reducible refine Gx.go_isNB ?_
  | with_reducible refine Gx.go_isNR ?_
  | with_reducible refine Gx.go_notN0 ?_
  | with_reducible refine Gx.go_notNI ?_
  | with_reducible refine Gx.go_notNS ?_
  | with_reducible refine Gx.go_notNB ?_
  | with_reducible refine Gx.go_notNR ?_
  | with_reducible refine Gx.go_ltS ?_
  | with_reducible refine Gx.go_leS ?_
  | with_reducible refine Gx.go_BM ?_
  | with_reducible refine Gx.go_BM0 ?_
  | with_reducible refine Gx.go_not_t ?_
  | with_reducible refine Gx.go_not_f ?_
  | with_reducible refine Gx.go_iList ?_
  | with_reducible refine Gx.go_iRng1 ?_
  | with_reducible refine Gx.go_iRng2 ?_
  | with_reducible refine Gx.go_lc ?_
  | with_reducible refine Gx.go_for ?_
  | with_reducible refine Gx.go_sub ?_
  | with_reducible refine Gx.go_setL2 (by with_unfolding_all rfl) ?_
  | with_reducible refine Gx.go_ixL2 (by with_unfolding_all rfl) ?_
  | with_reducible refine Gx.go_setL (by assumption) (by with_unfolding_all rfl) ?_
  | with_reducible refine Gx.go_ixL1 (by assumption) (by with_unfolding_all rfl) ?_
  | with_reducible refine Gx.go_ixT1 (by assumption) (by with_unfolding_all rfl) ?_
  | with_reducible refine Gx.go_M1 ?_
  | with_reducible refine Gx.go_M0 ?_
  | with_reducible refine Gx.go_isS ?_
  | with_reducible refine Gx.go_iStr ?_
  | with_reducible refine Gx.sq_list_int (by assumption) ?_
  | with_reducible refine Gx.sq_list_bool (by assumption) ?_
  | with_reducible refine Gx.sq_list_str (by assumption) ?_
  | with_reducible refine Gx.sq_list_list (by assumption) ?_
  | with_reducible refine Gx.sq_list_tuple (by assumption) ?_
  | with_reducible refine Gx.sq_tuple_int (by assumption) ?_
  | with_reducible refine Gx.sq_tuple_bool (by assumption) ?_
  | with_reducible refine Gx.sq_tuple_str (by assumption) ?_
  | with_reducible refine Gx.sq_tuple_list (by assumption) ?_
  | with_reducible refine Gx.sq_tuple_tuple (by assumption) ?_
  | with_reducible refine Gx.go_fld ?_
  | with_reducible refine Gx.go_rnum (by assumption) (by assumption) (by assumption) ?_
  | with_reducible refine Gx.go_rden (by assumption) (by assumption) (by assumption) ?_
  | with_reducible refine Gx.go_make ?_
  | with_reducible refine Gx.go_meth ?_
  | with_reducible refine Gx.go_sfld ?_
  | with_reducible refine Gx.go_own (by assumption) (by assumption) ?_
  | with_reducible refine Gx.go_uOwn (by assumption) ?_
  | with_reducible refine Gx.go_gcons ?_
  | with_reducible refine Gx.go_gnil ?_
  | with_reducible refine Gx.go_brk ?_
  | with_reducible refine Gx.go_cont ?_)
local macro_rules | `(tactic| walk_at "go") => `(tactic| repeat walk_at "go1")
local macro_rules | `(tactic| walk_at "br") => `(tactic| first
  | with_reducible refine Gx.ite_d ?_ ?_
  | with_reducible refine Gx.ite_nd ?_ ?_
  | with_reducible refine Gx.ite_b ?_ ?_)
local macro_rules | `(tactic| walk_at "go1") => `(tactic| first
  | with_reducible refine Gx.go_iRng3 ?_
  | with_reducible refine Gx.go_revL ?_)
local macro_rules | `(tactic| walk_at "go1") => `(tactic| first
  | with_reducible refine Gx.go_tTr ?_
  | with_reducible refine Gx.go_dget ?_
  | with_reducible refine Gx.go_dput ?_
  | with_reducible refine Gx.go_iTup ?_
  | with_reducible refine Gx.go_dnew ?_
  | with_reducible refine Gx.go_ixT (by assumption) (by with_unfolding_all rfl) ?_
  | with_reducible refine Gx.go_ixT (by assumption) Gx.at_0 ?_
  | with_reducible refine Gx.go_ixT (by assumption) Gx.at_1 ?_
  | with_reducible refine Gx.ite_ndt ?_
  | with_reducible refine Gx.ite_df (by decide +kernel) ?_
  | with_reducible refine Gx.ite_ndf (by decide +kernel) ?_)
local macro_rules | `(tactic| walk_at "go1") => `(tactic| first
  | with_reducible refine Gx.ite_ndtI ?_
  | with_reducible refine Gx.go_tTM ?_
  | with_reducible refine Gx.go_star ?_
  | with_reducible refine Gx.go_strStr ?_)
local macro_rules | `(tactic| walk_at "go1") => `(tactic| first
  | with_reducible refine Gx.go_inC ?_
  | with_reducible refine Gx.go_niC ?_)
local macro_rules | `(tactic| walk_at "go1") => `(tactic| first
  | with_reducible refine Gx.go_raise ?_
  | with_reducible refine Gx.go_callSD ?_
  | with_reducible refine Gx.go_methSD ?_
  | with_reducible refine Gx.go_makeSD ?_
  | with_reducible refine Gx.go_xf ?_)
local macro_rules | `(tactic| walk_at "go1") => `(tactic| first
  | with_reducible refine Gx.go_dnewN ?_)
local macro_rules | `(tactic| walk_at "go1") => `(tactic| first
  | with_reducible refine Gx.go_iTp ?_)
local macro_rules | `(tactic| walk_at "go1") => `(tactic| first
  | with_reducible refine Gx.go_iSeq ?_)
local macro_rules | `(tactic| walk_at "go1") => `(tactic| first
  | with_reducible refine Gx.go_tupF ?_
  | with_reducible refine Gx.go_iRevA ?_)
namespace K30
open PySem PySem.Spec PyProof.Rows L2 Gx
def top (i : Nat) : Stmt := PySem.Challenge.pw_sureplay_k30_statements_of_one_way.main.body.getD i (.Pass ⟨0, 0, 0, 0⟩)
abbrev s_combine : Stmt := top 5
abbrev s_value_of : Stmt := top 6
abbrev s_End___init__ : Stmt := inClass (top 9) 0
abbrev s_Lot___init__ : Stmt := inClass (top 10) 0
abbrev s_Turn___init__ : Stmt := inClass (top 11) 0
abbrev s_Builder___init__ : Stmt := inClass (top 12) 0
abbrev s_Builder_place : Stmt := inClass (top 12) 1
abbrev s_Builder_node : Stmt := inClass (top 12) 2
abbrev s_Builder_chosen : Stmt := inClass (top 12) 3
abbrev s_Builder_stored : Stmt := inClass (top 12) 4
abbrev s_Builder_branch : Stmt := inClass (top 12) 5
abbrev s_shown : Stmt := top 13
abbrev s_chained : Stmt := top 14
abbrev s_tree_of : Stmt := top 15
abbrev s_Game___init__ : Stmt := inClass (top 17) 0
abbrev s__law_cell : Stmt := top 19
abbrev s__law_is_integer : Stmt := top 20
abbrev s__law_leaf : Stmt := top 21
abbrev s__law_expression : Stmt := top 22
abbrev s__law_value : Stmt := top 23
abbrev s__law_plain : Stmt := top 24
abbrev s__law_statement : Stmt := top 25
abbrev s__law_run : Stmt := top 26
abbrev s_law : Stmt := top 27
/-- where the defs and classes stand -/
structure Ad where
  f_combine : Addr
  d_combine : FuncData
  f_value_of : Addr
  d_value_of : FuncData
  f_End___init__ : Addr
  d_End___init__ : FuncData
  f_Lot___init__ : Addr
  d_Lot___init__ : FuncData
  f_Turn___init__ : Addr
  d_Turn___init__ : FuncData
  f_Builder___init__ : Addr
  d_Builder___init__ : FuncData
  f_Builder_place : Addr
  d_Builder_place : FuncData
  f_Builder_node : Addr
  d_Builder_node : FuncData
  f_Builder_chosen : Addr
  d_Builder_chosen : FuncData
  f_Builder_stored : Addr
  d_Builder_stored : FuncData
  f_Builder_branch : Addr
  d_Builder_branch : FuncData
  f_shown : Addr
  d_shown : FuncData
  f_chained : Addr
  d_chained : FuncData
  f_tree_of : Addr
  d_tree_of : FuncData
  f_Game___init__ : Addr
  d_Game___init__ : FuncData
  f__law_cell : Addr
  d__law_cell : FuncData
  f__law_is_integer : Addr
  d__law_is_integer : FuncData
  f__law_leaf : Addr
  d__law_leaf : FuncData
  f__law_expression : Addr
  d__law_expression : FuncData
  f__law_value : Addr
  d__law_value : FuncData
  f__law_plain : Addr
  d__law_plain : FuncData
  f__law_statement : Addr
  d__law_statement : FuncData
  f__law_run : Addr
  d__law_run : FuncData
  f_law : Addr
  d_law : FuncData
  c_End : Addr
  c_Lot : Addr
  c_Turn : Addr
  c_Builder : Addr
  c_Game : Addr
  c_TooLarge : Addr
  i_TooLarge : Addr
  e_seen : Addr
/-- what the top has left -/
structure Txt (P : Program) (K : PySem.W.Frag) (mg : Str → Option Value) (A : Ad) : Prop where
  F_combine : Fun K "combine" "combine" s_combine A.f_combine A.d_combine
  b_combine : Binds K A.d_combine ["sign", "left", "right"] []
  m_combine : mg "combine" = some (.ref A.f_combine)
  F_value_of : FunD K "value_of" "value_of" (defArgs s_value_of) (defBody s_value_of) (defScope s_value_of) [V.ref A.e_seen] [] A.f_value_of A.d_value_of
  b_value_of_0 : ∃ ds, Vals [] ds ∧ Binds K A.d_value_of ["expression", "table", "on", "seen"] ds
  b_value_of_1 : ∃ ds, Vals [V.ref A.e_seen] ds ∧ Binds K A.d_value_of ["expression", "table", "on", "seen"] ds
  m_value_of : mg "value_of" = some (.ref A.f_value_of)
  F_End___init__ : Fun K "__init__" "End.__init__" s_End___init__ A.f_End___init__ A.d_End___init__
  b_End___init__ : Binds K A.d_End___init__ ["self", "paid"] []
  mk_End : Mk K A.c_End A.f_End___init__
  F_Lot___init__ : Fun K "__init__" "Lot.__init__" s_Lot___init__ A.f_Lot___init__ A.d_Lot___init__
  b_Lot___init__ : Binds K A.d_Lot___init__ ["self", "parts"] []
  mk_Lot : Mk K A.c_Lot A.f_Lot___init__
  F_Turn___init__ : Fun K "__init__" "Turn.__init__" s_Turn___init__ A.f_Turn___init__ A.d_Turn___init__
  b_Turn___init__ : Binds K A.d_Turn___init__ ["self", "player", "view", "parts"] []
  mk_Turn : Mk K A.c_Turn A.f_Turn___init__
  F_Builder___init__ : Fun K "__init__" "Builder.__init__" s_Builder___init__ A.f_Builder___init__ A.d_Builder___init__
  b_Builder___init__ : Binds K A.d_Builder___init__ ["self", "game"] []
  mk_Builder : Mk K A.c_Builder A.f_Builder___init__
  F_Builder_place : Fun K "place" "Builder.place" s_Builder_place A.f_Builder_place A.d_Builder_place
  b_Builder_place : Binds K A.d_Builder_place ["self"] []
  me_Builder_place : Meth K A.c_Builder "place" A.f_Builder_place
  F_Builder_node : Fun K "node" "Builder.node" s_Builder_node A.f_Builder_node A.d_Builder_node
  b_Builder_node : Binds K A.d_Builder_node ["self", "rest", "table", "seen", "paid"] []
  me_Builder_node : Meth K A.c_Builder "node" A.f_Builder_node
  F_Builder_chosen : Fun K "chosen" "Builder.chosen" s_Builder_chosen A.f_Builder_chosen A.d_Builder_chosen
  b_Builder_chosen : Binds K A.d_Builder_chosen ["self", "statement", "table"] []
  me_Builder_chosen : Meth K A.c_Builder "chosen" A.f_Builder_chosen
  F_Builder_stored : Fun K "stored" "Builder.stored" s_Builder_stored A.f_Builder_stored A.d_Builder_stored
  b_Builder_stored : Binds K A.d_Builder_stored ["self", "table", "name", "value"] []
  me_Builder_stored : Meth K A.c_Builder "stored" A.f_Builder_stored
  F_Builder_branch : Fun K "branch" "Builder.branch" s_Builder_branch A.f_Builder_branch A.d_Builder_branch
  b_Builder_branch : Binds K A.d_Builder_branch ["self", "statement", "rest", "table", "seen", "paid"] []
  me_Builder_branch : Meth K A.c_Builder "branch" A.f_Builder_branch
  F_shown : Fun K "shown" "shown" s_shown A.f_shown A.d_shown
  b_shown : Binds K A.d_shown ["seen", "to", "event"] []
  m_shown : mg "shown" = some (.ref A.f_shown)
  F_chained : Fun K "chained" "chained" s_chained A.f_chained A.d_chained
  b_chained : Binds K A.d_chained ["block", "rest"] []
  m_chained : mg "chained" = some (.ref A.f_chained)
  F_tree_of : Fun K "tree_of" "tree_of" s_tree_of A.f_tree_of A.d_tree_of
  b_tree_of : Binds K A.d_tree_of ["game"] []
  m_tree_of : mg "tree_of" = some (.ref A.f_tree_of)
  F_Game___init__ : Fun K "__init__" "Game.__init__" s_Game___init__ A.f_Game___init__ A.d_Game___init__
  b_Game___init__ : Binds K A.d_Game___init__ ["self", "options", "variables", "rounds"] []
  mk_Game : Mk K A.c_Game A.f_Game___init__
  F__law_cell : Fun K "_law_cell" "_law_cell" s__law_cell A.f__law_cell A.d__law_cell
  b__law_cell : Binds K A.d__law_cell ["_law_script", "_law_k"] []
  m__law_cell : mg "_law_cell" = some (.ref A.f__law_cell)
  F__law_is_integer : Fun K "_law_is_integer" "_law_is_integer" s__law_is_integer A.f__law_is_integer A.d__law_is_integer
  b__law_is_integer : Binds K A.d__law_is_integer ["_law_actual"] []
  m__law_is_integer : mg "_law_is_integer" = some (.ref A.f__law_is_integer)
  F__law_leaf : Fun K "_law_leaf" "_law_leaf" s__law_leaf A.f__law_leaf A.d__law_leaf
  b__law_leaf : Binds K A.d__law_leaf ["_law_cell_here", "_law_variables"] []
  m__law_leaf : mg "_law_leaf" = some (.ref A.f__law_leaf)
  F__law_expression : Fun K "_law_expression" "_law_expression" s__law_expression A.f__law_expression A.d__law_expression
  b__law_expression : Binds K A.d__law_expression ["_law_cell_here", "_law_variables"] []
  m__law_expression : mg "_law_expression" = some (.ref A.f__law_expression)
  F__law_value : Fun K "_law_value" "_law_value" s__law_value A.f__law_value A.d__law_value
  b__law_value : Binds K A.d__law_value ["_law_expression_here", "_law_table"] []
  m__law_value : mg "_law_value" = some (.ref A.f__law_value)
  F__law_plain : Fun K "_law_plain" "_law_plain" s__law_plain A.f__law_plain A.d__law_plain
  b__law_plain : Binds K A.d__law_plain ["_law_cell_here", "_law_variables"] []
  m__law_plain : mg "_law_plain" = some (.ref A.f__law_plain)
  F__law_statement : Fun K "_law_statement" "_law_statement" s__law_statement A.f__law_statement A.d__law_statement
  b__law_statement : Binds K A.d__law_statement ["_law_cell_here", "_law_variables", "_law_options"] []
  m__law_statement : mg "_law_statement" = some (.ref A.f__law_statement)
  F__law_run : Fun K "_law_run" "_law_run" s__law_run A.f__law_run A.d__law_run
  b__law_run : Binds K A.d__law_run ["_law_block", "_law_table", "_law_sizes", "_law_on", "_law_paid"] []
  m__law_run : mg "_law_run" = some (.ref A.f__law_run)
  F_law : Fun K "law" "law" s_law A.f_law A.d_law
  b_law : Binds K A.d_law ["_law_script"] []
  m_law : mg "law" = some (.ref A.f_law)
  m_End : mg "End" = some (.ref A.c_End)
  cl_End : Cls K A.c_End
  na_End_paid : NoAttr K A.c_End "paid"
  ic_End : C8.InsC K A.c_End
  m_Lot : mg "Lot" = some (.ref A.c_Lot)
  cl_Lot : Cls K A.c_Lot
  na_Lot_parts : NoAttr K A.c_Lot "parts"
  ic_Lot : C8.InsC K A.c_Lot
  m_Turn : mg "Turn" = some (.ref A.c_Turn)
  cl_Turn : Cls K A.c_Turn
  na_Turn_player : NoAttr K A.c_Turn "player"
  na_Turn_view : NoAttr K A.c_Turn "view"
  na_Turn_parts : NoAttr K A.c_Turn "parts"
  ic_Turn : C8.InsC K A.c_Turn
  m_Builder : mg "Builder" = some (.ref A.c_Builder)
  cl_Builder : Cls K A.c_Builder
  na_Builder_sizes : NoAttr K A.c_Builder "sizes"
  na_Builder_on : NoAttr K A.c_Builder "on"
  na_Builder_left : NoAttr K A.c_Builder "left"
  m_Game : mg "Game" = some (.ref A.c_Game)
  cl_Game : Cls K A.c_Game
  na_Game_options : NoAttr K A.c_Game "options"
  na_Game_variables : NoAttr K A.c_Game "variables"
  na_Game_rounds : NoAttr K A.c_Game "rounds"
  m_TooLarge : mg "TooLarge" = some (.ref A.c_TooLarge)
  er_TooLarge : ErX.ErrT P K mg A.c_TooLarge A.i_TooLarge "what" "what"
  xf_TooLarge : XfC K A.c_TooLarge
  te_TooLarge : PySem.W.exmOne K (.ref A.c_TooLarge) (.ref A.c_TooLarge) = some true
  xd_TooLarge : ExD K A.c_TooLarge
  ki_End_End : PySem.W.kitOne K (.ref A.c_End) (.ref A.c_End) = some true
  ki_End_Lot : PySem.W.kitOne K (.ref A.c_End) (.ref A.c_Lot) = some false
  ki_End_Turn : PySem.W.kitOne K (.ref A.c_End) (.ref A.c_Turn) = some false
  ki_Lot_End : PySem.W.kitOne K (.ref A.c_Lot) (.ref A.c_End) = some false
  ki_Lot_Lot : PySem.W.kitOne K (.ref A.c_Lot) (.ref A.c_Lot) = some true
  ki_Lot_Turn : PySem.W.kitOne K (.ref A.c_Lot) (.ref A.c_Turn) = some false
  ki_Turn_End : PySem.W.kitOne K (.ref A.c_Turn) (.ref A.c_End) = some false
  ki_Turn_Lot : PySem.W.kitOne K (.ref A.c_Turn) (.ref A.c_Lot) = some false
  ki_Turn_Turn : PySem.W.kitOne K (.ref A.c_Turn) (.ref A.c_Turn) = some true
  n_int : mg "int" = none
  n_max : mg "max" = none
  n_min : mg "min" = none
  n_len : mg "len" = none
  n_dict : mg "dict" = none
  n_range : mg "range" = none
  n_tuple : mg "tuple" = none
  n_reversed : mg "reversed" = none
  n_isinstance : mg "isinstance" = none
  n_bool : mg "bool" = none
  n_str : mg "str" = none
  v_GREATEST : ∃ t, mg "GREATEST" = some (.int 65535 t)
  v_MOST_PLACES : ∃ t, mg "MOST_PLACES" = some (.int 400 t)
  et_seen : ∀ H : Hp, SqT K H A.e_seen []
theorem sc_combine : FnScope ["sign", "left", "right"] ["sign", "left", "right"] (defScope s_combine) := ⟨rfl, rfl, rfl, by decide +kernel, rfl, by decide +kernel, by decide +kernel⟩
theorem sc_value_of : FnScope ["expression", "table", "on", "seen", "kind", "at", "chosen", "left", "right"] ["expression", "table", "on", "seen"] (defScope s_value_of) := ⟨rfl, rfl, rfl, by decide +kernel, rfl, by decide +kernel, by decide +kernel⟩
theorem sc_End___init__ : FnScope ["self", "paid"] ["self", "paid"] (defScope s_End___init__) := ⟨rfl, rfl, rfl, by decide +kernel, rfl, by decide +kernel, by decide +kernel⟩
theorem sc_Lot___init__ : FnScope ["self", "parts"] ["self", "parts"] (defScope s_Lot___init__) := ⟨rfl, rfl, rfl, by decide +kernel, rfl, by decide +kernel, by decide +kernel⟩
theorem sc_Turn___init__ : FnScope ["self", "player", "view", "parts"] ["self", "player", "view", "parts"] (defScope s_Turn___init__) := ⟨rfl, rfl, rfl, by decide +kernel, rfl, by decide +kernel, by decide +kernel⟩
theorem sc_Builder___init__ : FnScope ["self", "game"] ["self", "game"] (defScope s_Builder___init__) := ⟨rfl, rfl, rfl, by decide +kernel, rfl, by decide +kernel, by decide +kernel⟩
theorem sc_Builder_place : FnScope ["self"] ["self"] (defScope s_Builder_place) := ⟨rfl, rfl, rfl, by decide +kernel, rfl, by decide +kernel, by decide +kernel⟩
theorem sc_Builder_node : FnScope ["self", "rest", "table", "seen", "paid", "statement", "word"] ["self", "rest", "table", "seen", "paid"] (defScope s_Builder_node) := ⟨rfl, rfl, rfl, by decide +kernel, rfl, by decide +kernel, by decide +kernel⟩
theorem sc_Builder_chosen : FnScope ["self", "statement", "table", "holds"] ["self", "statement", "table"] (defScope s_Builder_chosen) := ⟨rfl, rfl, rfl, by decide +kernel, rfl, by decide +kernel, by decide +kernel⟩
theorem sc_Builder_stored : FnScope ["self", "table", "name", "value", "result"] ["self", "table", "name", "value"] (defScope s_Builder_stored) := ⟨rfl, rfl, rfl, by decide +kernel, rfl, by decide +kernel, by decide +kernel⟩
theorem sc_Builder_branch : FnScope ["self", "statement", "rest", "table", "seen", "paid", "parts", "k", "player", "after"] ["self", "statement", "rest", "table", "seen", "paid"] (defScope s_Builder_branch) := ⟨rfl, rfl, rfl, by decide +kernel, rfl, by decide +kernel, by decide +kernel⟩
theorem sc_shown : FnScope ["seen", "to", "event", "first", "second"] ["seen", "to", "event"] (defScope s_shown) := ⟨rfl, rfl, rfl, by decide +kernel, rfl, by decide +kernel, by decide +kernel⟩
theorem sc_chained : FnScope ["block", "rest", "statement"] ["block", "rest"] (defScope s_chained) := ⟨rfl, rfl, rfl, by decide +kernel, rfl, by decide +kernel, by decide +kernel⟩
theorem sc_tree_of : FnScope ["game", "builder", "rest", "number", "table", "name", "_"] ["game"] (defScope s_tree_of) := ⟨rfl, rfl, rfl, by decide +kernel, rfl, by decide +kernel, by decide +kernel⟩
theorem sc_Game___init__ : FnScope ["self", "options", "variables", "rounds"] ["self", "options", "variables", "rounds"] (defScope s_Game___init__) := ⟨rfl, rfl, rfl, by decide +kernel, rfl, by decide +kernel, by decide +kernel⟩
theorem sc__law_cell : FnScope ["_law_script", "_law_k"] ["_law_script", "_law_k"] (defScope s__law_cell) := ⟨rfl, rfl, rfl, by decide +kernel, rfl, by decide +kernel, by decide +kernel⟩
theorem sc__law_is_integer : FnScope ["_law_actual"] ["_law_actual"] (defScope s__law_is_integer) := ⟨rfl, rfl, rfl, by decide +kernel, rfl, by decide +kernel, by decide +kernel⟩
theorem sc__law_leaf : FnScope ["_law_cell_here", "_law_variables"] ["_law_cell_here", "_law_variables"] (defScope s__law_leaf) := ⟨rfl, rfl, rfl, by decide +kernel, rfl, by decide +kernel, by decide +kernel⟩
theorem sc__law_expression : FnScope ["_law_cell_here", "_law_variables", "_law_word"] ["_law_cell_here", "_law_variables"] (defScope s__law_expression) := ⟨rfl, rfl, rfl, by decide +kernel, rfl, by decide +kernel, by decide +kernel⟩
theorem sc__law_value : FnScope ["_law_expression_here", "_law_table", "_law_word", "_law_a", "_law_b"] ["_law_expression_here", "_law_table"] (defScope s__law_value) := ⟨rfl, rfl, rfl, by decide +kernel, rfl, by decide +kernel, by decide +kernel⟩
theorem sc__law_plain : FnScope ["_law_cell_here", "_law_variables", "_law_value_here"] ["_law_cell_here", "_law_variables"] (defScope s__law_plain) := ⟨rfl, rfl, rfl, by decide +kernel, rfl, by decide +kernel, by decide +kernel⟩
theorem sc__law_statement : FnScope ["_law_cell_here", "_law_variables", "_law_options", "_law_other", "_law_name"] ["_law_cell_here", "_law_variables", "_law_options"] (defScope s__law_statement) := ⟨rfl, rfl, rfl, by decide +kernel, rfl, by decide +kernel, by decide +kernel⟩
theorem sc__law_run : FnScope ["_law_block", "_law_table", "_law_sizes", "_law_on", "_law_paid", "_law_statement_here", "_law_word"] ["_law_block", "_law_table", "_law_sizes", "_law_on", "_law_paid"] (defScope s__law_run) := ⟨rfl, rfl, rfl, by decide +kernel, rfl, by decide +kernel, by decide +kernel⟩
theorem sc_law : FnScope ["_law_script", "_law_way", "_law_options", "_law_sizes", "_law_variables", "_law_count", "_law_blocks", "_law_at", "_law_rounds", "_law_table", "_law_size_of", "_law_pair", "_law_on", "_law_paid", "_law_block", "_law_actual", "_law_k"] ["_law_script"] (defScope s_law) := ⟨rfl, rfl, rfl, by decide +kernel, rfl, by decide +kernel, by decide +kernel⟩
def F_End (x0 : V) : List (Str × V) := [("paid", x0)]
theorem F_End_paid {x0 : V} : (F_End x0).lookup ("paid" : Str) = some x0 := by
  unfold F_End;  rw [List.lookup_cons, beq_self_eq_true]
theorem go_F_End_paid {K : PySem.W.Frag} {H : Hp} {Q : VK} {a C dx : Addr} {x0 : V} (e : H a = some (.ins C dx (F_End x0))) (c : Cls K C) (n : NoAttr K C "paid") (h : Q x0 H) : qFld K "paid" Q (.ref a) H := go_fldV e c n F_End_paid h
theorem F_End_put_paid {x0 y : V} : putF "paid" y (F_End x0) = F_End y := by
  unfold F_End
  simp only [putF, if_true]
theorem F_End_made {x0 : V} : (putF "paid" x0 []) = F_End x0 := by
  unfold F_End
  simp only [putF]
theorem F_End_no___init__ {x0 : V} : (F_End x0).lookup ("__init__" : Str) = none := by
  unfold F_End; rw [List.lookup_cons, show ((PySem.Str.ofString "__init__") == (PySem.Str.ofString "paid")) = false by decide +kernel]; rfl
def F_Lot (x0 : V) : List (Str × V) := [("parts", x0)]
theorem F_Lot_parts {x0 : V} : (F_Lot x0).lookup ("parts" : Str) = some x0 := by
  unfold F_Lot;  rw [List.lookup_cons, beq_self_eq_true]
theorem go_F_Lot_parts {K : PySem.W.Frag} {H : Hp} {Q : VK} {a C dx : Addr} {x0 : V} (e : H a = some (.ins C dx (F_Lot x0))) (c : Cls K C) (n : NoAttr K C "parts") (h : Q x0 H) : qFld K "parts" Q (.ref a) H := go_fldV e c n F_Lot_parts h
theorem F_Lot_put_parts {x0 y : V} : putF "parts" y (F_Lot x0) = F_Lot y := by
  unfold F_Lot
  simp only [putF, if_true]
theorem F_Lot_made {x0 : V} : (putF "parts" x0 []) = F_Lot x0 := by
  unfold F_Lot
  simp only [putF]
theorem F_Lot_no___init__ {x0 : V} : (F_Lot x0).lookup ("__init__" : Str) = none := by
  unfold F_Lot; rw [List.lookup_cons, show ((PySem.Str.ofString "__init__") == (PySem.Str.ofString "parts")) = false by decide +kernel]; rfl
def F_Turn (x0 x1 x2 : V) : List (Str × V) := [("player", x0), ("view", x1), ("parts", x2)]
theorem F_Turn_player {x0 x1 x2 : V} : (F_Turn x0 x1 x2).lookup ("player" : Str) = some x0 := by
  unfold F_Turn;  rw [List.lookup_cons, beq_self_eq_true]
theorem go_F_Turn_player {K : PySem.W.Frag} {H : Hp} {Q : VK} {a C dx : Addr} {x0 x1 x2 : V} (e : H a = some (.ins C dx (F_Turn x0 x1 x2))) (c : Cls K C) (n : NoAttr K C "player") (h : Q x0 H) : qFld K "player" Q (.ref a) H := go_fldV e c n F_Turn_player h
theorem F_Turn_put_player {x0 x1 x2 y : V} : putF "player" y (F_Turn x0 x1 x2) = F_Turn y x1 x2 := by
  unfold F_Turn
  simp only [putF, if_true]
theorem F_Turn_view {x0 x1 x2 : V} : (F_Turn x0 x1 x2).lookup ("view" : Str) = some x1 := by
  unfold F_Turn; rw [List.lookup_cons, show ((PySem.Str.ofString "view") == (PySem.Str.ofString "player")) = false by decide +kernel]; rw [List.lookup_cons, beq_self_eq_true]
theorem go_F_Turn_view {K : PySem.W.Frag} {H : Hp} {Q : VK} {a C dx : Addr} {x0 x1 x2 : V} (e : H a = some (.ins C dx (F_Turn x0 x1 x2))) (c : Cls K C) (n : NoAttr K C "view") (h : Q x1 H) : qFld K "view" Q (.ref a) H := go_fldV e c n F_Turn_view h
theorem F_Turn_put_view {x0 x1 x2 y : V} : putF "view" y (F_Turn x0 x1 x2) = F_Turn x0 y x2 := by
  unfold F_Turn
  simp only [putF, if_true, show ¬ ((PySem.Str.ofString "player") = (PySem.Str.ofString "view")) by decide +kernel, if_false]
theorem F_Turn_parts {x0 x1 x2 : V} : (F_Turn x0 x1 x2).lookup ("parts" : Str) = some x2 := by
  unfold F_Turn; rw [List.lookup_cons, show ((PySem.Str.ofString "parts") == (PySem.Str.ofString "player")) = false by decide +kernel]; rw [List.lookup_cons, show ((PySem.Str.ofString "parts") == (PySem.Str.ofString "view")) = false by decide +kernel]; rw [List.lookup_cons, beq_self_eq_true]
theorem go_F_Turn_parts {K : PySem.W.Frag} {H : Hp} {Q : VK} {a C dx : Addr} {x0 x1 x2 : V} (e : H a = some (.ins C dx (F_Turn x0 x1 x2))) (c : Cls K C) (n : NoAttr K C "parts") (h : Q x2 H) : qFld K "parts" Q (.ref a) H := go_fldV e c n F_Turn_parts h
theorem F_Turn_put_parts {x0 x1 x2 y : V} : putF "parts" y (F_Turn x0 x1 x2) = F_Turn x0 x1 y := by
  unfold F_Turn
  simp only [putF, if_true, show ¬ ((PySem.Str.ofString "player") = (PySem.Str.ofString "parts")) by decide +kernel, show ¬ ((PySem.Str.ofString "view") = (PySem.Str.ofString "parts")) by decide +kernel, if_false]
theorem F_Turn_made {x0 x1 x2 : V} : (putF "parts" x2 (putF "view" x1 (putF "player" x0 []))) = F_Turn x0 x1 x2 := by
  unfold F_Turn
  simp only [putF, show ¬ ((PySem.Str.ofString "player") = (PySem.Str.ofString "view")) by decide +kernel, show ¬ ((PySem.Str.ofString "player") = (PySem.Str.ofString "parts")) by decide +kernel, show ¬ ((PySem.Str.ofString "view") = (PySem.Str.ofString "parts")) by decide +kernel, if_false]
theorem F_Turn_no___init__ {x0 x1 x2 : V} : (F_Turn x0 x1 x2).lookup ("__init__" : Str) = none := by
  unfold F_Turn; rw [List.lookup_cons, show ((PySem.Str.ofString "__init__") == (PySem.Str.ofString "player")) = false by decide +kernel]; rw [List.lookup_cons, show ((PySem.Str.ofString "__init__") == (PySem.Str.ofString "view")) = false by decide +kernel]; rw [List.lookup_cons, show ((PySem.Str.ofString "__init__") == (PySem.Str.ofString "parts")) = false by decide +kernel]; rfl
def F_Game (x0 x1 x2 : V) : List (Str × V) := [("options", x0), ("variables", x1), ("rounds", x2)]
theorem F_Game_options {x0 x1 x2 : V} : (F_Game x0 x1 x2).lookup ("options" : Str) = some x0 := by
  unfold F_Game;  rw [List.lookup_cons, beq_self_eq_true]
theorem go_F_Game_options {K : PySem.W.Frag} {H : Hp} {Q : VK} {a C dx : Addr} {x0 x1 x2 : V} (e : H a = some (.ins C dx (F_Game x0 x1 x2))) (c : Cls K C) (n : NoAttr K C "options") (h : Q x0 H) : qFld K "options" Q (.ref a) H := go_fldV e c n F_Game_options h
theorem F_Game_put_options {x0 x1 x2 y : V} : putF "options" y (F_Game x0 x1 x2) = F_Game y x1 x2 := by
  unfold F_Game
  simp only [putF, if_true]
theorem F_Game_variables {x0 x1 x2 : V} : (F_Game x0 x1 x2).lookup ("variables" : Str) = some x1 := by
  unfold F_Game; rw [List.lookup_cons, show ((PySem.Str.ofString "variables") == (PySem.Str.ofString "options")) = false by decide +kernel]; rw [List.lookup_cons, beq_self_eq_true]
theorem go_F_Game_variables {K : PySem.W.Frag} {H : Hp} {Q : VK} {a C dx : Addr} {x0 x1 x2 : V} (e : H a = some (.ins C dx (F_Game x0 x1 x2))) (c : Cls K C) (n : NoAttr K C "variables") (h : Q x1 H) : qFld K "variables" Q (.ref a) H := go_fldV e c n F_Game_variables h
theorem F_Game_put_variables {x0 x1 x2 y : V} : putF "variables" y (F_Game x0 x1 x2) = F_Game x0 y x2 := by
  unfold F_Game
  simp only [putF, if_true, show ¬ ((PySem.Str.ofString "options") = (PySem.Str.ofString "variables")) by decide +kernel, if_false]
theorem F_Game_rounds {x0 x1 x2 : V} : (F_Game x0 x1 x2).lookup ("rounds" : Str) = some x2 := by
  unfold F_Game; rw [List.lookup_cons, show ((PySem.Str.ofString "rounds") == (PySem.Str.ofString "options")) = false by decide +kernel]; rw [List.lookup_cons, show ((PySem.Str.ofString "rounds") == (PySem.Str.ofString "variables")) = false by decide +kernel]; rw [List.lookup_cons, beq_self_eq_true]
theorem go_F_Game_rounds {K : PySem.W.Frag} {H : Hp} {Q : VK} {a C dx : Addr} {x0 x1 x2 : V} (e : H a = some (.ins C dx (F_Game x0 x1 x2))) (c : Cls K C) (n : NoAttr K C "rounds") (h : Q x2 H) : qFld K "rounds" Q (.ref a) H := go_fldV e c n F_Game_rounds h
theorem F_Game_put_rounds {x0 x1 x2 y : V} : putF "rounds" y (F_Game x0 x1 x2) = F_Game x0 x1 y := by
  unfold F_Game
  simp only [putF, if_true, show ¬ ((PySem.Str.ofString "options") = (PySem.Str.ofString "rounds")) by decide +kernel, show ¬ ((PySem.Str.ofString "variables") = (PySem.Str.ofString "rounds")) by decide +kernel, if_false]
theorem F_Game_made {x0 x1 x2 : V} : (putF "rounds" x2 (putF "variables" x1 (putF "options" x0 []))) = F_Game x0 x1 x2 := by
  unfold F_Game
  simp only [putF, show ¬ ((PySem.Str.ofString "options") = (PySem.Str.ofString "variables")) by decide +kernel, show ¬ ((PySem.Str.ofString "options") = (PySem.Str.ofString "rounds")) by decide +kernel, show ¬ ((PySem.Str.ofString "variables") = (PySem.Str.ofString "rounds")) by decide +kernel, if_false]
theorem F_Game_no___init__ {x0 x1 x2 : V} : (F_Game x0 x1 x2).lookup ("__init__" : Str) = none := by
  unfold F_Game; rw [List.lookup_cons, show ((PySem.Str.ofString "__init__") == (PySem.Str.ofString "options")) = false by decide +kernel]; rw [List.lookup_cons, show ((PySem.Str.ofString "__init__") == (PySem.Str.ofString "variables")) = false by decide +kernel]; rw [List.lookup_cons, show ((PySem.Str.ofString "__init__") == (PySem.Str.ofString "rounds")) = false by decide +kernel]; rfl
theorem F_Game_no___eq__ {x0 x1 x2 : V} : (F_Game x0 x1 x2).lookup ("__eq__" : Str) = none := by
  unfold F_Game; rw [List.lookup_cons, show ((PySem.Str.ofString "__eq__") == (PySem.Str.ofString "options")) = false by decide +kernel]; rw [List.lookup_cons, show ((PySem.Str.ofString "__eq__") == (PySem.Str.ofString "variables")) = false by decide +kernel]; rw [List.lookup_cons, show ((PySem.Str.ofString "__eq__") == (PySem.Str.ofString "rounds")) = false by decide +kernel]; rfl
def F_Builder (x0 x1 x2 : V) : List (Str × V) := [("sizes", x0), ("on", x1), ("left", x2)]
theorem F_Builder_sizes {x0 x1 x2 : V} : (F_Builder x0 x1 x2).lookup ("sizes" : Str) = some x0 := by
  unfold F_Builder;  rw [List.lookup_cons, beq_self_eq_true]
theorem go_F_Builder_sizes {K : PySem.W.Frag} {H : Hp} {Q : VK} {a C dx : Addr} {x0 x1 x2 : V} (e : H a = some (.ins C dx (F_Builder x0 x1 x2))) (c : Cls K C) (n : NoAttr K C "sizes") (h : Q x0 H) : qFld K "sizes" Q (.ref a) H := go_fldV e c n F_Builder_sizes h
theorem F_Builder_put_sizes {x0 x1 x2 y : V} : putF "sizes" y (F_Builder x0 x1 x2) = F_Builder y x1 x2 := by
  unfold F_Builder
  simp only [putF, if_true]
theorem F_Builder_on {x0 x1 x2 : V} : (F_Builder x0 x1 x2).lookup ("on" : Str) = some x1 := by
  unfold F_Builder; rw [List.lookup_cons, show ((PySem.Str.ofString "on") == (PySem.Str.ofString "sizes")) = false by decide +kernel]; rw [List.lookup_cons, beq_self_eq_true]
theorem go_F_Builder_on {K : PySem.W.Frag} {H : Hp} {Q : VK} {a C dx : Addr} {x0 x1 x2 : V} (e : H a = some (.ins C dx (F_Builder x0 x1 x2))) (c : Cls K C) (n : NoAttr K C "on") (h : Q x1 H) : qFld K "on" Q (.ref a) H := go_fldV e c n F_Builder_on h
theorem F_Builder_put_on {x0 x1 x2 y : V} : putF "on" y (F_Builder x0 x1 x2) = F_Builder x0 y x2 := by
  unfold F_Builder
  simp only [putF, if_true, show ¬ ((PySem.Str.ofString "sizes") = (PySem.Str.ofString "on")) by decide +kernel, if_false]
theorem F_Builder_left {x0 x1 x2 : V} : (F_Builder x0 x1 x2).lookup ("left" : Str) = some x2 := by
  unfold F_Builder; rw [List.lookup_cons, show ((PySem.Str.ofString "left") == (PySem.Str.ofString "sizes")) = false by decide +kernel]; rw [List.lookup_cons, show ((PySem.Str.ofString "left") == (PySem.Str.ofString "on")) = false by decide +kernel]; rw [List.lookup_cons, beq_self_eq_true]
theorem go_F_Builder_left {K : PySem.W.Frag} {H : Hp} {Q : VK} {a C dx : Addr} {x0 x1 x2 : V} (e : H a = some (.ins C dx (F_Builder x0 x1 x2))) (c : Cls K C) (n : NoAttr K C "left") (h : Q x2 H) : qFld K "left" Q (.ref a) H := go_fldV e c n F_Builder_left h
theorem F_Builder_put_left {x0 x1 x2 y : V} : putF "left" y (F_Builder x0 x1 x2) = F_Builder x0 x1 y := by
  unfold F_Builder
  simp only [putF, if_true, show ¬ ((PySem.Str.ofString "sizes") = (PySem.Str.ofString "left")) by decide +kernel, show ¬ ((PySem.Str.ofString "on") = (PySem.Str.ofString "left")) by decide +kernel, if_false]
theorem F_Builder_made {x0 x1 x2 : V} : (putF "left" x2 (putF "on" x1 (putF "sizes" x0 []))) = F_Builder x0 x1 x2 := by
  unfold F_Builder
  simp only [putF, show ¬ ((PySem.Str.ofString "sizes") = (PySem.Str.ofString "on")) by decide +kernel, show ¬ ((PySem.Str.ofString "sizes") = (PySem.Str.ofString "left")) by decide +kernel, show ¬ ((PySem.Str.ofString "on") = (PySem.Str.ofString "left")) by decide +kernel, if_false]
theorem F_Builder_no___init__ {x0 x1 x2 : V} : (F_Builder x0 x1 x2).lookup ("__init__" : Str) = none := by
  unfold F_Builder; rw [List.lookup_cons, show ((PySem.Str.ofString "__init__") == (PySem.Str.ofString "sizes")) = false by decide +kernel]; rw [List.lookup_cons, show ((PySem.Str.ofString "__init__") == (PySem.Str.ofString "on")) = false by decide +kernel]; rw [List.lookup_cons, show ((PySem.Str.ofString "__init__") == (PySem.Str.ofString "left")) = false by decide +kernel]; rfl
theorem F_Builder_no_place {x0 x1 x2 : V} : (F_Builder x0 x1 x2).lookup ("place" : Str) = none := by
  unfold F_Builder; rw [List.lookup_cons, show ((PySem.Str.ofString "place") == (PySem.Str.ofString "sizes")) = false by decide +kernel]; rw [List.lookup_cons, show ((PySem.Str.ofString "place") == (PySem.Str.ofString "on")) = false by decide +kernel]; rw [List.lookup_cons, show ((PySem.Str.ofString "place") == (PySem.Str.ofString "left")) = false by decide +kernel]; rfl
theorem F_Builder_no_node {x0 x1 x2 : V} : (F_Builder x0 x1 x2).lookup ("node" : Str) = none := by
  unfold F_Builder; rw [List.lookup_cons, show ((PySem.Str.ofString "node") == (PySem.Str.ofString "sizes")) = false by decide +kernel]; rw [List.lookup_cons, show ((PySem.Str.ofString "node") == (PySem.Str.ofString "on")) = false by decide +kernel]; rw [List.lookup_cons, show ((PySem.Str.ofString "node") == (PySem.Str.ofString "left")) = false by decide +kernel]; rfl
theorem F_Builder_no_chosen {x0 x1 x2 : V} : (F_Builder x0 x1 x2).lookup ("chosen" : Str) = none := by
  unfold F_Builder; rw [List.lookup_cons, show ((PySem.Str.ofString "chosen") == (PySem.Str.ofString "sizes")) = false by decide +kernel]; rw [List.lookup_cons, show ((PySem.Str.ofString "chosen") == (PySem.Str.ofString "on")) = false by decide +kernel]; rw [List.lookup_cons, show ((PySem.Str.ofString "chosen") == (PySem.Str.ofString "left")) = false by decide +kernel]; rfl
theorem F_Builder_no_stored {x0 x1 x2 : V} : (F_Builder x0 x1 x2).lookup ("stored" : Str) = none := by
  unfold F_Builder; rw [List.lookup_cons, show ((PySem.Str.ofString "stored") == (PySem.Str.ofString "sizes")) = false by decide +kernel]; rw [List.lookup_cons, show ((PySem.Str.ofString "stored") == (PySem.Str.ofString "on")) = false by decide +kernel]; rw [List.lookup_cons, show ((PySem.Str.ofString "stored") == (PySem.Str.ofString "left")) = false by decide +kernel]; rfl
theorem F_Builder_no_branch {x0 x1 x2 : V} : (F_Builder x0 x1 x2).lookup ("branch" : Str) = none := by
  unfold F_Builder; rw [List.lookup_cons, show ((PySem.Str.ofString "branch") == (PySem.Str.ofString "sizes")) = false by decide +kernel]; rw [List.lookup_cons, show ((PySem.Str.ofString "branch") == (PySem.Str.ofString "on")) = false by decide +kernel]; rw [List.lookup_cons, show ((PySem.Str.ofString "branch") == (PySem.Str.ofString "left")) = false by decide +kernel]; rfl

theorem sq_nn (w : Int) : 0 ≤ w * w := by
  rcases Int.lt_trichotomy w 0 with z | z | z
  · exact Int.le_of_lt (Int.mul_pos_of_neg_of_neg z z)
  · rw [z]; decide
  · exact Int.le_of_lt (Int.mul_pos z z)
theorem fst_neg {p w : Int} (hw : w ≠ 0) : (0 ≤ rN p w) = ¬ (p * w < 0) := by
  have c := r_cross (a := p) hw
  have d := rD_pos (a := p) hw
  generalize rN p w = n at *
  generalize rD p w = m at *
  refine propext ⟨fun h h2 => ?_, fun h => ?_⟩
  · have e : n * (w * w) = p * w * m := by rw [← Int.mul_assoc, c]; ac_rfl
    have h3 : 0 ≤ n * (w * w) := Int.mul_nonneg h (sq_nn w)
    have h4 : p * w * m < 0 := Int.mul_neg_of_neg_of_pos h2 d
    omega
  · by_cases q : 0 ≤ n
    · exact q
    · exfalso
      have e : n * (w * w) = p * w * m := by rw [← Int.mul_assoc, c]; ac_rfl
      have h5 : 0 < w * w := by
        rcases Int.lt_trichotomy w 0 with z | z | z
        · exact Int.mul_pos_of_neg_of_neg z z
        · exact absurd z hw
        · exact Int.mul_pos z z
      have h3 : n * (w * w) < 0 := Int.mul_neg_of_neg_of_pos (by omega) h5
      have h4 : 0 ≤ p * w * m := Int.mul_nonneg (by omega) (by omega)
      omega
/-- the terms of the law's ratios -/
def terms (ps : List Int) (w : Int) : List (Int × Int) := ps.map fun p => (rN p w, rD p w)
theorem sum_terms {L w : Int} (hw : w ≠ 0) : ∀ (ps : List Int), (∀ p ∈ ps, rD p w ∣ L) → ((terms ps w).map fun r => r.1 * (L / r.2)).sum * w = ps.sum * L
  | [], _ => by simp [terms]
  | p :: t, h => by
    have c := r_cross (a := p) hw
    have d := rD_pos (a := p) hw
    have ih := sum_terms hw t fun z hz => h z (List.mem_cons_of_mem _ hz)
    have hd := h p List.mem_cons_self
    unfold terms at ih ⊢
    rw [List.map_cons, List.map_cons, List.sum_cons, List.sum_cons, Int.add_mul, Int.add_mul, ih]
    congr 1
    show rN p w * (L / rD p w) * w = p * L
    have : rD p w * (L / rD p w) = L := Int.mul_ediv_cancel' hd
    calc rN p w * (L / rD p w) * w = rN p w * w * (L / rD p w) := by ac_rfl
      _ = p * rD p w * (L / rD p w) := by rw [c]
      _ = p * (rD p w * (L / rD p w)) := by ac_rfl
      _ = p * L := by rw [this]
/-- what the law expects -/
def due0 (ps : List Int) (w : Int) : Bool := decide (0 < ps.length) && decide (ps.sum = w)
theorem lots_due {ps : List Int} {w : Int} (hw : w ≠ 0) (ex : List (Int × Int)) (hex : ex = [] ∨ ex = [(0, 1)]) :
    (decide ((cnum (terms ps w ++ ex)).sum = (cden (terms ps w ++ ex) : Int)) && (cnum (terms ps w ++ ex)).all (fun n => decide (0 ≤ n))) = (due0 ps w && !(ps.any fun p => decide (p * w < 0))) := by
  have hpos : ∀ r ∈ terms ps w ++ ex, 0 < r.2 := by
    intro r hr
    rcases List.mem_append.mp hr with h | h
    · obtain ⟨p, _, rfl⟩ := List.mem_map.mp h
      exact rD_pos hw
    · rcases hex with e | e
      · rw [e] at h; exact nomatch h
      · rw [e] at h
        rw [List.mem_singleton.mp h]
        decide
  have hL := cden_pos hpos
  have hdv : ∀ r ∈ terms ps w ++ ex, r.2 ∣ (cden (terms ps w ++ ex) : Int) := fun r hr => Int.natAbs_dvd_natAbs.mp (by rw [Int.natAbs_natCast]; exact cden_dvd hr)
  generalize hLe : (cden (terms ps w ++ ex) : Int) = L at hdv
  have hL2 : 0 < L := by omega
  have e1 : (cnum (terms ps w ++ ex)).sum * w = ps.sum * L := by
    unfold cnum
    rw [hLe, List.map_append, List.sum_append, Int.add_mul, sum_terms hw ps fun p hp => hdv (rN p w, rD p w) (List.mem_append_left _ (List.mem_map_of_mem hp))]
    have : (List.map (fun r : Int × Int => r.1 * (L / r.2)) ex).sum = 0 := by
      rcases hex with e | e <;> rw [e] <;> simp
    rw [this]
    simp
  have e2 : (cnum (terms ps w ++ ex)).all (fun n => decide (0 ≤ n)) = !(ps.any fun p => decide (p * w < 0)) := by
    rw [List.not_any_eq_all_not]
    unfold cnum
    rw [hLe, List.all_map, List.all_append]
    have : List.all ex ((fun n => decide (0 ≤ n)) ∘ fun r : Int × Int => r.1 * (L / r.2)) = true := by
      rcases hex with e | e <;> rw [e] <;> simp
    rw [this, Bool.and_true]
    unfold terms
    rw [List.all_map]
    rw [Bool.eq_iff_iff, List.all_eq_true, List.all_eq_true]
    have key : ∀ p ∈ ps, (((fun n => decide (0 ≤ n)) ∘ fun r : Int × Int => r.1 * (L / r.2)) ∘ fun p => (rN p w, rD p w)) p = !decide (p * w < 0) := by
      intro p hp
      show decide (0 ≤ rN p w * (L / rD p w)) = _
      have d := rD_pos (a := p) hw
      have hd : rD p w ∣ L := hdv (rN p w, rD p w) (List.mem_append_left _ (List.mem_map_of_mem hp))
      have hq : 0 < L / rD p w := by
        have h1 : rD p w * (L / rD p w) = L := Int.mul_ediv_cancel' hd
        rcases Int.lt_trichotomy (L / rD p w) 0 with z | z | z
        · have := Int.mul_neg_of_pos_of_neg d z
          omega
        · rw [z, Int.mul_zero] at h1
          omega
        · exact z
      have : (0 ≤ rN p w * (L / rD p w)) = (0 ≤ rN p w) := propext ⟨fun h => by
        by_cases q : 0 ≤ rN p w
        · exact q
        · have := Int.mul_neg_of_neg_of_pos (show rN p w < 0 by omega) hq
          omega, fun h => Int.mul_nonneg h (by omega)⟩
      rw [decide_eq_decide.mpr (show (0 ≤ rN p w * (L / rD p w)) ↔ ¬ (p * w < 0) by rw [this, fst_neg hw]), decide_not]
    exact ⟨fun h p hp => by rw [← key p hp]; exact h p hp, fun h p hp => by rw [key p hp]; exact h p hp⟩
  rw [e2]
  congr 1
  unfold due0
  cases ps with
  | nil =>
    simp only [List.length_nil, Nat.lt_irrefl, decide_false, Bool.false_and]
    have : (cnum (terms [] w ++ ex)).sum = 0 := by
      rw [List.sum_nil, Int.zero_mul] at e1
      exact (Int.mul_eq_zero.mp e1).resolve_right hw
    rw [this, decide_eq_false (by omega)]
  | cons p t =>
    rw [show decide (0 < (p :: t).length) = true by simp, Bool.true_and]
    refine decide_eq_decide.mpr ⟨fun h => ?_, fun h => ?_⟩
    · rw [h, Int.mul_comm] at e1
      exact (Int.eq_of_mul_eq_mul_right (by omega) e1).symm
    · rw [h, Int.mul_comm w L] at e1
      exact Int.eq_of_mul_eq_mul_right hw e1
theorem ratios_ok {ps : List Int} {w : Int} (hw : w ≠ 0) (hp : ∀ p ∈ ps, p.natAbs ≤ 10) (hz : w.natAbs ≤ 1000) : ∀ r ∈ terms ps w, 0 < r.2 ∧ r.2.natAbs < 2 ^ 100 ∧ r.1.natAbs < 2 ^ 100 := by
  intro r hr
  obtain ⟨p, hm, rfl⟩ := List.mem_map.mp hr
  have := hp p hm
  exact ⟨rD_pos hw, Nat.lt_of_le_of_lt (rD_le p w hw) (Nat.lt_of_le_of_lt hz (by decide)), Nat.lt_of_le_of_lt (rN_le p w hw) (Nat.lt_of_le_of_lt this (by decide))⟩
theorem sum_le : ∀ (ps : List Int), (∀ p ∈ ps, p.natAbs ≤ 10) → ps.sum.natAbs ≤ 10 * ps.length
  | [], _ => by simp
  | p :: t, h => by
    have h1 := h p List.mem_cons_self
    have h2 := sum_le t fun z hz => h z (List.mem_cons_of_mem _ hz)
    rw [List.sum_cons, List.length_cons]
    omega
theorem any_take {ps : List Int} {w : Int} {i : Nat} {p : Int} (h : ps[i]? = some p) : ((ps.take (i + 1)).any fun p => decide (p * w < 0)) = (((ps.take i).any fun p => decide (p * w < 0)) || decide (p * w < 0)) := by
  rw [List.take_add_one, h, List.any_append]
  simp
/-- a row that is given to the maker of a plan -/
structure PRow where
  d : PyData
  ka : Addr
  la : Addr
  xs : List V
  rs : List (Int × Int)
def lotsB (rs : List (Int × Int)) : Bool := decide ((cnum rs).sum = (cden rs : Int)) && (cnum rs).all (fun n => decide (0 ≤ n))
/-- the k-th entry is fine -/
def goodP (ps : List PRow) (k : Nat) (r : PRow) : Bool := !((ps.take k).any fun q => decide (keyD q.d = keyD r.d)) && (!r.rs.isEmpty && lotsB r.rs)
structure PIn (K : PySem.W.Frag) (C : Addr) (H : Hp) (r : PRow) (x : V) : Prop where
  t : ∃ t, x = .ref t ∧ SqT K H t [.ref r.ka, .ref r.la]
  kp : plainK r.d = true
  kd : (keyD r.d).depth ≤ 8
  kk : Dp K H (.ref r.ka) r.d
  li : H r.la = some (.lst r.xs)
  ra : RatsAt C H r.xs r.rs
  le : r.rs.length ≤ 60
  bd : ∀ z ∈ r.rs, 0 < z.2 ∧ z.2.natAbs < 2 ^ 100 ∧ z.1.natAbs < 2 ^ 100
def nrows (ps : List PRow) (ls : List Addr) : List NRow := (ps.zip ls).map fun x => (x.1.d, x.1.ka, .ref x.2)
theorem nrows_snoc {ps : List PRow} {i : Nat} {r : PRow} {ls : List Addr} {a : Addr} (h : ps[i]? = some r) (hl : ls.length = i) : nrows (ps.take (i + 1)) (ls ++ [a]) = nrows (ps.take i) ls ++ [(r.d, r.ka, .ref a)] := by
  have hi := (List.getElem?_eq_some_iff.mp h).1
  unfold nrows
  rw [List.take_add_one, h, Option.toList_some, List.zip_append (by rw [List.length_take]; omega), List.map_append]
  rfl
theorem nrows_any {k : NestedKey} : ∀ {ps : List PRow} {ls : List Addr}, ps.length = ls.length → ((nrows ps ls).any fun x => decide (keyD x.1 = k)) = ps.any fun q => decide (keyD q.d = k)
  | [], [], _ => rfl
  | p :: ps, l :: ls, h => by
    have ih := nrows_any (k := k) (ps := ps) (ls := ls) (by simpa using h)
    unfold nrows at ih ⊢
    rw [List.zip_cons_cons, List.map_cons, List.any_cons, List.any_cons, ih]
  | [], _ :: _, h => by simp at h
  | _ :: _, [], h => by simp at h
theorem nrows_mem {ps : List PRow} {ls : List Addr} {x : NRow} (h : x ∈ nrows ps ls) : ∃ r ∈ ps, x.1 = r.d ∧ x.2.1 = r.ka := by
  unfold nrows at h
  obtain ⟨⟨r, a⟩, hm, rfl⟩ := List.mem_map.mp h
  exact ⟨r, (List.of_mem_zip hm).1, rfl, rfl⟩
theorem ratsAt_but {C : Addr} {H H' : Hp} {p CP dx : Addr} {xs : List V} {rs : List (Int × Int)} (hp : H p = some (.ins CP dx [])) (B : But p H H') (h : RatsAt C H xs rs) : RatsAt C H' xs rs := ⟨h.1, fun i x r hx hr => by
  obtain ⟨q, dq, e, eq⟩ := h.2 i x r hx hr
  exact ⟨q, dq, e, B _ _ (ne_of eq hp (by intro z; cases z)) eq⟩⟩
theorem ratsAt_off {C : Addr} {S : Addr → Prop} {H H' : Hp} {xs : List V} {rs : List (Int × Int)} (o : Off S H H') (n : ∀ c C dx fs, S c → H c ≠ some (.ins C dx fs)) (h : RatsAt C H xs rs) : RatsAt C H' xs rs := ⟨h.1, fun i x r hx hr => by
  obtain ⟨q, dq, e, eq⟩ := h.2 i x r hx hr
  exact ⟨q, dq, e, o _ _ (fun z => n _ _ _ _ z eq) eq⟩⟩

structure Stg where
  w : Int
  n : Int
  s : Int
/-- the stages' list and tuples -/
structure StAt (H : Hp) (l : Addr) (st : List Stg) : Prop where
  ex : ∃ xs : List V, H l = some (.lst xs) ∧ xs.length = st.length ∧ ∀ (k : Nat) (s : Stg), st[k]? = some s → ∃ t, xs[k]? = some (.ref t) ∧ H t = some (.tup [.int s.w, .int s.n, .int s.s])
  le : st.length ≤ 4
  ok : ∀ s ∈ st, 0 ≤ s.w ∧ s.w ≤ 2 ∧ 1 ≤ s.n ∧ s.n ≤ 3 ∧ 0 ≤ s.s ∧ s.s ≤ 3
theorem StAt.same {H H' : Hp} {l : Addr} {st : List Stg} (h : StAt H l st) (s : Same H H') : StAt H' l st := by
  obtain ⟨xs, e, hl, f⟩ := h.ex
  exact ⟨⟨xs, s _ _ e, hl, fun k x hx => let ⟨t, a, b⟩ := f k x hx; ⟨t, a, s _ _ b⟩⟩, h.le, h.ok⟩
theorem StAt.get {H : Hp} {l : Addr} {st : List Stg} (h : StAt H l st) {k : Nat} {s : Stg} (hs : st[k]? = some s) : ∃ xs t, H l = some (.lst xs) ∧ xs.length = st.length ∧ atI xs (k : Int) = some (.ref t) ∧ H t = some (.tup [.int s.w, .int s.n, .int s.s]) := by
  obtain ⟨xs, e, hl, f⟩ := h.ex
  obtain ⟨t, a, b⟩ := f k s hs
  exact ⟨xs, t, e, hl, atI_nat a, b⟩
def prodN : List Stg → Int
  | [] => 1
  | s :: r => s.n * prodN r
theorem prodN_snoc {s : Stg} : ∀ {st : List Stg}, prodN (st ++ [s]) = prodN st * s.n
  | [] => by simp [prodN]
  | x :: r => by
    show x.n * prodN (r ++ [s]) = x.n * prodN r * s.n
    rw [prodN_snoc, Int.mul_assoc]
def p3 : Nat → Int
  | 0 => 1
  | k + 1 => 3 * p3 k
theorem p3_pos : ∀ k, 1 ≤ p3 k
  | 0 => by decide
  | k + 1 => by
    have := p3_pos k
    show 1 ≤ 3 * p3 k
    omega
theorem p3_le {k : Nat} (h : k ≤ 4) : p3 k ≤ 81 := by
  rcases (by omega : k = 0 ∨ k = 1 ∨ k = 2 ∨ k = 3 ∨ k = 4) with rfl | rfl | rfl | rfl | rfl <;> decide
theorem show_at {j : Int} (h0 : 0 ≤ j) (h1 : j < 5) : ∃ v : Int, atI [V.int 0, V.int 0, V.int 1, V.int 2, V.int 3] j = some (.int v) ∧ 0 ≤ v ∧ v ≤ 3 := by
  rcases (by omega : j = (0 : Nat) ∨ j = (1 : Nat) ∨ j = (2 : Nat) ∨ j = (3 : Nat) ∨ j = (4 : Nat)) with rfl | rfl | rfl | rfl | rfl
  · exact ⟨0, atI_nat rfl, by decide, by decide⟩
  · exact ⟨0, atI_nat rfl, by decide, by decide⟩
  · exact ⟨1, atI_nat rfl, by decide, by decide⟩
  · exact ⟨2, atI_nat rfl, by decide, by decide⟩
  · exact ⟨3, atI_nat rfl, by decide, by decide⟩
def dRound (k : Int) : PyData := .tuple [.str "round", .int k]
def dMove (n k : Int) : PyData := .tuple [.str "move", .int n, .int k]
def dDid (x : Int) : PyData := .tuple [.str "did", .int x]
def dTold (x : Int) : PyData := .tuple [.str "told", .int x]
/-- moves asked before the k-th stage -/
def nStep (st : List Stg) : Nat → Int
  | 0 => 0
  | k + 1 => match st[k]? with
    | some s => if s.w = 0 then nStep st k else nStep st k + 1
    | none => nStep st k
/-- what a player sees of the first k stages of a path -/
def vStep (st : List Stg) (path : List Int) (pl : Int) : Nat → List PyData
  | 0 => [dRound 0]
  | k + 1 => match st[k]?, path[k]? with
    | some s, some x => (vStep st path pl k ++ (if s.w = pl then [dMove (nStep st k) s.n, dDid x] else [])) ++ (if s.s = pl ∨ s.s = 3 then [dTold x] else [])
    | _, _ => vStep st path pl k
def viewD (st : List Stg) (path : List Int) (pl : Int) : List PyData := vStep st path pl path.length
def askD (st : List Stg) (path : List Int) (s : Stg) : List PyData := viewD st path s.w ++ [dMove (nStep st path.length) s.n]
theorem vStep_len (st : List Stg) (path : List Int) (pl : Int) : ∀ k, (vStep st path pl k).length ≤ 1 + 3 * k
  | 0 => by simp [vStep]
  | k + 1 => by
    have ih := vStep_len st path pl k
    unfold vStep
    split
    · rw [List.length_append, List.length_append]
      split <;> split <;> simp <;> omega
    · omega
/-- an item of a view -/
structure Itm (d : PyData) : Prop where
  k : plainK d = true
  c : d.canLay0 = true
  e : d.depth ≤ 1
  n : (keyD d).depth ≤ 1
theorem itm_round (k : Int) : Itm (dRound k) := ⟨rfl, by simp only [dRound, PyData.canLay0, PyData.canLayAll0, Bool.and_true]; decide +kernel, by simp [dRound, PyData.depth, PyData.depthAll], by simp [dRound, keyD, keyDs, NestedKey.depth, NestedKey.depthAll]⟩
theorem itm_move (n k : Int) : Itm (dMove n k) := ⟨rfl, by simp only [dMove, PyData.canLay0, PyData.canLayAll0, Bool.and_true]; decide +kernel, by simp [dMove, PyData.depth, PyData.depthAll], by simp [dMove, keyD, keyDs, NestedKey.depth, NestedKey.depthAll]⟩
theorem itm_did (k : Int) : Itm (dDid k) := ⟨rfl, by simp only [dDid, PyData.canLay0, PyData.canLayAll0, Bool.and_true]; decide +kernel, by simp [dDid, PyData.depth, PyData.depthAll], by simp [dDid, keyD, keyDs, NestedKey.depth, NestedKey.depthAll]⟩
theorem itm_told (k : Int) : Itm (dTold k) := ⟨rfl, by simp only [dTold, PyData.canLay0, PyData.canLayAll0, Bool.and_true]; decide +kernel, by simp [dTold, PyData.depth, PyData.depthAll], by simp [dTold, keyD, keyDs, NestedKey.depth, NestedKey.depthAll]⟩
theorem vStep_itm (st : List Stg) (path : List Int) (pl : Int) : ∀ k, ∀ d ∈ vStep st path pl k, Itm d
  | 0 => fun d h => by
    rw [List.mem_singleton.mp h]
    exact itm_round 0
  | k + 1 => fun d h => by
    have ih := vStep_itm st path pl k
    unfold vStep at h
    split at h
    · rcases List.mem_append.mp h with h | h
      · rcases List.mem_append.mp h with h | h
        · exact ih d h
        · split at h
          · rcases List.mem_cons.mp h with h | h
            · rw [h]; exact itm_move _ _
            · rw [List.mem_singleton.mp h]; exact itm_did _
          · exact nomatch h
      · split at h
        · rw [List.mem_singleton.mp h]; exact itm_told _
        · exact nomatch h
    · exact ih d h
theorem vStep_head (st : List Stg) (path : List Int) (pl : Int) : ∀ k, ∃ r, vStep st path pl k = dRound 0 :: r
  | 0 => ⟨[], rfl⟩
  | k + 1 => by
    obtain ⟨r, e⟩ := vStep_head st path pl k
    unfold vStep
    split
    · rw [e]; exact ⟨_, rfl⟩
    · exact ⟨r, e⟩
structure Itms (ds : List PyData) : Prop where
  k : plainKs ds = true
  c : PyData.canLayAll0 ds = true
  d : PyData.depthAll ds ≤ 1
  n : NestedKey.depthAll (keyDs ds) ≤ 1
theorem itms : ∀ {ds : List PyData}, (∀ d ∈ ds, Itm d) → Itms ds
  | [], _ => ⟨rfl, rfl, by simp [PyData.depthAll], by simp [keyDs, NestedKey.depthAll]⟩
  | d :: ds, h => by
    have h1 := h d List.mem_cons_self
    have h2 := itms fun x hx => h x (List.mem_cons_of_mem _ hx)
    refine ⟨?_, ?_, ?_, ?_⟩
    · simp only [plainKs, h1.k, h2.k, Bool.true_and]
    · simp only [PyData.canLayAll0, h1.c, h2.c, Bool.true_and]
    · have := h1.e
      have := h2.d
      simp only [PyData.depthAll]
      omega
    · have := h1.n
      have := h2.n
      simp only [keyDs, NestedKey.depthAll]
      omega
/-- a view and a number of moves -/
abbrev Met := List PyData × Int
def mD (m : Met) : PyData := .tuple [.tuple m.1, .int m.2]
structure MOk (m : Met) : Prop where
  i : ∀ d ∈ m.1, Itm d
  h : ∃ r, m.1 = dRound 0 :: r
  l : ∃ r n, m.1 = r ++ [dMove n m.2]
  z : m.1.length ≤ 20
  n : 1 ≤ m.2 ∧ m.2 ≤ 3
theorem MOk.view {m : Met} (h : MOk m) : plainK (.tuple m.1) = true ∧ (PyData.tuple m.1).canLay0 = true ∧ (PyData.tuple m.1).depth ≤ 2 ∧ (keyD (.tuple m.1)).depth ≤ 2 := by
  have k := itms h.i
  refine ⟨by simp only [plainK, k.k], by simp only [PyData.canLay0, k.c], ?_, ?_⟩
  · have := k.d
    simp only [PyData.depth]
    omega
  · have := k.n
    simp only [keyD, NestedKey.depth]
    omega
theorem MOk.vshaped {m : Met} (h : MOk m) : SeqAt.shaped (.tuple m.1) = true := by
  obtain ⟨_, h2, h3, _⟩ := h.view
  unfold SeqAt.shaped
  rw [h2, Bool.true_and]
  exact decide_eq_true (by omega)
theorem MOk.lay {m : Met} (h : MOk m) : plainK (mD m) = true ∧ (mD m).canLay0 = true ∧ (mD m).depth ≤ 3 := by
  obtain ⟨h1, h2, h3, _⟩ := h.view
  refine ⟨by simp only [mD, plainK, plainKs, Bool.and_true] at h1 ⊢; exact h1, by simp only [mD, PyData.canLay0, PyData.canLayAll0, Bool.and_true] at h2 ⊢; exact h2, ?_⟩
  simp only [mD, PyData.depth, PyData.depthAll] at h3 ⊢
  omega
theorem MOk.shaped {m : Met} (h : MOk m) : SeqAt.shaped (mD m) = true := by
  obtain ⟨_, h2, h3⟩ := h.lay
  unfold SeqAt.shaped
  rw [h2, Bool.true_and]
  exact decide_eq_true (by omega)
theorem mets_lay : ∀ {ms : List Met}, (∀ m ∈ ms, MOk m) → plainKs (ms.map mD) = true ∧ PyData.canLayAll0 (ms.map mD) = true ∧ PyData.depthAll (ms.map mD) ≤ 3
  | [], _ => ⟨rfl, rfl, by simp [PyData.depthAll]⟩
  | m :: ms, h => by
    obtain ⟨a1, a2, a3⟩ := mets_lay fun x hx => h x (List.mem_cons_of_mem _ hx)
    obtain ⟨b1, b2, b3⟩ := (h m List.mem_cons_self).lay
    rw [List.map_cons]
    simp only [plainKs, PyData.canLayAll0, PyData.depthAll, a1, a2, b1, b2, Bool.true_and]
    exact ⟨trivial, trivial, by omega⟩
theorem mets_shaped {ms : List Met} (h : ∀ m ∈ ms, MOk m) : SeqAt.shaped (.list (ms.map mD)) = true := by
  obtain ⟨_, a2, a3⟩ := mets_lay h
  unfold SeqAt.shaped
  simp only [PyData.canLay0, PyData.depth, a2, Bool.true_and]
  exact decide_eq_true (by omega)
/-- the paths through the first k stages -/
def pStep (st : List Stg) : Nat → List (List Int)
  | 0 => [[]]
  | k + 1 => match st[k]? with
    | some s => (pStep st k).flatMap fun p => (List.range s.n.toNat).map fun (j : Nat) => p ++ [(j : Int)]
    | none => pStep st k
def pathsD (st : List Stg) : List (List Int) := pStep st st.length
theorem pStep_at {st : List Stg} {k : Nat} {s : Stg} (h : st[k]? = some s) : pStep st (k + 1) = (pStep st k).flatMap fun p => (List.range s.n.toNat).map fun (j : Nat) => p ++ [(j : Int)] := by
  show (match st[k]? with | some s => _ | none => _) = _
  rw [h]
theorem flat_len {s : Int} (hs : s ≤ 3) : ∀ l : List (List Int), (l.flatMap fun p => (List.range s.toNat).map fun (j : Nat) => p ++ [(j : Int)]).length ≤ 3 * l.length
  | [] => by simp
  | p :: l => by
    have := flat_len hs l
    rw [List.flatMap_cons, List.length_append, List.length_map, List.length_range, List.length_cons]
    omega
theorem pStep_len {st : List Stg} (h : ∀ s ∈ st, s.n ≤ 3) : ∀ k, ((pStep st k).length : Int) ≤ p3 k
  | 0 => by simp [pStep, p3]
  | k + 1 => by
    have ih := pStep_len h k
    unfold pStep p3
    split
    · rename_i s e
      have := flat_len (h s (List.mem_of_getElem? e)) (pStep st k)
      omega
    · have := p3_pos k
      omega
theorem pStep_mem {st : List Stg} : ∀ {k : Nat}, k ≤ st.length → ∀ p ∈ pStep st k, p.length = k
  | 0, _, p, h => by
    rw [List.mem_singleton.mp h]
    rfl
  | k + 1, hk, p, h => by
    have e : st[k]? = some st[k] := List.getElem?_eq_getElem (by omega)
    rw [pStep_at e] at h
    obtain ⟨q, hq, hp⟩ := List.mem_flatMap.mp h
    obtain ⟨j, _, rfl⟩ := List.mem_map.mp hp
    rw [List.length_append, pStep_mem (by omega) q hq]
    rfl
/-- lists of ints in a list that grows at L; all are newer than B -/
structure LsAt (B H : Hp) (L : Addr) (ys : List V) (ps : List (List Int)) : Prop where
  n : ys.length = ps.length
  f : ∀ (k : Nat) p, ps[k]? = some p → ∃ q, ys[k]? = some (.ref q) ∧ q ≠ L ∧ B q = none ∧ H q = some (.lst (p.map V.int))
theorem LsAt.same {B H H' : Hp} {L : Addr} {ys : List V} {ps : List (List Int)} (h : LsAt B H L ys ps) (s : Same H H') : LsAt B H' L ys ps := ⟨h.n, fun k p hp => let ⟨q, a, b, d, c⟩ := h.f k p hp; ⟨q, a, b, d, s _ _ c⟩⟩
theorem LsAt.put {B H : Hp} {L : Addr} {ys zs : List V} {ps : List (List Int)} (h : LsAt B H L ys ps) : LsAt B (upd H L (.lst zs)) L ys ps := ⟨h.n, fun k p hp => let ⟨q, a, b, d, c⟩ := h.f k p hp; ⟨q, a, b, d, by rw [upd_ne b]; exact c⟩⟩
theorem LsAt.nil {B H : Hp} {L : Addr} : LsAt B H L [] [] := ⟨rfl, fun k p h => by simp at h⟩
theorem LsAt.snoc {B H : Hp} {L q : Addr} {ys : List V} {ps : List (List Int)} {p : List Int} (h : LsAt B H L ys ps) (ne : q ≠ L) (nb : B q = none) (e : H q = some (.lst (p.map V.int))) : LsAt B H L (ys ++ [.ref q]) (ps ++ [p]) := by
  refine ⟨by rw [List.length_append, List.length_append, h.n]; rfl, fun k r hr => ?_⟩
  rcases Nat.lt_or_ge k ps.length with z | z
  · rw [List.getElem?_append_left z] at hr
    obtain ⟨q', a, b, d, c⟩ := h.f k r hr
    exact ⟨q', by rw [List.getElem?_append_left (by rw [h.n]; exact z)]; exact a, b, d, c⟩
  · have hk := (List.getElem?_eq_some_iff.mp hr).1
    rw [List.length_append, List.length_singleton] at hk
    obtain rfl : k = ps.length := by omega
    rw [List.getElem?_append_right (Nat.le_refl _), Nat.sub_self] at hr
    cases hr
    exact ⟨q, by rw [List.getElem?_append_right (by rw [h.n]; exact Nat.le_refl _), h.n, Nat.sub_self]; rfl, ne, nb, e⟩
structure PsAt (B H : Hp) (l : Addr) (ps : List (List Int)) : Prop where
  nb : B l = none
  ex : ∃ xs : List V, H l = some (.lst xs) ∧ xs.length = ps.length ∧ ∀ (k : Nat) p, ps[k]? = some p → ∃ q, xs[k]? = some (.ref q) ∧ B q = none ∧ H q = some (.lst (p.map V.int))
theorem PsAt.same {B H H' : Hp} {l : Addr} {ps : List (List Int)} (h : PsAt B H l ps) (s : Same H H') : PsAt B H' l ps := by
  obtain ⟨xs, a, b, c⟩ := h.ex
  exact ⟨h.nb, xs, s _ _ a, b, fun k p hp => let ⟨q, d, f, e⟩ := c k p hp; ⟨q, d, f, s _ _ e⟩⟩
def mItem (st : List Stg) (pl : Int) (p : List Int) (k : Nat) : Option Met := match st[k]? with
  | some s => if s.w = pl then some (askD st (p.take k) s, s.n) else none
  | none => none
def mAdd (acc : List Met) : Option Met → List Met
  | none => acc
  | some m => if acc.any (fun z => PyData.eqv (mD z) (mD m)) then acc else acc ++ [m]
def mRow (st : List Stg) (pl : Int) (p : List Int) (acc : List Met) (n : Nat) : List Met := (List.range n).foldl (fun a k => mAdd a (mItem st pl p k)) acc
def mRows (st : List Stg) (pl : Int) (ps : List (List Int)) : List Met := ps.foldl (fun a p => mRow st pl p a st.length) []
/-- the views at which a player is asked, each once -/
def metD (st : List Stg) (pl : Int) : List Met := mRows st pl (pathsD st)
theorem mAdd_old {acc : List Met} {m : Met} (h : (acc.any fun z => PyData.eqv (mD z) (mD m)) = true) : mAdd acc (some m) = acc := by
  show (if _ then _ else _) = _
  rw [if_pos h]
theorem mAdd_new {acc : List Met} {m : Met} (h : (acc.any fun z => PyData.eqv (mD z) (mD m)) = false) : mAdd acc (some m) = acc ++ [m] := by
  show (if _ then _ else _) = _
  rw [if_neg (by rw [h]; decide)]
theorem mRow_succ {st : List Stg} {pl : Int} {p : List Int} {acc : List Met} {n : Nat} : mRow st pl p acc (n + 1) = mAdd (mRow st pl p acc n) (mItem st pl p n) := by
  unfold mRow
  rw [List.range_succ, List.foldl_append]
  rfl
theorem mRows_snoc {st : List Stg} {pl : Int} {ps : List (List Int)} {p : List Int} : mRows st pl (ps ++ [p]) = mRow st pl p (mRows st pl ps) st.length := by
  unfold mRows
  rw [List.foldl_append]
  rfl
theorem mItem_ok {st : List Stg} {pl : Int} {p : List Int} {k : Nat} {m : Met} (hl : st.length ≤ 4) (ok : ∀ s ∈ st, 1 ≤ s.n ∧ s.n ≤ 3) (hp : k ≤ p.length) (h : mItem st pl p k = some m) : MOk m := by
  unfold mItem at h
  split at h
  · rename_i s e
    have hk := (List.getElem?_eq_some_iff.mp e).1
    split at h
    · cases h
      have tl : (p.take k).length = k := by rw [List.length_take]; omega
      refine ⟨fun d hd => ?_, ?_, ⟨_, _, rfl⟩, ?_, ok s (List.mem_of_getElem? e)⟩
      · rcases List.mem_append.mp hd with hd | hd
        · exact vStep_itm _ _ _ _ d hd
        · rw [List.mem_singleton.mp hd]
          exact itm_move _ _
      · obtain ⟨r, e2⟩ := vStep_head st (p.take k) s.w (p.take k).length
        exact ⟨r ++ _, by show vStep st (p.take k) s.w (p.take k).length ++ _ = _; rw [e2]; rfl⟩
      · have := vStep_len st (p.take k) s.w (p.take k).length
        show (vStep st (p.take k) s.w (p.take k).length ++ _).length ≤ 20
        rw [List.length_append]
        simp only [List.length_singleton]
        omega
    · cases h
  · cases h
/-- each view once -/
structure Mets (ms : List Met) : Prop where
  ok : ∀ m ∈ ms, MOk m
  ne : ms.Pairwise fun a b => PyData.eqv (mD a) (mD b) = false
theorem Mets.add {ms : List Met} (h : Mets ms) {o : Option Met} (ho : ∀ m, o = some m → MOk m) : Mets (mAdd ms o) := by
  cases o with
  | none => exact h
  | some m =>
    unfold mAdd
    show Mets (if _ then _ else _)
    split
    · exact h
    · rename_i n
      have n2 : ∀ x ∈ ms, PyData.eqv (mD x) (mD m) = false := fun x hx => by
        cases z : PyData.eqv (mD x) (mD m) with
        | false => rfl
        | true => exact absurd (List.any_eq_true.mpr ⟨x, hx, z⟩) n
      refine ⟨fun x hx => ?_, List.pairwise_append.mpr ⟨h.ne, List.pairwise_singleton _ _, fun a ha b hb => ?_⟩⟩
      · rcases List.mem_append.mp hx with hx | hx
        · exact h.ok x hx
        · rw [List.mem_singleton.mp hx]; exact ho m rfl
      · rw [List.mem_singleton.mp hb]
        exact n2 a ha
theorem mAdd_len {ms : List Met} {o : Option Met} : (mAdd ms o).length ≤ ms.length + 1 := by
  cases o with
  | none => exact Nat.le_succ _
  | some m =>
    show (if _ then _ else _ : List Met).length ≤ _
    split
    · exact Nat.le_succ _
    · rw [List.length_append]; exact Nat.le_refl _
theorem mets_keys {ms : List Met} (h : Mets ms) : ms.Pairwise fun a b => keyD (.tuple a.1) ≠ keyD (.tuple b.1) := by
  refine List.Pairwise.imp_of_mem ?_ h.ne
  intro a b ha hb n e
  have k := keyD_inj _ _ (h.ok a ha).view.1 (h.ok b hb).view.1 e
  have e1 : a.1 = b.1 := by injection k
  obtain ⟨r, x, ea⟩ := (h.ok a ha).l
  obtain ⟨r', x', eb⟩ := (h.ok b hb).l
  have e2 : dMove x a.2 = dMove x' b.2 := by
    have : (r ++ [dMove x a.2]).getLast? = (r' ++ [dMove x' b.2]).getLast? := by rw [← ea, ← eb, e1]
    simpa using this
  have e3 : a.2 = b.2 := by
    simp only [dMove, PyData.tuple.injEq, List.cons.injEq, PyData.int.injEq] at e2
    exact e2.2.2.1
  have e4 : a = b := Prod.ext e1 e3
  rw [e4, SeqAt.eqv_refl _ (h.ok b hb).lay.2.1] at n
  cases n
structure MetAt (K : PySem.W.Frag) (H : Hp) (l : Addr) (ms : List Met) : Prop where
  ex : ∃ xs : List V, H l = some (.lst xs) ∧ DpAll K H xs (ms.map mD)
  ok : Mets ms
theorem MetAt.same {K : PySem.W.Frag} {H H' : Hp} {l : Addr} {ms : List Met} (h : MetAt K H l ms) (s : Same H H') : MetAt K H' l ms := by
  obtain ⟨xs, a, b⟩ := h.ex
  exact ⟨⟨xs, s _ _ a, dpAll_same s _ _ b⟩, h.ok⟩
/-- the k-th view's objects -/
theorem MetAt.get {K : PySem.W.Frag} {H : Hp} {l : Addr} {ms : List Met} (h : MetAt K H l ms) {k : Nat} {m : Met} (e : ms[k]? = some m) : ∃ xs t v, H l = some (.lst xs) ∧ xs.length = ms.length ∧ xs[k]? = some (.ref t) ∧ SqT K H t [.ref v, .int m.2] ∧ Dp K H (.ref v) (.tuple m.1) := by
  obtain ⟨xs, a, b⟩ := h.ex
  obtain ⟨x, hx, hd⟩ := dpAll_get b (show (ms.map mD)[k]? = some (mD m) by rw [List.getElem?_map, e]; rfl)
  obtain ⟨t, ys, rfl, h1, h2⟩ := dp_tup hd
  cases h2 with
  | cons g1 g2 =>
    cases g2 with
    | cons g3 g4 =>
      cases g3
      cases g4
      obtain ⟨v, vs, rfl, _⟩ := dp_tup g1
      exact ⟨xs, t, v, a, by have := dpAll_len b; rw [this, List.length_map], hx, h1, g1⟩

inductive Tr where
  | fin (p : Int)
  | lot (ps : List Tr)
  | turn (pl : Int) (v : List PyData) (ps : List Tr)
mutual
inductive TrAt (K : PySem.W.Frag) (CE CL CT : Addr) (H : Hp) : V → Tr → Prop where
  | fin {a dx : Addr} {p : Int} : H a = some (.ins CE dx (F_End (.int p))) → TrAt K CE CL CT H (.ref a) (.fin p)
  | lot {a dx t : Addr} {xs : List V} {ps : List Tr} : H a = some (.ins CL dx (F_Lot (.ref t))) → H t = some (.tup xs) → TrsAt K CE CL CT H xs ps → TrAt K CE CL CT H (.ref a) (.lot ps)
  | turn {a dx v t : Addr} {pl : Int} {vd : List PyData} {xs : List V} {ps : List Tr} : H a = some (.ins CT dx (F_Turn (.int pl) (.ref v) (.ref t))) → Dp K H (.ref v) (.tuple vd) → Itms vd → H t = some (.tup xs) → TrsAt K CE CL CT H xs ps → TrAt K CE CL CT H (.ref a) (.turn pl vd ps)
inductive TrsAt (K : PySem.W.Frag) (CE CL CT : Addr) (H : Hp) : List V → List Tr → Prop where
  | nil : TrsAt K CE CL CT H [] []
  | cons {x : V} {xs : List V} {t : Tr} {ts : List Tr} : TrAt K CE CL CT H x t → TrsAt K CE CL CT H xs ts → TrsAt K CE CL CT H (x :: xs) (t :: ts)
end
theorem Itms.plain {ds : List PyData} (h : Itms ds) : plainK (.tuple ds) = true ∧ (keyD (.tuple ds)).depth ≤ 2 := by
  refine ⟨by simp only [plainK, h.k], ?_⟩
  have := h.n
  simp only [keyD, NestedKey.depth]
  omega
mutual
theorem trAt_off {K : PySem.W.Frag} {CE CL CT : Addr} {S : Addr → Prop} {H H' : Hp} (o : Off S H H') (n : NoT S H) (ni : ∀ c C dx fs, S c → H c ≠ some (.ins C dx fs)) : ∀ (t : Tr) (v : V), TrAt K CE CL CT H v t → TrAt K CE CL CT H' v t
  | .fin p, _, h => by
    cases h with
    | fin e => exact .fin (o _ _ (fun z => ni _ _ _ _ z e) e)
  | .lot ps, _, h => by
    cases h with
    | lot e e2 hs => exact .lot (o _ _ (fun z => ni _ _ _ _ z e) e) (o _ _ (fun z => (n _ _ z).1 e2) e2) (trsAt_off o n ni ps _ hs)
  | .turn pl vd ps, _, h => by
    cases h with
    | turn e dv iv e2 hs => exact .turn (o _ _ (fun z => ni _ _ _ _ z e) e) (dp_off o n _ _ iv.plain.1 dv) iv (o _ _ (fun z => (n _ _ z).1 e2) e2) (trsAt_off o n ni ps _ hs)
theorem trsAt_off {K : PySem.W.Frag} {CE CL CT : Addr} {S : Addr → Prop} {H H' : Hp} (o : Off S H H') (n : NoT S H) (ni : ∀ c C dx fs, S c → H c ≠ some (.ins C dx fs)) : ∀ (ts : List Tr) (vs : List V), TrsAt K CE CL CT H vs ts → TrsAt K CE CL CT H' vs ts
  | [], _, h => by cases h; exact .nil
  | t :: ts, _, h => by
    cases h with
    | cons h1 h2 => exact .cons (trAt_off o n ni t _ h1) (trsAt_off o n ni ts _ h2)
end
theorem trAt_same {K : PySem.W.Frag} {CE CL CT : Addr} {H H' : Hp} (s : Same H H') {t : Tr} {v : V} (h : TrAt K CE CL CT H v t) : TrAt K CE CL CT H' v t := trAt_off (S := fun _ => False) (fun c o _ e => s c o e) (fun c xs z => z.elim) (fun c C dx fs z => z.elim) t v h
theorem trsAt_same {K : PySem.W.Frag} {CE CL CT : Addr} {H H' : Hp} (s : Same H H') {t : List Tr} {v : List V} (h : TrsAt K CE CL CT H v t) : TrsAt K CE CL CT H' v t := trsAt_off (S := fun _ => False) (fun c o _ e => s c o e) (fun c xs z => z.elim) (fun c C dx fs z => z.elim) t v h
theorem trsAt_len {K : PySem.W.Frag} {CE CL CT : Addr} {H : Hp} : ∀ {ts : List Tr} {vs : List V}, TrsAt K CE CL CT H vs ts → vs.length = ts.length
  | [], _, h => by cases h; rfl
  | t :: ts, _, h => by
    cases h with
    | cons h1 h2 => rw [List.length_cons, List.length_cons, trsAt_len h2]
theorem trsAt_get {K : PySem.W.Frag} {CE CL CT : Addr} {H : Hp} : ∀ {ts : List Tr} {vs : List V} {i : Nat} {t : Tr}, TrsAt K CE CL CT H vs ts → ts[i]? = some t → ∃ v, vs[i]? = some v ∧ TrAt K CE CL CT H v t
  | [], _, _, _, _, h => by simp at h
  | t :: ts, _, 0, _, h, e => by
    cases e
    cases h with
    | cons h1 h2 => exact ⟨_, rfl, h1⟩
  | t :: ts, _, i + 1, u, h, e => by
    have e' : ts[i]? = some u := by simpa using e
    cases h with
    | cons h1 h2 =>
      obtain ⟨v, hv, hv2⟩ := trsAt_get h2 e'
      exact ⟨v, by simpa using hv, hv2⟩
theorem trsAt_snoc {K : PySem.W.Frag} {CE CL CT : Addr} {H : Hp} {t : Tr} {v : V} (h : TrAt K CE CL CT H v t) : ∀ {ts : List Tr} {vs : List V}, TrsAt K CE CL CT H vs ts → TrsAt K CE CL CT H (vs ++ [v]) (ts ++ [t])
  | [], _, k => by cases k; exact .cons h .nil
  | _ :: _, _, k => by
    cases k with
    | cons h1 h2 => exact .cons h1 (trsAt_snoc h h2)
/-- the place of a path among the payments -/
def idxD (st : List Stg) (path : List Int) : Nat → Int
  | 0 => 0
  | k + 1 => match st[k]?, path[k]? with
    | some s, some x => idxD st path k * s.n + x
    | _, _ => idxD st path k
def PathIn (st : List Stg) (path : List Int) : Prop := ∀ (j : Nat) x s, path[j]? = some x → st[j]? = some s → 0 ≤ x ∧ x < s.n
theorem idx_bd {st : List Stg} {path : List Int} (h : PathIn st path) : ∀ {k : Nat}, k ≤ path.length → k ≤ st.length → 0 ≤ idxD st path k ∧ idxD st path k < prodN (st.take k)
  | 0, _, _ => ⟨Int.le_refl _, by show (0 : Int) < 1; decide⟩
  | k + 1, hp, hs => by
    obtain ⟨h1, h2⟩ := idx_bd h (k := k) (by omega) (by omega)
    have es : st[k]? = some st[k] := List.getElem?_eq_getElem (by omega)
    have ep : path[k]? = some path[k] := List.getElem?_eq_getElem (by omega)
    have hb := h k _ _ ep es
    have e : idxD st path (k + 1) = idxD st path k * (st[k]).n + path[k] := by
      show (match st[k]?, path[k]? with | some s, some x => _ | _, _ => _) = _
      rw [es, ep]
    rw [e, List.take_add_one, es, Option.toList_some, prodN_snoc]
    have h3 := Int.mul_nonneg h1 (show 0 ≤ (st[k]).n by omega)
    have h4 : (idxD st path k + 1) * (st[k]).n ≤ prodN (st.take k) * (st[k]).n := Int.mul_le_mul_of_nonneg_right (by omega) (by omega)
    rw [Int.add_mul] at h4
    omega
/-- the tree below a path -/
def nodeD (st : List Stg) (paid : List Int) : Nat → List Int → Tr
  | 0, path => .fin (paid.getD (idxD st path path.length).toNat 0)
  | f + 1, path => match st[path.length]? with
    | some s => if s.w = 0 then .lot ((List.range s.n.toNat).map fun (j : Nat) => nodeD st paid f (path ++ [(j : Int)])) else .turn s.w (askD st path s) ((List.range s.n.toNat).map fun (j : Nat) => nodeD st paid f (path ++ [(j : Int)]))
    | none => .fin 0
theorem nodeD_at {st : List Stg} {paid : List Int} {f : Nat} {path : List Int} {s : Stg} (h : st[path.length]? = some s) : nodeD st paid (f + 1) path = if s.w = 0 then .lot ((List.range s.n.toNat).map fun (j : Nat) => nodeD st paid f (path ++ [(j : Int)])) else .turn s.w (askD st path s) ((List.range s.n.toNat).map fun (j : Nat) => nodeD st paid f (path ++ [(j : Int)])) := by
  show (match st[path.length]? with | some s => _ | none => _) = _
  rw [h]
theorem path_snoc {st : List Stg} {path : List Int} {x : Int} {s : Stg} (h : PathIn st path) (hs : st[path.length]? = some s) (hx : 0 ≤ x ∧ x < s.n) : PathIn st (path ++ [x]) := fun j y s' hy hs' => by
  rcases Nat.lt_or_ge j path.length with z | z
  · rw [List.getElem?_append_left z] at hy
    exact h j y s' hy hs'
  · have hj := (List.getElem?_eq_some_iff.mp hy).1
    rw [List.length_append, List.length_singleton] at hj
    obtain rfl : j = path.length := by omega
    rw [List.getElem?_append_right (Nat.le_refl _), Nat.sub_self] at hy
    cases hy
    rw [hs] at hs'
    cases hs'
    exact hx
theorem ask_itms {st : List Stg} {path : List Int} {s : Stg} : Itms (askD st path s) := itms fun d h => by
  rcases List.mem_append.mp h with h | h
  · exact vStep_itm _ _ _ _ d h
  · rw [List.mem_singleton.mp h]
    exact itm_move _ _
def kAdd (acc : List Met) (m : Met) : List Met := if (acc.any fun z => decide (keyD (.tuple z.1) = keyD (.tuple m.1))) = true then acc else acc ++ [m]
mutual
/-- the views of a tree, in the order in which they are met -/
def collD (pl : Int) : Tr → List Met → List Met
  | .fin _, acc => acc
  | .lot ps, acc => collsD pl ps acc
  | .turn p v ps, acc => collsD pl ps (if p = pl then kAdd acc (v, (ps.length : Int)) else acc)
def collsD (pl : Int) : List Tr → List Met → List Met
  | [], acc => acc
  | t :: ts, acc => collsD pl ts (collD pl t acc)
end
mutual
def hgt : Tr → Nat
  | .fin _ => 0
  | .lot ps => hgts ps + 1
  | .turn _ _ ps => hgts ps + 1
def hgts : List Tr → Nat
  | [] => 0
  | t :: ts => max (hgt t) (hgts ts)
end
mutual
def szT : Tr → Nat
  | .fin _ => 1
  | .lot ps => szTs ps + 1
  | .turn _ _ ps => szTs ps + 1
def szTs : List Tr → Nat
  | [] => 0
  | t :: ts => szT t + szTs ts
end
theorem collsD_snoc {pl : Int} {t : Tr} : ∀ {ts : List Tr} {acc : List Met}, collsD pl (ts ++ [t]) acc = collD pl t (collsD pl ts acc)
  | [], acc => rfl
  | u :: ts, acc => by
    show collsD pl (ts ++ [t]) (collD pl u acc) = collD pl t (collsD pl ts (collD pl u acc))
    exact collsD_snoc
theorem hgts_mem {t : Tr} : ∀ {ts : List Tr}, t ∈ ts → hgt t ≤ hgts ts
  | u :: ts, h => by
    show hgt t ≤ max (hgt u) (hgts ts)
    rcases List.mem_cons.mp h with h' | h'
    · rw [h']
      omega
    · have := hgts_mem h'
      omega
theorem szTs_take {t : Tr} : ∀ {ts : List Tr} {i : Nat}, ts[i]? = some t → szTs (ts.take i) + szT t ≤ szTs ts
  | u :: ts, 0, h => by
    have e : u = t := by simpa using h
    rw [e]
    show 0 + szT t ≤ szT t + szTs ts
    omega
  | u :: ts, i + 1, h => by
    have h' : ts[i]? = some t := by simpa using h
    have := szTs_take h'
    show szT u + szTs (ts.take i) + szT t ≤ szT u + szTs ts
    omega
theorem kAdd_len {acc : List Met} {m : Met} : (kAdd acc m).length ≤ acc.length + 1 := by
  unfold kAdd
  split
  · exact Nat.le_succ _
  · rw [List.length_append]; exact Nat.le_refl _
mutual
theorem coll_len {pl : Int} : ∀ (t : Tr) (acc : List Met), (collD pl t acc).length ≤ acc.length + szT t
  | .fin _, acc => Nat.le_succ _
  | .lot ps, acc => by
    have := colls_len (pl := pl) ps acc
    show (collsD pl ps acc).length ≤ acc.length + (szTs ps + 1)
    omega
  | .turn p v ps, acc => by
    have := colls_len (pl := pl) ps (if p = pl then kAdd acc (v, (ps.length : Int)) else acc)
    have h2 : (if p = pl then kAdd acc (v, (ps.length : Int)) else acc).length ≤ acc.length + 1 := by
      split
      · exact kAdd_len
      · exact Nat.le_succ _
    show (collsD pl ps _).length ≤ acc.length + (szTs ps + 1)
    omega
theorem colls_len {pl : Int} : ∀ (ts : List Tr) (acc : List Met), (collsD pl ts acc).length ≤ acc.length + szTs ts
  | [], acc => Nat.le_refl _
  | t :: ts, acc => by
    have h1 := coll_len (pl := pl) t acc
    have h2 := colls_len (pl := pl) ts (collD pl t acc)
    show (collsD pl ts (collD pl t acc)).length ≤ acc.length + (szT t + szTs ts)
    omega
end
/-- the dict of the views that were found -/
structure DAt (P : Program) (w : World) (K : PySem.W.Frag) (H : Hp) (d : Addr) (ms : List Met) : Prop where
  ex : ∃ xs : List NRow, H d = some (ndO P w d xs) ∧ xs.length = ms.length ∧ ∀ (k : Nat) m, ms[k]? = some m → ∃ v, xs[k]? = some (.tuple m.1, v, .int m.2) ∧ Dp K H (.ref v) (.tuple m.1)
  ok : ∀ m ∈ ms, Itms m.1
theorem DAt.row {P : Program} {w : World} {K : PySem.W.Frag} {H : Hp} {d : Addr} {ms : List Met} (h : DAt P w K H d ms) : ∃ xs : List NRow, H d = some (ndO P w d xs) ∧ xs.length = ms.length ∧ NKeys K H xs ∧ (∀ key, (nAt xs key).isSome = ms.any fun z => decide (keyD (.tuple z.1) = key)) ∧ ∀ (k : Nat) m, ms[k]? = some m → ∃ v, xs[k]? = some (.tuple m.1, v, .int m.2) ∧ Dp K H (.ref v) (.tuple m.1) := by
  obtain ⟨xs, e, hl, hf⟩ := h.ex
  have back : ∀ (k : Nat) y, xs[k]? = some y → ∃ m v, ms[k]? = some m ∧ y = (.tuple m.1, v, .int m.2) ∧ Dp K H (.ref v) (.tuple m.1) := fun k y hy => by
    obtain ⟨m, hm⟩ : ∃ m, ms[k]? = some m := ⟨_, List.getElem?_eq_getElem (by have := (List.getElem?_eq_some_iff.mp hy).1; omega)⟩
    obtain ⟨v, e1, e2⟩ := hf k m hm
    rw [hy] at e1
    cases e1
    exact ⟨m, v, hm, rfl, e2⟩
  refine ⟨xs, e, hl, fun y hy => ?_, fun key => ?_, hf⟩
  · obtain ⟨k, hk⟩ := List.mem_iff_getElem?.mp hy
    obtain ⟨m, v, e1, rfl, e2⟩ := back k y hk
    have it := (h.ok m (List.mem_of_getElem? e1)).plain
    exact ⟨it.1, by have := it.2; show (keyD (.tuple m.1)).depth ≤ 8; omega, e2⟩
  · rw [nAt_any, Bool.eq_iff_iff, List.any_eq_true, List.any_eq_true]
    constructor
    · rintro ⟨y, hy, hd⟩
      obtain ⟨k, hk⟩ := List.mem_iff_getElem?.mp hy
      obtain ⟨m, v, e1, rfl, _⟩ := back k y hk
      exact ⟨m, List.mem_of_getElem? e1, hd⟩
    · rintro ⟨m, hm, hd⟩
      obtain ⟨k, hk⟩ := List.mem_iff_getElem?.mp hm
      obtain ⟨v, e1, _⟩ := hf k m hk
      exact ⟨_, List.mem_of_getElem? e1, hd⟩
theorem noT_nd {P : Program} {w : World} {H : Hp} {d : Addr} {xs : List NRow} (e : H d = some (ndO P w d xs)) : NoT (fun c => c = d) H ∧ ∀ c C dx fs, c = d → H c ≠ some (.ins C dx fs) := ⟨fun c ys z => by
  rw [z, e]
  exact ⟨fun e => (by cases e), fun o e => (by cases e)⟩, fun c C dx fs z => by
  rw [z, e]
  intro e
  cases e⟩

theorem dp1 {K : PySem.W.Frag} {H : Hp} {xs : List V} {a : PyData} (h : DpAll K H xs [a]) : ∃ x, xs = [x] ∧ Dp K H x a := by
  cases h with | cons h1 h2 => cases h2; exact ⟨_, rfl, h1⟩
theorem dp2 {K : PySem.W.Frag} {H : Hp} {xs : List V} {a b : PyData} (h : DpAll K H xs [a, b]) : ∃ x y, xs = [x, y] ∧ Dp K H x a ∧ Dp K H y b := by
  cases h with | cons h1 h2 => cases h2 with | cons h3 h4 => cases h4; exact ⟨_, _, rfl, h1, h3⟩
theorem dp3 {K : PySem.W.Frag} {H : Hp} {xs : List V} {a b c : PyData} (h : DpAll K H xs [a, b, c]) : ∃ x y z, xs = [x, y, z] ∧ Dp K H x a ∧ Dp K H y b ∧ Dp K H z c := by
  cases h with | cons h1 h2 => cases h2 with | cons h3 h4 => cases h4 with | cons h5 h6 => cases h6; exact ⟨_, _, _, rfl, h1, h3, h5⟩
theorem dp4 {K : PySem.W.Frag} {H : Hp} {xs : List V} {a b c d : PyData} (h : DpAll K H xs [a, b, c, d]) : ∃ x y z w, xs = [x, y, z, w] ∧ Dp K H x a ∧ Dp K H y b ∧ Dp K H z c ∧ Dp K H w d := by
  cases h with | cons h1 h2 => cases h2 with | cons h3 h4 => cases h4 with | cons h5 h6 => cases h6 with | cons h7 h8 => cases h8; exact ⟨_, _, _, _, rfl, h1, h3, h5, h7⟩
theorem dpS {K : PySem.W.Frag} {H : Hp} {x : V} {z : Str} (h : Dp K H x (.str z)) : x = .str z := by cases h; rfl
theorem dpI {K : PySem.W.Frag} {H : Hp} {x : V} {z : Int} (h : Dp K H x (.int z)) : x = .int z := by cases h; rfl
theorem at_get {seen : List Int} {k : Int} (h0 : 0 ≤ k) (h : k < seen.length) : atI (seen.map V.int) k = some (.int (seen.getD k.toNat 0)) := at_int h0 h
theorem sign_ne {s : Nat} (h : s < 7) : ¬ signS s = "number" ∧ ¬ signS s = "variable" ∧ ¬ signS s = "long" ∧ ¬ signS s = "view" ∧ ¬ signS s = "pick" := by
  rcases sign_cases h with rfl | rfl | rfl | rfl | rfl | rfl | rfl <;> decide +kernel

inductive It where
  | st (s : Stm)
  | rd (n : Int)
def itD : It → PyData
  | .st s => stD s
  | .rd n => dRound n
def chD : List It → PyData
  | [] => .none
  | i :: r => .tuple [itD i, chD r]
mutual
def wS : Stm → Nat
  | .whn _ a b => wSs a + wSs b + 1
  | .iff _ a b => wSs a + wSs b + 1
  | .set _ _ => 1
  | .shw _ _ => 1
  | .pay _ _ => 1
  | .drw _ _ => 1
  | .mov _ _ _ _ => 1
def wSs : List Stm → Nat
  | [] => 0
  | s :: r => wS s + wSs r
end
mutual
def dcS : Stm → Nat
  | .whn _ a b => dcSs a + dcSs b
  | .iff _ a b => dcSs a + dcSs b
  | .set _ _ => 0
  | .shw _ _ => 0
  | .pay _ _ => 0
  | .drw _ _ => 1
  | .mov _ _ _ _ => 1
def dcSs : List Stm → Nat
  | [] => 0
  | s :: r => dcS s + dcSs r
end
def wI : It → Nat
  | .st s => wS s
  | .rd _ => 1
def wIs : List It → Nat
  | [] => 0
  | i :: r => wI i + wIs r
def dcI : It → Nat
  | .st s => dcS s
  | .rd _ => 0
def dcIs : List It → Nat
  | [] => 0
  | i :: r => dcI i + dcIs r
theorem wI_app : ∀ (l : List Stm) (r : List It), wIs (l.map .st ++ r) = wSs l + wIs r
  | [], r => (Nat.zero_add _).symm
  | s :: l, r => by
    show wS s + wIs (l.map .st ++ r) = wS s + wSs l + wIs r
    rw [wI_app l r, Nat.add_assoc]
theorem dcI_app : ∀ (l : List Stm) (r : List It), dcIs (l.map .st ++ r) = dcSs l + dcIs r
  | [], r => (Nat.zero_add _).symm
  | s :: l, r => by
    show dcS s + dcIs (l.map .st ++ r) = dcS s + dcSs l + dcIs r
    rw [dcI_app l r, Nat.add_assoc]
theorem wS_pos : ∀ s : Stm, 1 ≤ wS s
  | .whn _ a b => by show 1 ≤ wSs a + wSs b + 1; omega
  | .iff _ a b => by show 1 ≤ wSs a + wSs b + 1; omega
  | .set _ _ => Nat.le_refl _
  | .shw _ _ => Nat.le_refl _
  | .pay _ _ => Nat.le_refl _
  | .drw _ _ => Nat.le_refl _
  | .mov _ _ _ _ => Nat.le_refl _
theorem wI_pos : ∀ i : It, 1 ≤ wI i
  | .st s => wS_pos s
  | .rd _ => Nat.le_refl _
structure Ev where
  sz : Str → Int
  on : Str → Bool
def tput (tab : Str → Int) (x : Str) (v : Int) : Str → Int := fun y => if y = x then v else tab y
def shw1 (i : Int) (s : List PyData) (d : PyData) : List PyData := if i = 2 then s else s ++ [d]
def shw2 (i : Int) (s : List PyData) (d : PyData) : List PyData := if i = 1 then s else s ++ [d]
def partsB {T : Type} (f : Int → Int → Option (T × Int)) : Nat → Int → Option (List T × Int)
  | 0, l => some ([], l)
  | n + 1, l => match partsB f n l with
    | none => none
    | some (ts, l1) => match f n l1 with
      | none => none
      | some (t, l2) => some (ts ++ [t], l2)
theorem parts_succ {T : Type} {f : Int → Int → Option (T × Int)} {n : Nat} {l l1 l2 : Int} {ts : List T} {t : T} (h : partsB f n l = some (ts, l1)) (h2 : f n l1 = some (t, l2)) : partsB f (n + 1) l = some (ts ++ [t], l2) := by
  show (match partsB f n l with | none => none | some (ts, l1) => match f n l1 with | none => none | some (t, l2) => some (ts ++ [t], l2)) = _
  rw [h]
  show (match f n l1 with | none => none | some (t, l2) => some (ts ++ [t], l2)) = _
  rw [h2]
theorem parts_stop {T : Type} {f : Int → Int → Option (T × Int)} {n : Nat} {l : Int} (h : partsB f n l = none) : partsB f (n + 1) l = none := by
  show (match partsB f n l with | none => none | some (ts, l1) => match f n l1 with | none => none | some (t, l2) => some (ts ++ [t], l2)) = _
  rw [h]
theorem parts_none {T : Type} {f : Int → Int → Option (T × Int)} {n : Nat} {l l1 : Int} {ts : List T} (h : partsB f n l = some (ts, l1)) (h2 : f n l1 = none) : ∀ m, n < m → partsB f m l = none := by
  intro m hm
  obtain ⟨d, rfl⟩ : ∃ d, m = n + 1 + d := ⟨m - n - 1, by omega⟩
  clear hm
  induction d with
  | zero =>
    show (match partsB f n l with | none => none | some (ts, l1) => match f n l1 with | none => none | some (t, l2) => some (ts ++ [t], l2)) = _
    rw [h]
    show (match f n l1 with | none => none | some (t, l2) => some (ts ++ [t], l2)) = _
    rw [h2]
  | succ d ih =>
    show (match partsB f (n + 1 + d) l with | none => none | some (ts, l1) => match f _ l1 with | none => none | some (t, l2) => some (ts ++ [t], l2)) = _
    rw [ih]
def runB (e : Ev) : List It → (Str → Int) → List PyData → List PyData → Int → Int → Option (Tr × Int)
  | [], _, _, _, paid, left => if left - 1 < 0 then none else some (.fin paid, left - 1)
  | .rd n :: r, tab, s1, s2, paid, left => runB e r tab (s1 ++ [dRound n]) (s2 ++ [dRound n]) paid left
  | .st (.set x ex) :: r, tab, s1, s2, paid, left => runB e r (tput tab x (evalE tab e.on [] ex % e.sz x)) s1 s2 paid left
  | .st (.shw i ex) :: r, tab, s1, s2, paid, left => runB e r tab (shw1 i s1 (dTold (evalE tab e.on [] ex))) (shw2 i s2 (dTold (evalE tab e.on [] ex))) paid left
  | .st (.pay k ex) :: r, tab, s1, s2, paid, left => runB e r tab s1 s2 (if k = true then paid - evalE tab e.on [] ex else paid + evalE tab e.on [] ex) left
  | .st (.whn x a b) :: r, tab, s1, s2, paid, left => if e.on x = true then runB e (a.map .st ++ r) tab s1 s2 paid left else runB e (b.map .st ++ r) tab s1 s2 paid left
  | .st (.iff t a b) :: r, tab, s1, s2, paid, left => if evalE tab e.on [] t = 0 then runB e (b.map .st ++ r) tab s1 s2 paid left else runB e (a.map .st ++ r) tab s1 s2 paid left
  | .st (.drw x n) :: r, tab, s1, s2, paid, left => if left - 1 < 0 then none else
    match partsB (fun k l => runB e r (tput tab x (k % e.sz x)) s1 s2 paid l) n.toNat (left - 1) with
    | none => none
    | some (ts, l) => some (.lot ts, l)
  | .st (.mov pl x n c) :: r, tab, s1, s2, paid, left => if left - 1 < 0 then none else
    match partsB (fun k l => runB e r (tput tab x (k % e.sz x)) (shw1 pl (shw1 pl s1 (dMove c n)) (dDid k)) (shw2 pl (shw2 pl s2 (dMove c n)) (dDid k)) paid l) n.toNat (left - 1) with
    | none => none
    | some (ts, l) => some (.turn pl (if pl = 1 then shw1 pl s1 (dMove c n) else shw2 pl s2 (dMove c n)) ts, l)
termination_by l => wIs l
decreasing_by
  all_goals simp_wf
  all_goals first
    | (rw [wI_app]; show _ < wI _ + _; simp only [wI, wS]; omega)
    | (show _ < wI _ + _; have := wI_pos (It.rd 0); simp only [wI, wS]; omega)

section
variable {e : Ev} {r : List It} {tab : Str → Int} {s1 s2 : List PyData} {paid left : Int}
theorem runB_nil : runB e [] tab s1 s2 paid left = if left - 1 < 0 then none else some (.fin paid, left - 1) := by rw [runB]
theorem runB_rd {n : Int} : runB e (.rd n :: r) tab s1 s2 paid left = runB e r tab (s1 ++ [dRound n]) (s2 ++ [dRound n]) paid left := by rw [runB]
theorem runB_set {x : Str} {ex : Ex} : runB e (.st (.set x ex) :: r) tab s1 s2 paid left = runB e r (tput tab x (evalE tab e.on [] ex % e.sz x)) s1 s2 paid left := by rw [runB]
theorem runB_shw {i : Int} {ex : Ex} : runB e (.st (.shw i ex) :: r) tab s1 s2 paid left = runB e r tab (shw1 i s1 (dTold (evalE tab e.on [] ex))) (shw2 i s2 (dTold (evalE tab e.on [] ex))) paid left := by rw [runB]
theorem runB_pay {k : Bool} {ex : Ex} : runB e (.st (.pay k ex) :: r) tab s1 s2 paid left = runB e r tab s1 s2 (if k = true then paid - evalE tab e.on [] ex else paid + evalE tab e.on [] ex) left := by rw [runB]
theorem runB_whn {x : Str} {a b : List Stm} : runB e (.st (.whn x a b) :: r) tab s1 s2 paid left = runB e ((if e.on x = true then a else b).map .st ++ r) tab s1 s2 paid left := by
  rw [runB]
  split <;> rfl
theorem runB_iff {x : Ex} {a b : List Stm} : runB e (.st (.iff x a b) :: r) tab s1 s2 paid left = runB e ((if evalE tab e.on [] x = 0 then b else a).map .st ++ r) tab s1 s2 paid left := by
  rw [runB]
  split <;> rfl
theorem runB_drw {x : Str} {n : Int} : runB e (.st (.drw x n) :: r) tab s1 s2 paid left = if left - 1 < 0 then none else
    match partsB (fun k l => runB e r (tput tab x (k % e.sz x)) s1 s2 paid l) n.toNat (left - 1) with
    | none => none
    | some (ts, l) => some (.lot ts, l) := by rw [runB]
theorem runB_mov {pl n c : Int} {x : Str} : runB e (.st (.mov pl x n c) :: r) tab s1 s2 paid left = if left - 1 < 0 then none else
    match partsB (fun k l => runB e r (tput tab x (k % e.sz x)) (shw1 pl (shw1 pl s1 (dMove c n)) (dDid k)) (shw2 pl (shw2 pl s2 (dMove c n)) (dDid k)) paid l) n.toNat (left - 1) with
    | none => none
    | some (ts, l) => some (.turn pl (if pl = 1 then shw1 pl s1 (dMove c n) else shw2 pl s2 (dMove c n)) ts, l) := by rw [runB]
end
theorem itD_noL : ∀ i : It, noL (itD i) = true
  | .st s => plain_noL _ (stD_plain s)
  | .rd n => rfl
theorem chD_noL : ∀ l : List It, noL (chD l) = true
  | [] => rfl
  | i :: r => by
    show (noL (itD i) && (noL (chD r) && true)) = true
    rw [itD_noL i, chD_noL r]
    rfl
mutual
/-- statements over these variables and options -/
def StG (ns ps : List Str) : Stm → Prop
  | .set x e => x ∈ ns ∧ ExIn ns ps 13 e
  | .shw _ e => ExIn ns ps 13 e
  | .pay _ e => ExIn ns ps 13 e
  | .drw x n => x ∈ ns ∧ 0 ≤ n ∧ n ≤ 10000
  | .mov pl x n _ => x ∈ ns ∧ (0 ≤ n ∧ n ≤ 10000) ∧ 0 ≤ pl ∧ pl ≤ 2
  | .whn x a b => x ∈ ps ∧ StGs ns ps a ∧ StGs ns ps b
  | .iff t a b => ExIn ns ps 13 t ∧ StGs ns ps a ∧ StGs ns ps b
def StGs (ns ps : List Str) : List Stm → Prop
  | [] => True
  | s :: r => StG ns ps s ∧ StGs ns ps r
end
def ItG (ns ps : List Str) : List It → Prop
  | [] => True
  | .st s :: r => StG ns ps s ∧ ItG ns ps r
  | .rd _ :: r => ItG ns ps r
theorem itG_app {ns ps : List Str} : ∀ {a : List Stm} {r : List It}, StGs ns ps a → ItG ns ps r → ItG ns ps (a.map .st ++ r)
  | [], _, _, h => h
  | _ :: _, _, h, k => ⟨h.1, itG_app h.2 k⟩
structure Gm where
  os : List (Str × Bool)
  vs : List (Str × Int)
  rs : List (Str × List Stm)
def osD (g : Gm) : List PyData := g.os.map fun p => .tuple [.str p.1, .bool p.2]
def vsD (g : Gm) : List PyData := g.vs.map fun p => .tuple [.str p.1, .int p.2]
def rdsD (g : Gm) : List PyData := g.rs.map fun p => .tuple [.str p.1, .tuple (stDs p.2)]
structure GmAt (K : PySem.W.Frag) (C : Addr) (H : Hp) (a : Addr) (g : Gm) : Prop where
  ex : ∃ dx o v r xo xv, H a = some (.ins C dx (F_Game (.ref o) (.ref v) (.ref r))) ∧ KnT H o xo ∧ DpAll K H xo (osD g) ∧ KnT H v xv ∧ DpAll K H xv (vsD g) ∧ Dp K H (.ref r) (.tuple (rdsD g))
theorem GmAt.same {K : PySem.W.Frag} {C : Addr} {H H' : Hp} {a : Addr} {g : Gm} (h : GmAt K C H a g) (s : Same H H') : GmAt K C H' a g := by
  obtain ⟨dx, o, v, r, xo, xv, e, k1, d1, k2, d2, d3⟩ := h.ex
  exact ⟨dx, o, v, r, xo, xv, s _ _ e, k1.same s, dpAll_same s _ _ d1, k2.same s, dpAll_same s _ _ d2, dp_same s _ _ d3⟩
def ArgK (K : PySem.W.Frag) (H : Hp) (a : Addr) (xs : List V) : Prop := SqL K H a xs ∨ KnT H a xs
theorem ArgK.go {K : PySem.W.Frag} {H : Hp} {Q : VK} {a : Addr} {xs : List V} (h : ArgK K H a xs) (q : ∀ l H', Same H H' → KnT H' l xs → Q (.ref l) H') : qTupG K [.ref a] H Q := h.elim (fun z => go_tupGL z fun l H' _ s k => q l H' s k) fun k => go_tupGT k.sq (q a H (Same.refl _) k)
theorem go_tupB {K : PySem.W.Frag} {H : Hp} {Q : VK} {a : Addr} {xs : List V} (h : SqL K H a xs ∨ SqT K H a xs) (q : ∀ l H', Same H H' → SqT K H' l xs → Q (.ref l) H') : qTupG K [.ref a] H Q := h.elim (fun z => go_tupGL z fun l H' _ s k => q l H' s k.sq) fun k => go_tupGT k (q a H (Same.refl _) k)
theorem knT_butI {c C dx a : Addr} {H H1 : Hp} {fs : List (Str × V)} {xs : List V} (hc : H c = some (.ins C dx fs)) (B : But c H H1) (h : KnT H a xs) : KnT H1 a xs := let ⟨ob, e, r⟩ := h; ⟨ob, B _ _ (fun z => by rw [z, hc] at e; cases e) e, r⟩
theorem ArgK.butI {K : PySem.W.Frag} {c C dx a : Addr} {H H1 : Hp} {fs : List (Str × V)} {xs : List V} (hc : H c = some (.ins C dx fs)) (B : But c H H1) (h : ArgK K H a xs) : ArgK K H1 a xs := h.imp (sqL_butI hc B) (knT_butI hc B)
/-- pairs that are told as data, for a dict -/
theorem pairs_dp {K : PySem.W.Frag} {H : Hp} {α : Type} {cd : α → PyData} {cv : α → V} (hc : ∀ a x, Dp K H x (cd a) → x = cv a) : ∀ {l : List (Str × α)} {xs : List V}, DpAll K H xs (l.map fun p => .tuple [.str p.1, cd p.2]) →
    ∃ ps : List Addr, xs = ps.map V.ref ∧ Paired (fun p kv => SqT K H p [kV kv.1, kv.2]) ps (l.map fun p => ((.inr p.1, cv p.2) : Key × V))
  | [], _, h => by cases h; exact ⟨[], rfl, .nil⟩
  | p :: l, _, h => by
    cases h with
    | cons h1 h2 =>
      obtain ⟨a, zs, rfl, ha, hz⟩ := dp_tup h1
      obtain ⟨x, y, rfl, d1, d2⟩ := dp2 hz
      cases dpS d1
      cases hc _ _ d2
      obtain ⟨ps, rfl, hp⟩ := pairs_dp hc h2
      exact ⟨a :: ps, rfl, .cons ha hp⟩
def szOf (l : List (Str × Int)) (x : Str) : Int := match l.find? (fun p => decide (p.1 = x)) with
  | some p => p.2
  | none => 1
def onG (l : List (Str × Bool)) (x : Str) : Bool := match l.find? (fun p => decide (p.1 = x)) with
  | some p => p.2
  | none => false
theorem val_find {α : Type} {cv : α → V} : ∀ {l : List (Str × α)} {x : Str}, valV (l.map fun p => ((.inr p.1, cv p.2) : Key × V)) (.inr x) = (l.find? fun p => decide (p.1 = x)).map fun p => cv p.2
  | [], _ => rfl
  | p :: l, x => by
    by_cases h : p.1 = x
    · rw [List.find?_cons_of_pos (by simp [h]), List.map_cons, valV_pos (by rw [h])]
      rfl
    · have ih := val_find (cv := cv) (l := l) (x := x)
      rw [List.find?_cons_of_neg (by simp [h]), ← ih]
      show Option.map _ (List.find? _ _) = Option.map _ (List.find? _ _)
      rw [List.map_cons, List.find?_cons_of_neg]
      simp
      exact h
theorem find_mem {α : Type} {l : List (Str × α)} {x : Str} (h : x ∈ l.map (·.1)) : ∃ p, l.find? (fun p => decide (p.1 = x)) = some p ∧ p ∈ l ∧ p.1 = x := by
  obtain ⟨q, hq, e⟩ := List.mem_map.mp h
  cases z : l.find? (fun p => decide (p.1 = x)) with
  | none =>
    have := List.find?_eq_none.mp z q hq
    simp [e] at this
  | some p =>
    have h1 := List.find?_some z
    exact ⟨p, rfl, List.mem_of_find?_eq_some z, of_decide_eq_true h1⟩
theorem keys_nodup {α : Type} {cv : α → V} {l : List (Str × α)} (h : (l.map (·.1)).Nodup) : ((l.map fun p => ((.inr p.1, cv p.2) : Key × V)).map (·.1)).Nodup := by
  rw [List.map_map]
  have e : ((fun kv : Key × V => kv.1) ∘ fun p : Str × α => ((.inr p.1, cv p.2) : Key × V)) = (Sum.inr ∘ fun p : Str × α => p.1) := rfl
  rw [e, ← List.map_map]
  exact List.Pairwise.map _ (fun a b n z => n (Sum.inr.inj z)) h
theorem dp5 {K : PySem.W.Frag} {H : Hp} {xs : List V} {a b c d e : PyData} (h : DpAll K H xs [a, b, c, d, e]) : ∃ x y z w u, xs = [x, y, z, w, u] ∧ Dp K H x a ∧ Dp K H y b ∧ Dp K H z c ∧ Dp K H w d ∧ Dp K H u e := by
  cases h with | cons h1 h2 => cases h2 with | cons h3 h4 => cases h4 with | cons h5 h6 => cases h6 with | cons h7 h8 => cases h8 with | cons h9 h10 => cases h10; exact ⟨_, _, _, _, _, rfl, h1, h3, h5, h7, h9⟩
theorem paired_imp {α β : Type} {R S : α → β → Prop} (h : ∀ a b, R a b → S a b) : ∀ {l : List α} {r : List β}, Paired R l r → Paired S l r
  | _, _, .nil => .nil
  | _, _, .cons k z => .cons (h _ _ k) (paired_imp h z)
structure GmOk (g : Gm) : Prop where
  vn : (g.vs.map (·.1)).Nodup
  on : (g.os.map (·.1)).Nodup
  vl : g.vs.length ≤ 100
  ol : g.os.length ≤ 100
  sz : ∀ p ∈ g.vs, 1 ≤ p.2 ∧ p.2 ≤ 65535
  rl : g.rs.length ≤ 1000
  st : ∀ p ∈ g.rs, StGs (g.vs.map (·.1)) (g.os.map (·.1)) p.2
/-- rounds from the k-th on, one behind the other -/
def itsOf : List (Str × List Stm) → Int → List It
  | [], _ => []
  | p :: r, k => .rd k :: (p.2.map .st ++ itsOf r (k + 1))
def evOf (g : Gm) : Ev := ⟨szOf g.vs, onG g.os⟩
/-- tree_of -/
def buildG (g : Gm) : Option Tr := (runB (evOf g) (itsOf g.rs 0) (fun _ => 0) [] [] 0 400).map (·.1)
theorem itsG {ns ps : List Str} : ∀ {l : List (Str × List Stm)} {k : Int}, (∀ p ∈ l, StGs ns ps p.2) → ItG ns ps (itsOf l k)
  | [], _, _ => trivial
  | p :: r, k, h => by
    show ItG ns ps (p.2.map .st ++ itsOf r (k + 1))
    exact itG_app (h p List.mem_cons_self) (itsG fun q hq => h q (List.mem_cons_of_mem _ hq))
theorem TabOk.butI {c C dx t : Addr} {H H1 : Hp} {fs : List (Str × V)} {ns : List Str} {tab : Str → Int} (hc : H c = some (.ins C dx fs)) (B : But c H H1) (h : TabOk H t ns tab) : TabOk H1 t ns tab := let ⟨kvs, e, r⟩ := h; ⟨kvs, B _ _ (fun z => by rw [z, hc] at e; cases e) e, r⟩
theorem OnOk.butI {c C dx t : Addr} {H H1 : Hp} {fs : List (Str × V)} {ns : List Str} {on : Str → Bool} (hc : H c = some (.ins C dx fs)) (B : But c H H1) (h : OnOk H t ns on) : OnOk H1 t ns on := let ⟨kvs, e, r⟩ := h; ⟨kvs, B _ _ (fun z => by rw [z, hc] at e; cases e) e, r⟩
/-- a builder -/
structure BdAt (C : Addr) (H : Hp) (b : Addr) (ns ps : List Str) (e : Ev) (left : Int) : Prop where
  ex : ∃ dx s o, H b = some (.ins C dx (F_Builder (.ref s) (.ref o) (.int left))) ∧ TabOk H s ns e.sz ∧ OnOk H o ps e.on
  pos : ∀ x ∈ ns, 1 ≤ e.sz x
theorem BdAt.same {C : Addr} {H H' : Hp} {b : Addr} {ns ps : List Str} {e : Ev} {left : Int} (h : BdAt C H b ns ps e left) (s : Same H H') : BdAt C H' b ns ps e left :=
  ⟨let ⟨dx, a, o, h1, h2, h3⟩ := h.ex; ⟨dx, a, o, s _ _ h1, h2.same s, h3.same s⟩, h.pos⟩
theorem BdAt.off {C : Addr} {H : Hp} {b : Addr} {ns ps : List Str} {e : Ev} {left : Int} (h : BdAt C H b ns ps e left) : NoT (fun c => c = b) H := fun c xs z => by
  obtain ⟨dx, a, o, h1, _⟩ := h.ex
  rw [z, h1]
  exact ⟨fun y => (by cases y), fun o y => (by cases y)⟩
theorem off_hm {H : Hp} {b : Addr} : Off (fun c => c = b) H (Hm H b) := fun a o n e => hm_at n e
theorem plain_itm {s1 s2 : List PyData} (h1 : ∀ d ∈ s1, Itm d) (h2 : ∀ d ∈ s2, Itm d) : plainK (.tuple [.tuple s1, .tuple s2]) = true := by
  have a := (itms h1).plain.1
  have c := (itms h2).plain.1
  show (plainK (.tuple s1) && (plainK (.tuple s2) && true)) = true
  rw [a, c]
  rfl
theorem shw1_itm {i : Int} {s : List PyData} {d : PyData} (h : ∀ d ∈ s, Itm d) (hd : Itm d) : ∀ x ∈ shw1 i s d, Itm x := fun x hx => by
  unfold shw1 at hx
  split at hx
  · exact h x hx
  · rcases List.mem_append.mp hx with z | z
    · exact h x z
    · rw [List.mem_singleton.mp z]; exact hd
theorem shw2_itm {i : Int} {s : List PyData} {d : PyData} (h : ∀ d ∈ s, Itm d) (hd : Itm d) : ∀ x ∈ shw2 i s d, Itm x := fun x hx => by
  unfold shw2 at hx
  split at hx
  · exact h x hx
  · rcases List.mem_append.mp hx with z | z
    · exact h x z
    · rw [List.mem_singleton.mp z]; exact hd
theorem shw1_len (i : Int) (s : List PyData) (d : PyData) : (shw1 i s d).length ≤ s.length + 1 := by
  unfold shw1
  split
  · omega
  · simp
theorem shw2_len (i : Int) (s : List PyData) (d : PyData) : (shw2 i s d).length ≤ s.length + 1 := by
  unfold shw2
  split
  · omega
  · simp
def errD (H : Hp) (d : Addr) : Prop := H d = some (.xd [("what", .str "places")])
def sp_Builder_node (K : PySem.W.Frag) (CE CL CT CB TL : Addr) (n : Nat) : Sp := fun vs H Q E => ∃ (b t : Addr) (rv sv : V) (paid : Int) (items : List It) (ns ps : List Str) (e : Ev) (tab : Str → Int) (s1 s2 : List PyData) (left : Int), vs = [.ref b, rv, .ref t, sv, .int paid] ∧ BdAt CB H b ns ps e left ∧ Dp K H rv (chD items) ∧ TabOk H t ns tab ∧ Dp K H sv (.tuple [.tuple s1, .tuple s2]) ∧ ItG ns ps items ∧ (∀ d ∈ s1, Itm d) ∧ (∀ d ∈ s2, Itm d) ∧ dcIs items < n ∧ s1.length + 3 * wIs items ≤ 50000 ∧ s2.length + 3 * wIs items ≤ 50000 ∧
  (∀ tr l' v H', runB e items tab s1 s2 paid left = some (tr, l') → But b H H' → BdAt CB H' b ns ps e l' → TrAt K CE CL CT (Hm H' b) v tr → Q v H') ∧ (runB e items tab s1 s2 paid left = none → ∀ d H', But b H H' → H d = none → errD H' d → E (.ref TL) (some d) H')
def sp_Builder_branch (K : PySem.W.Frag) (CE CL CT CB TL : Addr) (n : Nat) : Sp := fun vs H Q E => ∃ (b t : Addr) (xv rv sv : V) (paid : Int) (s : Stm) (items : List It) (ns ps : List Str) (e : Ev) (tab : Str → Int) (s1 s2 : List PyData) (left : Int), vs = [.ref b, xv, rv, .ref t, sv, .int paid] ∧ (∃ x m, s = .drw x m ∨ ∃ pl c, s = .mov pl x m c) ∧ BdAt CB H b ns ps e left ∧ Dp K H xv (stD s) ∧ Dp K H rv (chD items) ∧ TabOk H t ns tab ∧ Dp K H sv (.tuple [.tuple s1, .tuple s2]) ∧ StG ns ps s ∧ ItG ns ps items ∧ (∀ d ∈ s1, Itm d) ∧ (∀ d ∈ s2, Itm d) ∧ dcIs items < n ∧ s1.length + 3 + 3 * wIs items ≤ 50000 ∧ s2.length + 3 + 3 * wIs items ≤ 50000 ∧
  (∀ tr l' v H', runB e (.st s :: items) tab s1 s2 paid left = some (tr, l') → But b H H' → BdAt CB H' b ns ps e l' → TrAt K CE CL CT (Hm H' b) v tr → Q v H') ∧ (runB e (.st s :: items) tab s1 s2 paid left = none → ∀ d H', But b H H' → H d = none → errD H' d → E (.ref TL) (some d) H')
theorem dp_butH {K : PySem.W.Frag} {H H' : Hp} {b C : Addr} {ns ps : List Str} {e : Ev} {left : Int} (h : BdAt C H b ns ps e left) (B : But b H H') {d : PyData} {v : V} (g : Dp K H v d) : Dp K H' v d := let ⟨_, _, _, h1, _⟩ := h.ex; dp_butI h1 B d v g

theorem noT_dk {p : Addr} {H : Hp} {kvs : List (Key × V)} (h : H p = some (.dK kvs)) : NoT (fun c => c = p) H := fun c xs z => by
  subst z
  rw [h]
  exact ⟨fun e => (by cases e), fun o e => (by cases e)⟩
theorem sqL_butD {K : PySem.W.Frag} {H H1 : Hp} {c a : Addr} {kvs : List (Key × V)} {xs : List V} (hc : H c = some (.dK kvs)) (B : But c H H1) (h : SqL K H a xs) : SqL K H1 a xs := by
  rcases h with (h | ⟨o, h⟩) | h
  · exact .inl (.inl (B _ _ (fun z => by rw [z, hc] at h; cases h) h))
  · exact .inl (.inr ⟨o, B _ _ (fun z => by rw [z, hc] at h; cases h) h⟩)
  · exact .inr h
theorem sqT_butD {K : PySem.W.Frag} {H H1 : Hp} {c a : Addr} {kvs : List (Key × V)} {xs : List V} (hc : H c = some (.dK kvs)) (B : But c H H1) (h : SqT K H a xs) : SqT K H1 a xs := sqT_off B.off (noT_dk hc) h
mutual
theorem dp_butD {K : PySem.W.Frag} {H H1 : Hp} {c : Addr} {kvs : List (Key × V)} (hc : H c = some (.dK kvs)) (B : But c H H1) : ∀ (d : PyData) (v : V), Dp K H v d → Dp K H1 v d
  | .none, _, h => by cases h; exact .non
  | .bool _, _, h => by cases h; exact .bl _
  | .int _, _, h => by cases h; exact .int _
  | .str _, _, h => by cases h; exact .str _
  | .list ds, _, h => by cases h with | lst e a => exact .lst (sqL_butD hc B e) (dpAll_butD hc B ds _ a)
  | .tuple ds, _, h => by cases h with | tup e a => exact .tup (sqT_butD hc B e) (dpAll_butD hc B ds _ a)
  | .dict _, _, h => by cases h
theorem dpAll_butD {K : PySem.W.Frag} {H H1 : Hp} {c : Addr} {kvs : List (Key × V)} (hc : H c = some (.dK kvs)) (B : But c H H1) : ∀ (ds : List PyData) (vs : List V), DpAll K H vs ds → DpAll K H1 vs ds
  | [], _, h => by cases h; exact .nil
  | d :: ds, _, h => by cases h with | cons e a => exact .cons (dp_butD hc B d _ e) (dpAll_butD hc B ds _ a)
end
theorem stDs_map : ∀ l : List Stm, stDs l = l.map stD
  | [] => rfl
  | s :: r => by
    show stD s :: stDs r = _
    rw [stDs_map r]
    rfl
theorem stDs_noL (l : List Stm) : noLAll (stDs l) = true := plain_noL (.tuple (stDs l)) (stDs_plain l)
/-- the law's expressions -/
def XN (ns : List Str) : Nat → Ex → Prop
  | 0, _ => False
  | _ + 1, .num k => 0 ≤ k ∧ k < 65536
  | _ + 1, .var x => x ∈ ns
  | n + 1, .op s a b => s < 7 ∧ XN ns n a ∧ XN ns n b
  | _ + 1, _ => False
theorem XN.up {ns : List Str} : ∀ {n m : Nat} {e : Ex}, n ≤ m → XN ns n e → XN ns m e
  | 0, _, _, _, h => h.elim
  | n + 1, m + 1, .num _, _, h => h
  | n + 1, m + 1, .var _, _, h => h
  | n + 1, m + 1, .op _ a b, hm, ⟨h1, h2, h3⟩ => ⟨h1, XN.up (by omega) h2, XN.up (by omega) h3⟩
  | n + 1, m + 1, .long, _, h => h.elim
  | n + 1, m + 1, .view _, _, h => h.elim
  | n + 1, m + 1, .pick _ _ _, _, h => h.elim
theorem XN.inE {ns ps : List Str} : ∀ {n : Nat} {e : Ex}, XN ns n e → ExIn ns ps n e
  | 0, _, h => h.elim
  | n + 1, .num _, h => h
  | n + 1, .var _, h => h
  | n + 1, .op _ a b, ⟨h1, h2, h3⟩ => ⟨h1, h2.inE, h3.inE⟩
  | n + 1, .long, h => h.elim
  | n + 1, .view _, h => h.elim
  | n + 1, .pick _ _ _, h => h.elim
theorem exIn_up {ns ps : List Str} : ∀ {n m : Nat} {e : Ex}, n ≤ m → ExIn ns ps n e → ExIn ns ps m e
  | 0, _, _, _, h => h.elim
  | n + 1, m + 1, .num _, _, h => h
  | n + 1, m + 1, .var _, _, h => h
  | n + 1, m + 1, .op _ a b, hm, ⟨h1, h2, h3⟩ => ⟨h1, exIn_up (by omega) h2, exIn_up (by omega) h3⟩
  | n + 1, m + 1, .long, _, h => h
  | n + 1, m + 1, .view e, hm, h => exIn_up (n := n) (m := m) (e := e) (by omega) h
  | n + 1, m + 1, .pick _ a b, hm, ⟨h1, h2, h3⟩ => ⟨h1, exIn_up (by omega) h2, exIn_up (by omega) h3⟩
/-- what a block of the law may be -/
def RunOk (ns ps : List Str) : Nat → List Stm → Prop
  | 0, _ => False
  | n + 1, l => ∀ s ∈ l, match s with
    | .set x e => x ∈ ns ∧ XN ns 2 e
    | .shw _ e => XN ns 2 e
    | .pay _ e => XN ns 2 e
    | .iff t a b => XN ns 2 t ∧ RunOk ns ps n a ∧ RunOk ns ps n b
    | .whn x a b => x ∈ ps ∧ RunOk ns ps n a ∧ RunOk ns ps n b
    | _ => False
/-- the law's own interpreter -/
def runN (e : Ev) : Nat → List Stm → (Str → Int) × Int → (Str → Int) × Int
  | 0, _, x => x
  | n + 1, l, x => l.foldl (fun x s => match s with
    | .set y ex => (tput x.1 y (evalE x.1 e.on [] ex % e.sz y), x.2)
    | .pay k ex => (x.1, if k = true then x.2 - evalE x.1 e.on [] ex else x.2 + evalE x.1 e.on [] ex)
    | .iff t a b => if evalE x.1 e.on [] t = 0 then runN e n b x else runN e n a x
    | .whn y a b => if e.on y = true then runN e n a x else runN e n b x
    | _ => x) x
def stepN (e : Ev) (n : Nat) (x : (Str → Int) × Int) (s : Stm) : (Str → Int) × Int := match s with
    | .set y ex => (tput x.1 y (evalE x.1 e.on [] ex % e.sz y), x.2)
    | .pay k ex => (x.1, if k = true then x.2 - evalE x.1 e.on [] ex else x.2 + evalE x.1 e.on [] ex)
    | .iff t a b => if evalE x.1 e.on [] t = 0 then runN e n b x else runN e n a x
    | .whn y a b => if e.on y = true then runN e n a x else runN e n b x
    | _ => x
theorem runN_fold (e : Ev) (n : Nat) (l : List Stm) (x : (Str → Int) × Int) : runN e (n + 1) l x = l.foldl (stepN e n) x := rfl
theorem runB_blk {e : Ev} {ns ps : List Str} {left : Int} : ∀ (n : Nat) (l : List Stm) (r : List It) (x : (Str → Int) × Int) (s1 s2 : List PyData), RunOk ns ps n l → ∃ r1 r2, runB e (l.map .st ++ r) x.1 s1 s2 x.2 left = runB e r (runN e n l x).1 r1 r2 (runN e n l x).2 left
  | 0, _, _, _, _, _, h => h.elim
  | n + 1, [], r, x, s1, s2, _ => ⟨s1, s2, rfl⟩
  | n + 1, s :: l, r, x, s1, s2, h => by
    have hs := h s List.mem_cons_self
    have hl : RunOk ns ps (n + 1) l := fun y hy => h y (List.mem_cons_of_mem _ hy)
    have ef : runN e (n + 1) (s :: l) x = runN e (n + 1) l (stepN e n x s) := rfl
    rw [ef]
    show ∃ r1 r2, runB e (.st s :: (l.map .st ++ r)) x.1 s1 s2 x.2 left = _
    cases s with
    | set y ex => rw [runB_set]; exact runB_blk (n + 1) l r (stepN e n x (.set y ex)) _ _ hl
    | shw i ex => rw [runB_shw]; exact runB_blk (n + 1) l r x _ _ hl
    | pay k ex => rw [runB_pay]; exact runB_blk (n + 1) l r (stepN e n x (.pay k ex)) _ _ hl
    | drw _ _ => exact hs.elim
    | mov _ _ _ _ => exact hs.elim
    | whn y a b =>
      rw [runB_whn]
      by_cases ho : e.on y = true
      · rw [if_pos ho, show stepN e n x (.whn y a b) = runN e n a x from if_pos ho]
        obtain ⟨r1, r2, e1⟩ := runB_blk n a (l.map .st ++ r) x s1 s2 hs.2.1
        obtain ⟨q1, q2, e2⟩ := runB_blk (n + 1) l r (runN e n a x) r1 r2 hl
        exact ⟨q1, q2, e1.trans e2⟩
      · rw [if_neg ho, show stepN e n x (.whn y a b) = runN e n b x from if_neg ho]
        obtain ⟨r1, r2, e1⟩ := runB_blk n b (l.map .st ++ r) x s1 s2 hs.2.2
        obtain ⟨q1, q2, e2⟩ := runB_blk (n + 1) l r (runN e n b x) r1 r2 hl
        exact ⟨q1, q2, e1.trans e2⟩
    | iff t a b =>
      rw [runB_iff]
      by_cases ho : evalE x.1 e.on [] t = 0
      · rw [if_pos ho, show stepN e n x (.iff t a b) = runN e n b x from if_pos ho]
        obtain ⟨r1, r2, e1⟩ := runB_blk n b (l.map .st ++ r) x s1 s2 hs.2.2
        obtain ⟨q1, q2, e2⟩ := runB_blk (n + 1) l r (runN e n b x) r1 r2 hl
        exact ⟨q1, q2, e1.trans e2⟩
      · rw [if_neg ho, show stepN e n x (.iff t a b) = runN e n a x from if_neg ho]
        obtain ⟨r1, r2, e1⟩ := runB_blk n a (l.map .st ++ r) x s1 s2 hs.2.1
        obtain ⟨q1, q2, e2⟩ := runB_blk (n + 1) l r (runN e n a x) r1 r2 hl
        exact ⟨q1, q2, e1.trans e2⟩
termination_by n l => (n, l.length)
def runR (e : Ev) (bs : List (List Stm)) (x : (Str → Int) × Int) : (Str → Int) × Int := bs.foldl (fun x b => runN e 2 b x) x
theorem runB_rds {e : Ev} {ns ps : List Str} {left : Int} (hl : 0 ≤ left - 1) : ∀ (rs : List (Str × List Stm)) (k : Int) (x : (Str → Int) × Int) (s1 s2 : List PyData), (∀ p ∈ rs, RunOk ns ps 2 p.2) → runB e (itsOf rs k) x.1 s1 s2 x.2 left = some (.fin (runR e (rs.map (·.2)) x).2, left - 1)
  | [], k, x, s1, s2, _ => by
    show runB e [] x.1 s1 s2 x.2 left = _
    rw [runB_nil, if_neg (by omega)]
    rfl
  | p :: rs, k, x, s1, s2, h => by
    show runB e (.rd k :: (p.2.map .st ++ itsOf rs (k + 1))) x.1 s1 s2 x.2 left = _
    rw [runB_rd]
    obtain ⟨r1, r2, e1⟩ := runB_blk (e := e) (left := left) 2 p.2 (itsOf rs (k + 1)) x (s1 ++ [dRound k]) (s2 ++ [dRound k]) (h p List.mem_cons_self)
    rw [e1]
    exact runB_rds hl rs (k + 1) (runN e 2 p.2 x) r1 r2 fun q hq => h q (List.mem_cons_of_mem _ hq)
theorem stg_run {ns ps : List Str} : ∀ (n : Nat) (l : List Stm), RunOk ns ps n l → StGs ns ps l
  | 0, _, h => h.elim
  | n + 1, [], _ => trivial
  | n + 1, s :: l, h => by
    have hs := h s List.mem_cons_self
    refine ⟨?_, stg_run (n + 1) l fun y hy => h y (List.mem_cons_of_mem _ hy)⟩
    cases s with
    | set y ex => exact ⟨hs.1, exIn_up (by decide) hs.2.inE⟩
    | shw i ex => exact exIn_up (n := 2) (by decide) (XN.inE hs)
    | pay k ex => exact exIn_up (n := 2) (by decide) (XN.inE hs)
    | drw _ _ => exact hs.elim
    | mov _ _ _ _ => exact hs.elim
    | whn y a b => exact ⟨hs.1, stg_run n a hs.2.1, stg_run n b hs.2.2⟩
    | iff t a b => exact ⟨exIn_up (by decide) hs.1.inE, stg_run n a hs.2.1, stg_run n b hs.2.2⟩
termination_by n l => (n, l.length)
theorem tab_put {H : Hp} {t : Addr} {ns : List Str} {tab : Str → Int} {kvs : List (Key × V)} {x : Str} {v : Int} (hl : kvs.length ≤ 1000) (hk : ∀ x ∈ ns, valV kvs (.inr x) = some (.int (tab x)) ∧ 0 ≤ tab x ∧ tab x < 65536) (hx : x ∈ ns) (hv : 0 ≤ v ∧ v < 65536) : TabOk (upd H t (.dK (putK kvs (.inr x) (.int v)))) t ns (tput tab x v) := by
  have hin : (kvs.any fun kv => decide (kv.1 = (.inr x : Key))) = true := by
    obtain ⟨q, hq, e2⟩ := List.mem_map.mp (show (.inr x : Key) ∈ kvs.map (·.1) from List.mem_map.mpr ⟨_, valV_mem (hk x hx).1, rfl⟩)
    exact List.any_eq_true.mpr ⟨q, hq, by simp [e2]⟩
  refine ⟨_, upd_same, ?_, fun y hy => ?_⟩
  · unfold putK
    rw [if_pos hin, List.length_map]
    exact hl
  · unfold tput
    by_cases h : y = x
    · rw [if_pos h, h, valV_put]
      exact ⟨rfl, hv⟩
    · rw [if_neg h, valV_put_ne (fun z => h (Sum.inr.inj z))]
      exact hk y hy

def vsL (vv : List (Str × Int)) : List PyData := vv.map fun p => .tuple [.str p.1, .int p.2]
def osL (oo : List (Str × Bool)) : List PyData := oo.map fun p => .tuple [.str p.1, .bool p.2]
theorem vsL_len (vv : List (Str × Int)) : (vsL vv).length = vv.length := List.length_map ..
theorem osL_len (oo : List (Str × Bool)) : (osL oo).length = oo.length := List.length_map ..
theorem vs_pick {K : PySem.W.Frag} {H : Hp} {xs : List V} {vv : List (Str × Int)} {k : Int} (h : DpAll K H xs (vsL vv)) (h0 : 0 ≤ k) (h1 : k < (xs.length : Int)) : ∃ (a : Addr) (p : Str × Int), atI xs k = some (.ref a) ∧ SqT K H a [.str p.1, .int p.2] ∧ p.1 ∈ vv.map (·.1) ∧ p ∈ vv := by
  have xl := dpAll_len h
  rw [vsL_len] at xl
  have e := List.getElem?_eq_getElem (l := vv) (i := k.toNat) (by omega)
  generalize vv[k.toNat] = p at e
  obtain ⟨x, ex, dx⟩ := dpAll_get h (i := k.toNat) (d := .tuple [.str p.1, .int p.2]) (by unfold vsL; rw [List.getElem?_map, e]; rfl)
  obtain ⟨a, ys, rfl, ha, hy⟩ := dp_tup dx
  obtain ⟨y1, y2, rfl, d1, d2⟩ := dp2 hy
  cases dpS d1
  cases dpI d2
  have := at_nat ex
  rw [Int.toNat_of_nonneg h0] at this
  exact ⟨a, p, this, ha, List.mem_map.mpr ⟨p, List.mem_of_getElem? e, rfl⟩, List.mem_of_getElem? e⟩
theorem os_pick {K : PySem.W.Frag} {H : Hp} {xs : List V} {vv : List (Str × Bool)} {k : Int} (h : DpAll K H xs (osL vv)) (h0 : 0 ≤ k) (h1 : k < (xs.length : Int)) : ∃ (a : Addr) (p : Str × Bool), atI xs k = some (.ref a) ∧ SqT K H a [.str p.1, .bl p.2] ∧ p.1 ∈ vv.map (·.1) ∧ p ∈ vv := by
  have xl := dpAll_len h
  rw [osL_len] at xl
  have e := List.getElem?_eq_getElem (l := vv) (i := k.toNat) (by omega)
  generalize vv[k.toNat] = p at e
  obtain ⟨x, ex, dx⟩ := dpAll_get h (i := k.toNat) (d := .tuple [.str p.1, .bool p.2]) (by unfold osL; rw [List.getElem?_map, e]; rfl)
  obtain ⟨a, ys, rfl, ha, hy⟩ := dp_tup dx
  obtain ⟨y1, y2, rfl, d1, d2⟩ := dp2 hy
  cases dpS d1
  cases d2
  have := at_nat ex
  rw [Int.toNat_of_nonneg h0] at this
  exact ⟨a, p, this, ha, List.mem_map.mpr ⟨p, List.mem_of_getElem? e, rfl⟩, List.mem_of_getElem? e⟩
theorem word9 {k : Int} (h0 : 0 ≤ k) (h1 : k < 9) : ∃ w : Str, atI [V.str "+", .str "-", .str "*", .str "/", .str "mod", .str "<", .str "=", .str "", .str ""] k = some (.str w) ∧ ((∃ s, s < 7 ∧ w = signS s ∧ w ≠ "") ∨ w = "") := by
  rcases (by omega : k = (0 : Nat) ∨ k = (1 : Nat) ∨ k = (2 : Nat) ∨ k = (3 : Nat) ∨ k = (4 : Nat) ∨ k = (5 : Nat) ∨ k = (6 : Nat) ∨ k = (7 : Nat) ∨ k = (8 : Nat)) with rfl | rfl | rfl | rfl | rfl | rfl | rfl | rfl | rfl
  · exact ⟨_, atI_nat rfl, .inl ⟨0, by decide, rfl, by decide +kernel⟩⟩
  · exact ⟨_, atI_nat rfl, .inl ⟨1, by decide, rfl, by decide +kernel⟩⟩
  · exact ⟨_, atI_nat rfl, .inl ⟨2, by decide, rfl, by decide +kernel⟩⟩
  · exact ⟨_, atI_nat rfl, .inl ⟨3, by decide, rfl, by decide +kernel⟩⟩
  · exact ⟨_, atI_nat rfl, .inl ⟨4, by decide, rfl, by decide +kernel⟩⟩
  · exact ⟨_, atI_nat rfl, .inl ⟨5, by decide, rfl, by decide +kernel⟩⟩
  · exact ⟨_, atI_nat rfl, .inl ⟨6, by decide, rfl, by decide +kernel⟩⟩
  · exact ⟨_, atI_nat rfl, .inr rfl⟩
  · exact ⟨_, atI_nat rfl, .inr rfl⟩
/-- a statement that is not a branch -/
def PlN (ns : List Str) : Stm → Prop
  | .set x e => x ∈ ns ∧ XN ns 2 e
  | .shw _ e => XN ns 2 e
  | .pay _ e => XN ns 2 e
  | _ => False
def StN (ns ps : List Str) : Stm → Prop
  | .iff t a b => XN ns 2 t ∧ (∀ s ∈ a, PlN ns s) ∧ (∀ s ∈ b, PlN ns s) ∧ a.length ≤ 1 ∧ b.length ≤ 1
  | .whn x a b => x ∈ ps ∧ (∀ s ∈ a, PlN ns s) ∧ (∀ s ∈ b, PlN ns s) ∧ a.length ≤ 1 ∧ b.length ≤ 1
  | s => PlN ns s
theorem run1 {ns ps : List Str} {l : List Stm} (h : ∀ s ∈ l, PlN ns s) : RunOk ns ps 1 l := fun s hs => by
  have := h s hs
  cases s with
  | set => exact this
  | shw => exact this
  | pay => exact this
  | drw => exact this.elim
  | mov => exact this.elim
  | whn => exact this.elim
  | iff => exact this.elim
theorem run2 {ns ps : List Str} {l : List Stm} (h : ∀ s ∈ l, StN ns ps s) : RunOk ns ps 2 l := fun s hs => by
  have := h s hs
  cases s with
  | set => exact this
  | shw => exact this
  | pay => exact this
  | drw => exact this.elim
  | mov => exact this.elim
  | whn x a b => exact ⟨this.1, run1 this.2.1, run1 this.2.2.1⟩
  | iff t a b => exact ⟨this.1, run1 this.2.1, run1 this.2.2.1⟩

theorem plw {ns : List Str} : ∀ {l : List Stm}, (∀ s ∈ l, PlN ns s) → wSs l = l.length ∧ dcSs l = 0
  | [], _ => ⟨rfl, rfl⟩
  | s :: l, h => by
    obtain ⟨i1, i2⟩ := plw (l := l) fun x hx => h x (List.mem_cons_of_mem _ hx)
    have hs := h s List.mem_cons_self
    have e : wS s = 1 ∧ dcS s = 0 := by
      cases s <;> first | exact ⟨rfl, rfl⟩ | exact hs.elim
    refine ⟨?_, ?_⟩
    · show wS s + wSs l = l.length + 1
      omega
    · show dcS s + dcSs l = 0
      omega
theorem stw {ns ps : List Str} : ∀ {l : List Stm}, (∀ s ∈ l, StN ns ps s) → wSs l ≤ 3 * l.length ∧ dcSs l = 0
  | [], _ => ⟨Nat.le_refl _, rfl⟩
  | s :: l, h => by
    obtain ⟨i1, i2⟩ := stw (l := l) fun x hx => h x (List.mem_cons_of_mem _ hx)
    have hs := h s List.mem_cons_self
    have e : wS s ≤ 3 ∧ dcS s = 0 := by
      cases s with
      | set => exact ⟨by show 1 ≤ 3; decide, rfl⟩
      | shw => exact ⟨by show 1 ≤ 3; decide, rfl⟩
      | pay => exact ⟨by show 1 ≤ 3; decide, rfl⟩
      | drw => exact hs.elim
      | mov => exact hs.elim
      | whn x a b =>
        obtain ⟨a1, a2⟩ := plw hs.2.1
        obtain ⟨b1, b2⟩ := plw hs.2.2.1
        have := hs.2.2.2
        refine ⟨?_, ?_⟩
        · show wSs a + wSs b + 1 ≤ 3
          omega
        · show dcSs a + dcSs b = 0
          omega
      | iff x a b =>
        obtain ⟨a1, a2⟩ := plw hs.2.1
        obtain ⟨b1, b2⟩ := plw hs.2.2.1
        have := hs.2.2.2
        refine ⟨?_, ?_⟩
        · show wSs a + wSs b + 1 ≤ 3
          omega
        · show dcSs a + dcSs b = 0
          omega
    refine ⟨?_, ?_⟩
    · show wS s + wSs l ≤ 3 * (l.length + 1)
      omega
    · show dcS s + dcSs l = 0
      omega
theorem itw {ns ps : List Str} : ∀ {rs : List (Str × List Stm)} {k : Int}, (∀ p ∈ rs, (∀ s ∈ p.2, StN ns ps s) ∧ p.2.length ≤ 70) → wIs (itsOf rs k) ≤ 211 * rs.length ∧ dcIs (itsOf rs k) = 0
  | [], _, _ => ⟨Nat.le_refl _, rfl⟩
  | p :: rs, k, h => by
    obtain ⟨i1, i2⟩ := itw (rs := rs) (k := k + 1) fun x hx => h x (List.mem_cons_of_mem _ hx)
    obtain ⟨h1, h2⟩ := h p List.mem_cons_self
    obtain ⟨w1, w2⟩ := stw h1
    refine ⟨?_, ?_⟩
    · show 1 + wIs (p.2.map .st ++ itsOf rs (k + 1)) ≤ 211 * (rs.length + 1)
      rw [wI_app]
      omega
    · show 0 + dcIs (p.2.map .st ++ itsOf rs (k + 1)) = 0
      rw [dcI_app]
      omega
def nmO (k : Nat) : Str := Str.ofString "opt" ++ S (TL.numL k)
def nmR (k : Nat) : Str := Str.ofString "r" ++ S (TL.numL k)
def nmV (k : Nat) : Str := S [97 + k]
theorem nmV_inj {j k : Nat} (h : nmV j = nmV k) : j = k := by
  have := SX.S_inj h
  have e : 97 + j = 97 + k := by injection this
  omega
theorem nmO_nd {m : Nat} (h : m ≤ 3) : ((List.range m).map nmO).Nodup := by
  rcases (by omega : m = 0 ∨ m = 1 ∨ m = 2 ∨ m = 3) with rfl | rfl | rfl | rfl <;> decide +kernel
theorem nmV_nd (m : Nat) : ((List.range m).map nmV).Nodup := List.Pairwise.map _ (fun a b n z => n (nmV_inj z)) List.nodup_range
theorem num_nm {i : Nat} : Str.ofString (toString ((i : Nat) : Int)) = S (TL.numL i) := SX.num_S _
theorem num_log {i : Nat} (h : i < 6) : ((i : Nat) : Int).natAbs.log2 < 1920 := by
  rw [Int.natAbs_natCast]
  match i, h with
  | 0, _ => decide +kernel
  | 1, _ => decide +kernel
  | 2, _ => decide +kernel
  | 3, _ => decide +kernel
  | 4, _ => decide +kernel
  | 5, _ => decide +kernel
theorem num_len {i : Nat} (h : i < 6) : (Str.ofString (toString ((i : Nat) : Int))).length ≤ 2 := by
  rw [num_nm, SX.S_len]
  exact TL.numL_len (by decide) (by omega)
theorem nm5 {i : Nat} (h : i < 5) : atI (Str.ofString "abcde").cps.toList (i : Int) = some (97 + i) := by
  match i, h with
  | 0, _ => decide +kernel
  | 1, _ => decide +kernel
  | 2, _ => decide +kernel
  | 3, _ => decide +kernel
  | 4, _ => decide +kernel
theorem go_nm5 {Q : VK} {H : Hp} {i : Nat} (h : i < 5) (q : Q (.str (nmV i)) H) : rIxS (.str (Str.ofString "abcde")) (.int (i : Int)) H Q := go_ixS (by show 5 ≤ sizeLine; decide) (nm5 h) q
def opsN (f : Nat → Bool) (m : Nat) : List (Str × Bool) := (List.range m).map fun k => (nmO k, f k)
def vrsN (zs : List Int) (m : Nat) : List (Str × Int) := (List.range m).map fun k => (nmV k, zs.getD k 0)
def rsN (bs : List (List Stm)) (m : Nat) : List (Str × List Stm) := (List.range m).map fun k => (nmR k, bs.getD k [])
theorem rsN_snd (bs : List (List Stm)) : (rsN bs bs.length).map (·.2) = bs := by
  unfold rsN
  rw [List.map_map]
  refine List.ext_getElem? fun k => ?_
  rw [List.getElem?_map]
  rcases Nat.lt_or_ge k bs.length with z | z
  · rw [List.getElem?_range z, List.getElem?_eq_getElem z]
    show some (bs.getD k []) = _
    rw [List.getD_eq_getElem?_getD, List.getElem?_eq_getElem z]
    rfl
  · rw [List.getElem?_eq_none (by rw [List.length_range]; exact z), List.getElem?_eq_none z]
    rfl
def gm30 (f : Nat → Bool) (m1 : Nat) (zs : List Int) (bs : List (List Stm)) : Gm := ⟨opsN f m1, vrsN zs zs.length, rsN bs bs.length⟩
theorem vrsN_keys (zs : List Int) (m : Nat) : (vrsN zs m).map (·.1) = (List.range m).map nmV := by unfold vrsN; rw [List.map_map]; rfl
theorem opsN_keys (f : Nat → Bool) (m : Nat) : (opsN f m).map (·.1) = (List.range m).map nmO := by unfold opsN; rw [List.map_map]; rfl
theorem rsN_mem {bs : List (List Stm)} {p : Str × List Stm} (h : p ∈ rsN bs bs.length) : p.2 ∈ bs := by
  have := List.mem_map_of_mem (f := fun x : Str × List Stm => x.2) h
  rw [rsN_snd] at this
  exact this
theorem gm30_ok {f : Nat → Bool} {m1 : Nat} {zs : List Int} {bs : List (List Stm)} (h1 : m1 ≤ 3) (h2 : zs.length ≤ 5) (hz : ∀ z ∈ zs, 1 ≤ z ∧ z ≤ 65535) (h3 : bs.length ≤ 3) (hb : ∀ b ∈ bs, (∀ s ∈ b, StN ((vrsN zs zs.length).map (·.1)) ((opsN f m1).map (·.1)) s) ∧ b.length ≤ 70) : GmOk (gm30 f m1 zs bs) ∧ dcIs (itsOf (gm30 f m1 zs bs).rs 0) < 25 ∧ wIs (itsOf (gm30 f m1 zs bs).rs 0) ≤ 16000 := by
  obtain ⟨w1, w2⟩ := itw (rs := rsN bs bs.length) (k := 0) fun p hp => hb p.2 (rsN_mem hp)
  have rl : (rsN bs bs.length).length = bs.length := by unfold rsN; rw [List.length_map, List.length_range]
  refine ⟨⟨?_, ?_, ?_, ?_, fun p hp => ?_, ?_, fun p hp => ?_⟩, ?_, ?_⟩
  · show ((vrsN zs zs.length).map (·.1)).Nodup
    rw [vrsN_keys]
    exact nmV_nd _
  · show ((opsN f m1).map (·.1)).Nodup
    rw [opsN_keys]
    exact nmO_nd h1
  · show (vrsN zs zs.length).length ≤ 100
    unfold vrsN
    rw [List.length_map, List.length_range]
    omega
  · show (opsN f m1).length ≤ 100
    unfold opsN
    rw [List.length_map, List.length_range]
    omega
  · obtain ⟨k, hk, rfl⟩ := List.mem_map.mp (show p ∈ vrsN zs zs.length from hp)
    have hk := List.mem_range.mp hk
    show 1 ≤ zs.getD k 0 ∧ zs.getD k 0 ≤ 65535
    rw [List.getD_eq_getElem?_getD, List.getElem?_eq_getElem hk]
    exact hz _ (List.getElem_mem hk)
  · show (rsN bs bs.length).length ≤ 1000
    omega
  · exact stg_run 2 p.2 (run2 (hb p.2 (rsN_mem hp)).1)
  · show dcIs (itsOf (rsN bs bs.length) 0) < 25
    omega
  · show wIs (itsOf (rsN bs bs.length) 0) ≤ 16000
    omega
theorem build30 {f : Nat → Bool} {m1 : Nat} {zs : List Int} {bs : List (List Stm)} (hb : ∀ b ∈ bs, ∀ s ∈ b, StN ((vrsN zs zs.length).map (·.1)) ((opsN f m1).map (·.1)) s) : buildG (gm30 f m1 zs bs) = some (.fin (runR ⟨szOf (vrsN zs zs.length), onG (opsN f m1)⟩ bs (fun _ => 0, 0)).2) := by
  have h := runB_rds (e := ⟨szOf (vrsN zs zs.length), onG (opsN f m1)⟩) (left := 400) (by decide) (rsN bs bs.length) 0 (fun _ => 0, 0) [] [] fun p hp => run2 (hb p.2 (rsN_mem hp))
  show (runB ⟨szOf (vrsN zs zs.length), onG (opsN f m1)⟩ (itsOf (rsN bs bs.length) 0) (fun _ => 0) [] [] 0 400).map (·.1) = _
  rw [h, rsN_snd]
  rfl
/-- dicts that a law fills from lists of pairs -/
theorem tab_fill {H : Hp} {t : Addr} {vv : List (Str × Int)} {g : Str × Int → Int} {tab : Str → Int} (hl : vv.length ≤ 100) (e : H t = some (.dK (vv.map fun p => ((.inr p.1, .int (g p)) : Key × V)))) (h : ∀ x p, vv.find? (fun p => decide (p.1 = x)) = some p → tab x = g p ∧ 0 ≤ g p ∧ g p < 65536) : TabOk H t (vv.map (·.1)) tab := by
  refine ⟨_, e, by rw [List.length_map]; omega, fun x hx => ?_⟩
  obtain ⟨p, hf, hm, hp⟩ := find_mem hx
  obtain ⟨h1, h2⟩ := h x p hf
  rw [h1]
  refine ⟨?_, h2⟩
  have : valV (vv.map fun p => ((.inr p.1, .int (g p)) : Key × V)) (.inr x) = (vv.find? fun p => decide (p.1 = x)).map fun p => V.int (g p) := by
    clear e hl hx hf hm h
    induction vv with
    | nil => rfl
    | cons a l ih =>
      by_cases h : a.1 = x
      · rw [List.find?_cons_of_pos (by simp [h]), List.map_cons, valV_pos (by rw [h])]
        rfl
      · rw [List.find?_cons_of_neg (by simp [h]), List.map_cons, valV_neg (fun z => h (Sum.inr.inj z)), ih]
  rw [this, hf]
  rfl
/-- the lists of the rounds' statements -/
structure BlkAt (K : PySem.W.Frag) (B0 H : Hp) (ls : List Addr) (bs : List (List Stm)) (N : Nat) : Prop where
  n : ls.length = bs.length
  nd : ls.Nodup
  f : ∀ (j : Nat) l b, ls[j]? = some l → bs[j]? = some b → B0 l = none ∧ ∃ bx, H l = some (.lst bx) ∧ DpAll K H bx (stDs b) ∧ b.length ≤ N
theorem BlkAt.same {K : PySem.W.Frag} {B0 H H' : Hp} {ls : List Addr} {bs : List (List Stm)} {N : Nat} (h : BlkAt K B0 H ls bs N) (s : Same H H') : BlkAt K B0 H' ls bs N := ⟨h.n, h.nd, fun j l b e1 e2 => let ⟨a, bx, c, d, g⟩ := h.f j l b e1 e2; ⟨a, bx, s _ _ c, dpAll_same s _ _ d, g⟩⟩
theorem BlkAt.app {K : PySem.W.Frag} {B0 H : Hp} {ls : List Addr} {bs : List (List Stm)} {N j : Nat} {l : Addr} {b : List Stm} {bx : List V} {v : V} {s : Stm} (h : BlkAt K B0 H ls bs N) (e1 : ls[j]? = some l) (e2 : bs[j]? = some b) (e : H l = some (.lst bx)) (d : DpAll K H bx (stDs b)) (dv : Dp K H v (stD s)) : BlkAt K B0 (upd H l (.lst (bx ++ [v]))) ls (bs.set j (b ++ [s])) (N + 1) := by
  refine ⟨by rw [List.length_set]; exact h.n, h.nd, fun i l' b' f1 f2 => ?_⟩
  by_cases hij : i = j
  · subst hij
    rw [e1] at f1
    cases f1
    rw [List.getElem?_set_self (List.getElem?_eq_some_iff.mp e2).1] at f2
    cases f2
    obtain ⟨a, bx', c, _, g⟩ := h.f i l b e1 e2
    refine ⟨a, bx ++ [v], upd_same, ?_, by rw [List.length_append, List.length_singleton]; omega⟩
    refine dpAll_put e _ _ (stDs_noL _) ?_
    rw [stDs_cat]
    exact dpAll_snoc d dv
  · rw [List.getElem?_set_ne (fun z => hij z.symm)] at f2
    obtain ⟨a, bx', c, d', g⟩ := h.f i l' b' f1 f2
    have ne : l' ≠ l := fun z => by
      subst z
      have h1 := (List.getElem?_eq_some_iff.mp f1)
      have h2 := (List.getElem?_eq_some_iff.mp e1)
      obtain ⟨a1, b1⟩ := h1
      obtain ⟨a2, b2⟩ := h2
      rcases Nat.lt_or_gt_of_ne hij with z | z
      · exact List.pairwise_iff_getElem.mp h.nd i j a1 a2 z (b1.trans b2.symm)
      · exact List.pairwise_iff_getElem.mp h.nd j i a2 a1 z (b2.trans b1.symm)
    exact ⟨a, bx', by rw [upd_ne ne]; exact c, dpAll_put e _ _ (stDs_noL _) d', by omega⟩
theorem BlkAt.snoc {K : PySem.W.Frag} {B0 H : Hp} {ls : List Addr} {bs : List (List Stm)} {N : Nat} {l : Addr} (h : BlkAt K B0 H ls bs N) (s : Same B0 H) (nl : H l = none) : BlkAt K B0 (upd H l (.lst [])) (ls ++ [l]) (bs ++ [[]]) N := by
  have u := same_new (o := HO.lst []) nl
  refine ⟨by rw [List.length_append, List.length_append, h.n]; rfl, ?_, fun j l' b e1 e2 => ?_⟩
  · refine List.nodup_append.mpr ⟨h.nd, by simp, fun x hx y hy => ?_⟩
    rw [List.mem_singleton.mp hy]
    intro z
    subst z
    obtain ⟨j, hj⟩ := List.mem_iff_getElem?.mp hx
    have hj2 := (List.getElem?_eq_some_iff.mp hj).1
    obtain ⟨_, bx, e, _⟩ := h.f j x _ hj (List.getElem?_eq_getElem (by rw [← h.n]; exact hj2))
    rw [e] at nl
    cases nl
  · rcases Nat.lt_or_ge j ls.length with z | z
    · rw [List.getElem?_append_left z] at e1
      rw [List.getElem?_append_left (by rw [← h.n]; exact z)] at e2
      obtain ⟨a, bx, e, d, g⟩ := h.f j l' b e1 e2
      exact ⟨a, bx, u _ _ e, dpAll_same u _ _ d, g⟩
    · have hj := (List.getElem?_eq_some_iff.mp e1).1
      rw [List.length_append, List.length_singleton] at hj
      obtain rfl : j = ls.length := by omega
      rw [List.getElem?_append_right (Nat.le_refl _), Nat.sub_self] at e1
      rw [List.getElem?_append_right (by rw [h.n]; exact Nat.le_refl _), h.n, Nat.sub_self] at e2
      cases e1
      cases e2
      exact ⟨s.free nl, [], upd_same, .nil, Nat.zero_le _⟩
theorem BlkAt.put {K : PySem.W.Frag} {B0 H : Hp} {ls : List Addr} {bs : List (List Stm)} {N : Nat} {L : Addr} {ys zs : List V} (h : BlkAt K B0 H ls bs N) (hL : H L = some (.lst ys)) (hn : ∀ l ∈ ls, l ≠ L) : BlkAt K B0 (upd H L (.lst zs)) ls bs N := ⟨h.n, h.nd, fun j l b e1 e2 => let ⟨a, bx, e, d, g⟩ := h.f j l b e1 e2; ⟨a, bx, by rw [upd_ne (hn l (List.mem_of_getElem? e1))]; exact e, dpAll_put hL _ _ (stDs_noL _) d, g⟩⟩
theorem fill_put {α : Type} {g : Str × α → V} {vv : List (Str × α)} {i : Nat} {p : Str × α} (nd : (vv.map (·.1)).Nodup) (e : vv[i]? = some p) : putK ((vv.take i).map fun p => ((.inr p.1, g p) : Key × V)) (.inr p.1) (g p) = (vv.take (i + 1)).map fun p => ((.inr p.1, g p) : Key × V) := by
  obtain ⟨hi, ei⟩ := List.getElem?_eq_some_iff.mp e
  rw [put_new, take_snoc e, List.map_append]
  · rfl
  · intro q hq hk
    obtain ⟨q', hq', rfl⟩ := List.mem_map.mp hq
    have hk : q'.1 = p.1 := Sum.inr.inj hk
    obtain ⟨j, hj⟩ := List.mem_iff_getElem?.mp hq'
    have hj2 := (List.getElem?_eq_some_iff.mp hj).1
    rw [List.length_take] at hj2
    rw [List.getElem?_take_of_lt (by omega)] at hj
    obtain ⟨a, b⟩ := List.getElem?_eq_some_iff.mp hj
    refine List.pairwise_iff_getElem.mp nd j i (by rw [List.length_map]; exact a) (by rw [List.length_map]; exact hi) (by omega) ?_
    rw [List.getElem_map, List.getElem_map, b, ei]
    exact hk
theorem on_fill {H : Hp} {t : Addr} {vv : List (Str × Bool)} (hl : vv.length ≤ 100) (e : H t = some (.dK (vv.map fun p => ((.inr p.1, .bl p.2) : Key × V)))) : OnOk H t (vv.map (·.1)) (onG vv) := by
  refine ⟨_, e, by rw [List.length_map]; omega, fun x hx => ?_⟩
  obtain ⟨p, hf, hm, hp⟩ := find_mem hx
  rw [val_find, hf]
  show some (V.bl p.2) = some (.bl (onG vv x))
  unfold onG
  rw [hf]
theorem sz_bd {zs : List Int} (hz : ∀ z ∈ zs, 1 ≤ z ∧ z ≤ 65535) {x : Str} {p : Str × Int} (h : (vrsN zs zs.length).find? (fun p => decide (p.1 = x)) = some p) : szOf (vrsN zs zs.length) x = p.2 ∧ 1 ≤ p.2 ∧ p.2 ≤ 65535 := by
  refine ⟨by unfold szOf; rw [h], ?_⟩
  obtain ⟨k, hk, rfl⟩ := List.mem_map.mp (show p ∈ vrsN zs zs.length from List.mem_of_find?_eq_some h)
  have hk := List.mem_range.mp hk
  show 1 ≤ zs.getD k 0 ∧ zs.getD k 0 ≤ 65535
  rw [List.getD_eq_getElem?_getD, List.getElem?_eq_getElem hk]
  exact hz _ (List.getElem_mem hk)
theorem runR_snoc {e : Ev} {bs : List (List Stm)} {i : Nat} {b : List Stm} {x : (Str → Int) × Int} (h : bs[i]? = some b) : runR e (bs.take (i + 1)) x = runN e 2 b (runR e (bs.take i) x) := by
  unfold runR
  rw [take_snoc h, List.foldl_append]
  rfl
theorem mul3 {i n : Nat} (h : i < 70) (hn : n ≤ 3) : 0 ≤ (i : Int) * n ∧ (i : Int) * n ≤ 210 := by
  rcases (by omega : n = 0 ∨ n = 1 ∨ n = 2 ∨ n = 3) with rfl | rfl | rfl | rfl <;> omega
theorem opsN_succ (f : Nat → Bool) (m : Nat) : osL (opsN f (m + 1)) = osL (opsN f m) ++ [.tuple [.str (nmO m), .bool (f m)]] := by unfold osL opsN; rw [List.range_succ, List.map_append, List.map_append]; rfl
theorem vrsN_succ (zs : List Int) (m : Nat) : vsL (vrsN zs (m + 1)) = vsL (vrsN zs m) ++ [.tuple [.str (nmV m), .int (zs.getD m 0)]] := by unfold vsL vrsN; rw [List.range_succ, List.map_append, List.map_append]; rfl
theorem osL_noL (l : List (Str × Bool)) : noLAll (osL l) = true := by
  unfold osL
  induction l with
  | nil => rfl
  | cons a l ih => rw [List.map_cons]; simp only [noLAll, noL, ih, Bool.and_self]
theorem vsL_noL (l : List (Str × Int)) : noLAll (vsL l) = true := by
  unfold vsL
  induction l with
  | nil => rfl
  | cons a l ih => rw [List.map_cons]; simp only [noLAll, noL, ih, Bool.and_self]
def rdL (rs : List (Str × List Stm)) : List PyData := rs.map fun p => .tuple [.str p.1, .tuple (stDs p.2)]
theorem rdL_noL (l : List (Str × List Stm)) : noLAll (rdL l) = true := by
  unfold rdL
  induction l with
  | nil => rfl
  | cons a l ih => rw [List.map_cons]; simp only [noLAll, noL, ih, stDs_noL, Bool.and_self]
theorem rsN_succ (bs : List (List Stm)) (m : Nat) : rdL (rsN bs (m + 1)) = rdL (rsN bs m) ++ [.tuple [.str (nmR m), .tuple (stDs (bs.getD m []))]] := by unfold rdL rsN; rw [List.range_succ, List.map_append, List.map_append]; rfl

end K30
local macro_rules | `(tactic| walk_at "go1") => `(tactic| first
  | with_reducible refine K30.go_F_End_paid (by assumption) (by assumption) (by assumption) ?_
  | with_reducible refine K30.go_F_Lot_parts (by assumption) (by assumption) (by assumption) ?_
  | with_reducible refine K30.go_F_Turn_player (by assumption) (by assumption) (by assumption) ?_
  | with_reducible refine K30.go_F_Turn_view (by assumption) (by assumption) (by assumption) ?_
  | with_reducible refine K30.go_F_Turn_parts (by assumption) (by assumption) (by assumption) ?_
  | with_reducible refine K30.go_F_Game_options (by assumption) (by assumption) (by assumption) ?_
  | with_reducible refine K30.go_F_Game_variables (by assumption) (by assumption) (by assumption) ?_
  | with_reducible refine K30.go_F_Game_rounds (by assumption) (by assumption) (by assumption) ?_
  | with_reducible refine K30.go_F_Builder_sizes (by assumption) (by assumption) (by assumption) ?_
  | with_reducible refine K30.go_F_Builder_on (by assumption) (by assumption) (by assumption) ?_
  | with_reducible refine K30.go_F_Builder_left (by assumption) (by assumption) (by assumption) ?_)
namespace K30
open PySem PySem.Spec PyProof.Rows L2 Gx
section
variable {P : Program} {w : World} {K : PySem.W.Frag} {mg : Str → Option Value} {base : Heap} {A : Ad}
def sp_combine (K : PySem.W.Frag) : Sp := fun vs H Q _ => ∃ (sg : Str) (k : Nat) (l r : Int), vs = [.str sg, .int l, .int r] ∧ k < 7 ∧ sg = signS k ∧ (0 ≤ l ∧ l < 65536) ∧ (0 ≤ r ∧ r < 65536) ∧ Q (.int (comb k l r)) H
theorem G_combine (T : Txt P K mg A) : FnOk P w K mg base CX0 1 A.f_combine A.d_combine ["sign", "left", "right"] (sp_combine K) := by
  refine (T.F_combine.ok (k := 0) sc_combine (fun vs H Q E h => ?_) (fun cdv Ar outer s H vs Q E hr h => ?_))
  · obtain ⟨sg, k, l, r, rfl, _⟩ := h
    rfl
  · obtain ⟨sg, k, l, r, rfl, hk, hs, hl, hr2, q⟩ := h
    obtain ⟨l0, l1⟩ := hl
    obtain ⟨r0, r1⟩ := hr2
    refine ⟨_, (pss_cons (ps_if (pt_cmpR op_eq (pv 0) pe_str (nomark _))
        (pss_one (ps_ret (pe_op op_mod (pe_op op_add (pv 1) (pv 2)) (pe_op op_add (pe_glob (v := (.int 65535)) rfl T.v_GREATEST.choose_spec ⟨_, rfl⟩) pe_int))))
        pss_nil)
      (pss_cons (ps_if (pt_cmpR op_eq (pv 0) pe_str (nomark _))
        (pss_one (ps_ret (pe_callB (k_max2 rfl) (by rfl) T.n_max (by decide +kernel) (pa_cons pe_int (pa_cons (pe_op op_sub (pv 1) (pv 2)) pa_nil)))))
        pss_nil)
      (pss_cons (ps_if (pt_cmpR op_eq (pv 0) pe_str (nomark _))
        (pss_one (ps_ret (pe_op op_mod (pe_op op_mul (pv 1) (pv 2)) (pe_op op_add (pe_glob (v := (.int 65535)) rfl T.v_GREATEST.choose_spec ⟨_, rfl⟩) pe_int))))
        pss_nil)
      (pss_cons (ps_if (pt_cmpR op_eq (pv 0) pe_str (nomark _))
        (pss_one (ps_ret (pe_ifExp (pt_cmpR op_gt (pv 2) pe_int (nomark _)) (pe_op op_fdiv (pv 1) (pv 2)) pe_int)))
        pss_nil)
      (pss_cons (ps_if (pt_cmpR op_eq (pv 0) pe_str (nomark _))
        (pss_one (ps_ret (pe_ifExp (pt_cmpR op_gt (pv 2) pe_int (nomark _)) (pe_op op_mod (pv 1) (pv 2)) pe_int)))
        pss_nil)
      (pss_cons (ps_if (pt_cmpR op_eq (pv 0) pe_str (nomark _))
        (pss_one (ps_ret (pe_callTy k_int1 (by rfl) T.n_int (by decide +kernel) (pa_cons (pe_cmpR op_lt (pv 1) (pv 2) (nomark _)) pa_nil))))
        pss_nil)
      (pss_one (ps_ret (pe_callTy k_int1 (by rfl) T.n_int (by decide +kernel) (pa_cons (pe_cmpR op_eq (pv 1) (pv 2) (nomark _)) pa_nil)))))))))), ?_⟩
    try dsimp only [cxOf, Cx.nox, Cx.wish]
    rcases sign_cases hk with rfl | rfl | rfl | rfl | rfl | rfl | rfl
    · obtain rfl : sg = "+" := hs
      walk_at "go"
      exact q
    · obtain rfl : sg = "-" := hs
      walk_at "go"
      exact q
    · obtain rfl : sg = "*" := hs
      walk_at "go"
      exact q
    · obtain rfl : sg = "/" := hs
      walk_at "go"
      walk_at "br"
      · intro h
        walk_at "go"
        rw [show comb 3 l r = l / r from if_pos h] at q
        exact q
      · intro h
        walk_at "go"
        rw [show comb 3 l r = 0 from if_neg h] at q
        exact q
    · obtain rfl : sg = "mod" := hs
      walk_at "go"
      walk_at "br"
      · intro h
        walk_at "go"
        rw [show comb 4 l r = l % r from if_pos h] at q
        exact q
      · intro h
        walk_at "go"
        rw [show comb 4 l r = 0 from if_neg h] at q
        exact q
    · obtain rfl : sg = "<" := hs
      walk_at "go"
      rw [show comb 5 l r = if decide (l < r) = true then 1 else 0 by simp [comb]] at q
      exact q
    · obtain rfl : sg = "=" := hs
      walk_at "go"
      rw [show comb 6 l r = if decide (l = r) = true then 1 else 0 by simp [comb]] at q
      exact q
end
end K30

namespace K30
open PySem PySem.Spec PyProof.Rows L2 Gx
section
variable {P : Program} {w : World} {K : PySem.W.Frag} {mg : Str → Option Value} {base : Heap} {A : Ad}
def sp_End___init__ (P : Program) (w : World) (K : PySem.W.Frag) (CE CL CT : Addr) : Sp := fun vs H Q _ => ∃ (p dx : Addr) (x : V), vs = [.ref p, x] ∧ H p = some (.ins CE dx []) ∧ ∀ H', But p H H' → H' p = some (.ins CE dx (F_End x)) → Q .non H'
theorem G_End___init__ (T : Txt P K mg A) : FnOk P w K mg base CX0 1 A.f_End___init__ A.d_End___init__ ["self", "paid"] (sp_End___init__ P w K A.c_End A.c_Lot A.c_Turn) := by
  refine (T.F_End___init__.ok (k := 0) sc_End___init__ (fun vs H Q E h => ?_) (fun cdv Ar outer s H vs Q E hr h => ?_))
  · obtain ⟨p, dx, x, rfl, _⟩ := h
    rfl
  · obtain ⟨p, dx, x, rfl, hp, q⟩ := h
    have cl := T.cl_End
    have n1 := T.na_End_paid
    refine ⟨_, (pss_one (ps_fld (pv 0) (pv 1) rfl)), ?_⟩
    try dsimp only [cxOf, Cx.nox, Cx.wish]
    walk_at "go"
    refine go_sfldV hp cl n1 (by show 0 < 1000; decide) ?_
    rw [F_End_made]
    exact q _ (fun c o n e => by rw [upd_ne n]; exact e) upd_same
end
end K30

namespace K30
open PySem PySem.Spec PyProof.Rows L2 Gx
section
variable {P : Program} {w : World} {K : PySem.W.Frag} {mg : Str → Option Value} {base : Heap} {A : Ad}
def sp_Lot___init__ (P : Program) (w : World) (K : PySem.W.Frag) (CE CL CT : Addr) : Sp := fun vs H Q _ => ∃ (p dx : Addr) (x : V), vs = [.ref p, x] ∧ H p = some (.ins CL dx []) ∧ ∀ H', But p H H' → H' p = some (.ins CL dx (F_Lot x)) → Q .non H'
theorem G_Lot___init__ (T : Txt P K mg A) : FnOk P w K mg base CX0 1 A.f_Lot___init__ A.d_Lot___init__ ["self", "parts"] (sp_Lot___init__ P w K A.c_End A.c_Lot A.c_Turn) := by
  refine (T.F_Lot___init__.ok (k := 0) sc_Lot___init__ (fun vs H Q E h => ?_) (fun cdv Ar outer s H vs Q E hr h => ?_))
  · obtain ⟨p, dx, x, rfl, _⟩ := h
    rfl
  · obtain ⟨p, dx, x, rfl, hp, q⟩ := h
    have cl := T.cl_Lot
    have n1 := T.na_Lot_parts
    refine ⟨_, (pss_one (ps_fld (pv 0) (pv 1) rfl)), ?_⟩
    try dsimp only [cxOf, Cx.nox, Cx.wish]
    walk_at "go"
    refine go_sfldV hp cl n1 (by show 0 < 1000; decide) ?_
    rw [F_Lot_made]
    exact q _ (fun c o n e => by rw [upd_ne n]; exact e) upd_same
end
end K30

namespace K30
open PySem PySem.Spec PyProof.Rows L2 Gx
section
variable {P : Program} {w : World} {K : PySem.W.Frag} {mg : Str → Option Value} {base : Heap} {A : Ad}
def sp_Turn___init__ (P : Program) (w : World) (K : PySem.W.Frag) (CE CL CT : Addr) : Sp := fun vs H Q _ => ∃ (p dx : Addr) (x y u : V), vs = [.ref p, x, y, u] ∧ H p = some (.ins CT dx []) ∧ ∀ H', But p H H' → H' p = some (.ins CT dx (F_Turn x y u)) → Q .non H'
theorem G_Turn___init__ (T : Txt P K mg A) : FnOk P w K mg base CX0 1 A.f_Turn___init__ A.d_Turn___init__ ["self", "player", "view", "parts"] (sp_Turn___init__ P w K A.c_End A.c_Lot A.c_Turn) := by
  refine (T.F_Turn___init__.ok (k := 0) sc_Turn___init__ (fun vs H Q E h => ?_) (fun cdv Ar outer s H vs Q E hr h => ?_))
  · obtain ⟨p, dx, x, y, u, rfl, _⟩ := h
    rfl
  · obtain ⟨p, dx, x, y, u, rfl, hp, q⟩ := h
    have cl := T.cl_Turn
    have n1 := T.na_Turn_player
    have n2 := T.na_Turn_view
    have n3 := T.na_Turn_parts
    refine ⟨_, (pss_cons (ps_fld (pv 0) (pv 1) rfl)
      (pss_cons (ps_fld (pv 0) (pv 2) rfl)
      (pss_one (ps_fld (pv 0) (pv 3) rfl)))), ?_⟩
    try dsimp only [cxOf, Cx.nox, Cx.wish]
    walk_at "go"
    refine go_sfldV hp cl n1 (by show 0 < 1000; decide) ?_
    walk_at "go"
    refine go_sfldV (by exact upd_same) cl n2 (by show 1 < 1000; decide) ?_
    walk_at "go"
    refine go_sfldV (by exact upd_same) cl n3 (by show 2 < 1000; decide) ?_
    rw [upd_upd]
    rw [upd_upd]
    rw [F_Turn_made]
    exact q _ (fun c o n e => by rw [upd_ne n]; exact e) upd_same
end
end K30

namespace K30
open PySem PySem.Spec PyProof.Rows L2 Gx
section
variable {P : Program} {w : World} {K : PySem.W.Frag} {mg : Str → Option Value} {base : Heap} {A : Ad}
def sp_Builder___init__ (K : PySem.W.Frag) (C CG : Addr) : Sp := fun vs H Q _ => ∃ (p dx a : Addr) (g : Gm), vs = [.ref p, .ref a] ∧ H p = some (.ins C dx []) ∧ GmAt K CG H a g ∧ GmOk g ∧ ∀ H', But p H H' → BdAt C H' p (g.vs.map (·.1)) (g.os.map (·.1)) (evOf g) 400 → Q .non H'
theorem G_Builder___init__ (T : Txt P K mg A) : FnOk P w K mg base CX0 1 A.f_Builder___init__ A.d_Builder___init__ ["self", "game"] (sp_Builder___init__ K A.c_Builder A.c_Game) := by
  refine (T.F_Builder___init__.ok (k := 0) sc_Builder___init__ (fun vs H Q E h => ?_) (fun cdv Ar outer s H vs Q E hr h => ?_))
  · obtain ⟨p, dx, a, g, rfl, _⟩ := h
    rfl
  · obtain ⟨p, dx, a, g, rfl, hp, hg, ok, q⟩ := h
    obtain ⟨dg, o, v, r, xo, xv, og, k1, d1, k2, d2, d3⟩ := hg.ex
    have cl := T.cl_Builder
    have na_s := T.na_Builder_sizes
    have na_o := T.na_Builder_on
    have na_l := T.na_Builder_left
    have clg := T.cl_Game
    have ng1 := T.na_Game_options
    have ng2 := T.na_Game_variables
    have ng3 := T.na_Game_rounds

    have apn : a ≠ p := fun z => by
      rw [z, hp] at og
      have h3 : (0 : Nat) = 3 := congrArg (fun o : Option HO => match o with | some (HO.ins _ _ fs) => fs.length | _ => 0) og
      cases h3
    obtain ⟨qv, rfl, hpv⟩ := pairs_dp (cd := PyData.int) (cv := V.int) (fun a x h => dpI h) d2
    obtain ⟨qo, rfl, hpo⟩ := pairs_dp (cd := PyData.bool) (cv := V.bl) (fun a x h => by cases h; rfl) d1
    refine ⟨_, (pss_cons (ps_fld (pv 0) (pe_callTy (call_dictT rfl) (by rfl) T.n_dict (by decide +kernel) (pa_cons (pe_fld (pv 1) rfl) pa_nil)) rfl)
      (pss_cons (ps_fld (pv 0) (pe_callTy (call_dictT rfl) (by rfl) T.n_dict (by decide +kernel) (pa_cons (pe_fld (pv 1) rfl) pa_nil)) rfl)
      (pss_one (ps_fld (pv 0) (pe_glob (v := (.int 400)) rfl T.v_MOST_PLACES.choose_spec ⟨_, rfl⟩) rfl)))), ?_⟩
    try dsimp only [cxOf, Cx.nox, Cx.wish]
    walk_at "go"
    refine ⟨v, qv, _, rfl, k2, hpv, fun d nd => ?_⟩
    rw [merge_nodup _ [] (by rw [List.nil_append]; exact keys_nodup ok.vn), List.nil_append]
    walk_at "go"
    have s1 := same_new (o := HO.dK (g.vs.map fun p => ((.inr p.1, .int p.2) : Key × V))) nd
    have dp : d ≠ p := (ne_of_none hp nd).symm
    have p1 := s1 _ _ hp
    refine go_sfldV p1 cl na_s (by show 0 < 1000; decide) ?_
    have bA : But p (upd H d (.dK (g.vs.map fun p => ((.inr p.1, .int p.2) : Key × V)))) (upd (upd H d (.dK (g.vs.map fun p => ((.inr p.1, .int p.2) : Key × V)))) p (.ins A.c_Builder dx (putF "sizes" (.ref d) []))) := (But.refl _ _).upd
    have b1 := (Same.but (a := p) s1).trans bA
    have e1 : upd (upd H d (.dK (g.vs.map fun p => ((.inr p.1, .int p.2) : Key × V)))) p (.ins A.c_Builder dx (putF "sizes" (.ref d) [])) d = some (.dK (g.vs.map fun p => ((.inr p.1, .int p.2) : Key × V))) := by rw [upd_ne dp, upd_same]
    have p2 : upd (upd H d (.dK (g.vs.map fun p => ((.inr p.1, .int p.2) : Key × V)))) p (.ins A.c_Builder dx (putF "sizes" (.ref d) [])) p = some (.ins A.c_Builder dx (putF "sizes" (.ref d) [])) := upd_same
    generalize upd (upd H d (.dK (g.vs.map fun p => ((.inr p.1, .int p.2) : Key × V)))) p (.ins A.c_Builder dx (putF "sizes" (.ref d) [])) = H2 at *
    have og2 := b1 _ _ apn og
    have k12 := knT_butI hp b1 k1
    have hpo2 : Paired (fun p kv => SqT K H2 p [kV kv.1, kv.2]) qo (g.os.map fun p => ((.inr p.1, .bl p.2) : Key × V)) := paired_imp (fun p kv h => sqT_butI hp b1 h) hpo
    walk_at "go"
    refine ⟨o, qo, _, rfl, k12, hpo2, fun d' nd' => ?_⟩
    rw [merge_nodup _ [] (by rw [List.nil_append]; exact keys_nodup ok.on), List.nil_append]
    walk_at "go"
    have s3 := same_new (o := HO.dK (g.os.map fun p => ((.inr p.1, .bl p.2) : Key × V))) nd'
    have dp' : d' ≠ p := (ne_of_none p2 nd').symm
    refine go_sfldV (s3 _ _ p2) cl na_o (by show 1 < 1000; decide) ?_
    walk_at "go"
    refine go_sfldV upd_same cl na_l (by show 2 < 1000; decide) ?_
    rw [F_Builder_made, upd_upd]
    have b4 : But p H (upd (upd H2 d' (.dK (g.os.map fun p => ((.inr p.1, .bl p.2) : Key × V)))) p (.ins A.c_Builder dx (F_Builder (.ref d) (.ref d') (.int 400)))) := (b1.trans (Same.but s3)).trans (But.refl _ _).upd
    refine q _ b4 ⟨⟨dx, d, d', upd_same, ⟨_, by rw [upd_ne dp]; exact s3 _ _ e1, by rw [List.length_map]; have := ok.vl; omega, fun x hx => ?_⟩, ⟨_, by rw [upd_ne dp']; exact upd_same, by rw [List.length_map]; have := ok.ol; omega, fun x hx => ?_⟩⟩, fun x hx => ?_⟩
    · obtain ⟨q, hq, hm, rfl⟩ := find_mem hx
      have := ok.sz q hm
      have e : (evOf g).sz q.1 = q.2 := by show szOf g.vs q.1 = _; unfold szOf; rw [hq]
      rw [e, val_find, hq]
      exact ⟨rfl, by omega, by omega⟩
    · obtain ⟨q, hq, hm, rfl⟩ := find_mem hx
      have e : (evOf g).on q.1 = q.2 := by show onG g.os q.1 = _; unfold onG; rw [hq]
      rw [e, val_find, hq]
      rfl
    · obtain ⟨q, hq, hm, rfl⟩ := find_mem hx
      have := ok.sz q hm
      have e : (evOf g).sz q.1 = q.2 := by show szOf g.vs q.1 = _; unfold szOf; rw [hq]
      rw [e]
      exact this.1
end
end K30

namespace K30
open PySem PySem.Spec PyProof.Rows L2 Gx
section
variable {P : Program} {w : World} {K : PySem.W.Frag} {mg : Str → Option Value} {base : Heap} {A : Ad}
def sp_Builder_stored (C : Addr) : Sp := fun vs H Q _ => ∃ (b t : Addr) (x : Str) (v : Int) (ns ps : List Str) (e : Ev) (left : Int) (tab : Str → Int), vs = [.ref b, .ref t, .str x, .int v] ∧ BdAt C H b ns ps e left ∧ TabOk H t ns tab ∧ x ∈ ns ∧ ∀ p H', Same H H' → H p = none → TabOk H' p ns (tput tab x (v % e.sz x)) → Q (.ref p) H'
theorem G_Builder_stored (T : Txt P K mg A) : FnOk P w K mg base CX0 1 A.f_Builder_stored A.d_Builder_stored ["self", "table", "name", "value"] (sp_Builder_stored A.c_Builder) := by
  refine (T.F_Builder_stored.ok (k := 0) sc_Builder_stored (fun vs H Q E h => ?_) (fun cdv Ar outer s H vs Q E hr h => ?_))
  · obtain ⟨b, t, x, v, ns, ps, e, left, tab, rfl, _⟩ := h
    rfl
  · obtain ⟨b, t, x, v, ns, ps, e, left, tab, rfl, hb, ⟨kvs, et, hl, hk⟩, hx, q⟩ := h
    obtain ⟨dx, s, o, ob, ⟨kz, es, hzl, hz⟩, ho⟩ := hb.ex
    have cl := T.cl_Builder
    have na_s := T.na_Builder_sizes
    have na_o := T.na_Builder_on
    have na_l := T.na_Builder_left

    refine ⟨_, (pss_cons (ps_set (i := 4) sc_Builder_stored.nd rfl (Or.inl rfl) (pe_callTy call_dictC (by rfl) T.n_dict (by decide +kernel) (pa_cons (pv 1) pa_nil)))
      (pss_cons (ps_dput (hu_of hr) (pv 4) (pv 2) (pe_op op_mod (pv 3) (pe_dget (hu_of hr) (pe_fld (pv 0) rfl) (pv 2) (fun _ _ => rfl))) rfl)
      (pss_one (ps_ret (pv 4))))), ?_⟩
    try dsimp only [cxOf, Cx.nox, Cx.wish]
    walk_at "go"
    refine go_dictD et fun p np => ?_
    walk_at "go"
    have sp := same_new (o := HO.dK kvs) np
    have ob1 := sp _ _ ob
    have es1 := sp _ _ es
    have ep : upd H p (.dK kvs) p = some (.dK kvs) := upd_same
    generalize upd H p (.dK kvs) = H1 at *
    have hpos := hb.pos x hx
    walk_at "go"
    refine go_dgetS es1 (hz x hx).1 ?_
    walk_at "go"
    refine go_dputS ep (by omega) ?_
    walk_at "go"
    have hv := Int.emod_nonneg v (show e.sz x ≠ 0 by omega)
    have hv2 := Int.emod_lt_of_pos v (show 0 < e.sz x by omega)
    have hv3 := (hz x hx).2.2
    have hin : (kvs.any fun kv => decide (kv.1 = (.inr x : Key))) = true := by
      obtain ⟨q, hq, e2⟩ := List.mem_map.mp (show (.inr x : Key) ∈ kvs.map (·.1) from List.mem_map.mpr ⟨_, valV_mem (hk x hx).1, rfl⟩)
      exact List.any_eq_true.mpr ⟨q, hq, by simp [e2]⟩
    refine q p _ (same_mut sp np) np ⟨_, upd_same, ?_, fun y hy => ?_⟩
    · unfold putK
      rw [if_pos hin, List.length_map]
      exact hl
    · unfold tput
      by_cases h : y = x
      · subst h
        rw [valV_put, if_pos rfl]
        exact ⟨rfl, hv, by omega⟩
      · rw [valV_put_ne (fun z => h (Sum.inr.inj z)), if_neg h]
        exact hk y hy
end
end K30

namespace K30
open PySem PySem.Spec PyProof.Rows L2 Gx
section
variable {P : Program} {w : World} {K : PySem.W.Frag} {mg : Str → Option Value} {base : Heap} {A : Ad}
def sp_shown (K : PySem.W.Frag) : Sp := fun vs H Q _ => ∃ (sv ev : V) (i : Int) (s1 s2 : List PyData) (d : PyData), vs = [sv, .int i, ev] ∧ Dp K H sv (.tuple [.tuple s1, .tuple s2]) ∧ Dp K H ev d ∧ s1.length ≤ 60000 ∧ s2.length ≤ 60000 ∧ ∀ v H', Same H H' → Dp K H' v (.tuple [.tuple (shw1 i s1 d), .tuple (shw2 i s2 d)]) → Q v H'
theorem G_shown (T : Txt P K mg A) : FnOk P w K mg base CX0 1 A.f_shown A.d_shown ["seen", "to", "event"] (sp_shown K) := by
  refine (T.F_shown.ok (k := 0) sc_shown (fun vs H Q E h => ?_) (fun cdv Ar outer s H vs Q E hr h => ?_))
  · obtain ⟨sv, ev, i, s1, s2, d, rfl, _⟩ := h
    rfl
  · obtain ⟨sv, ev, i, s1, s2, d, rfl, hs, he, l1, l2, q⟩ := h
    obtain ⟨sa, sx, rfl, esa, dsa⟩ := dp_tup hs
    obtain ⟨v1, v2, rfl, d1, d2⟩ := dp2 dsa
    refine ⟨_, (pss_cons (ps_asg (pv 0) (pg_tup rfl (pgs_cons (pg_name (i := 3) sc_shown.nd rfl (Or.inl rfl)) (pgs_cons (pg_name (i := 4) sc_shown.nd rfl (Or.inl rfl)) pgs_nil))))
      (Evl.pss_cut (ps_if (pt_cmpR op_ne (pv 1) pe_int (nomark _))
        (pss_one (ps_set (i := 3) sc_shown.nd rfl (Or.inl rfl) (pe_op op_catA (pv 3) (pe_tup (pa_cons (pv 2) pa_nil)))))
        pss_nil)
      (Evl.pss_cut (ps_if (pt_cmpR op_ne (pv 1) pe_int (nomark _))
        (pss_one (ps_set (i := 4) sc_shown.nd rfl (Or.inl rfl) (pe_op op_catA (pv 4) (pe_tup (pa_cons (pv 2) pa_nil)))))
        pss_nil)
      (pss_one (ps_ret (pe_tup (pa_cons (pv 3) (pa_cons (pv 4) pa_nil)))))))), ?_⟩
    try dsimp only [cxOf, Cx.nox, Cx.wish]
    walk_at "go"
    refine go_gtup esa rfl ?_
    walk_at "go"
    refine go_cut (fun σ' H' => ∃ w, σ' = [some (.ref sa), some (.int i), some ev, some w, some v2] ∧ Same H H' ∧ Dp K H' w (.tuple (shw1 i s1 d))) ?_ ?_
    · walk_at "go"
      walk_at "br"
      · intro h
        obtain ⟨a1, x1, rfl, e1, g1⟩ := dp_tup d1
        walk_at "go"
        refine ⟨by show 1 ≤ sizeLine; decide, fun t nt => ?_⟩
        have st := same_new (o := HO.tup [ev]) nt
        walk_at "go"
        refine go_catA (same_sqT st e1) (.inl (.inl upd_same)) (by rw [dpAll_len g1]; show _ + 1 ≤ _; omega) (by simp) fun u H1 su eu => ?_
        walk_at "go"
        refine ⟨_, rfl, st.trans su, ?_⟩
        unfold shw1
        rw [if_neg h]
        exact .tup eu (dpAll_snoc (dpAll_same (st.trans su) _ _ g1) (dp_same (st.trans su) _ _ he))
      · intro h
        walk_at "go"
        refine ⟨_, rfl, Same.refl _, ?_⟩
        unfold shw1
        rw [if_pos h]
        exact d1
    rintro σ' H1 ⟨w, rfl, s1', dw⟩
    walk_at "go"
    refine go_cut (fun σ' H' => ∃ w2, σ' = [some (.ref sa), some (.int i), some ev, some w, some w2] ∧ Same H1 H' ∧ Dp K H' w2 (.tuple (shw2 i s2 d))) ?_ ?_
    · walk_at "go"
      walk_at "br"
      · intro h
        obtain ⟨a1, x1, rfl, e1, g1⟩ := dp_tup (dp_same s1' _ _ d2)
        walk_at "go"
        refine ⟨by show 1 ≤ sizeLine; decide, fun t nt => ?_⟩
        have st := same_new (o := HO.tup [ev]) nt
        walk_at "go"
        refine go_catA (same_sqT st e1) (.inl (.inl upd_same)) (by rw [dpAll_len g1]; show _ + 1 ≤ _; omega) (by simp) fun u H1 su eu => ?_
        walk_at "go"
        refine ⟨_, rfl, st.trans su, ?_⟩
        unfold shw2
        rw [if_neg h]
        exact .tup eu (dpAll_snoc (dpAll_same (st.trans su) _ _ g1) (dp_same ((s1'.trans st).trans su) _ _ he))
      · intro h
        walk_at "go"
        refine ⟨_, rfl, Same.refl _, ?_⟩
        unfold shw2
        rw [if_pos h]
        exact dp_same s1' _ _ d2
    rintro σ' H2 ⟨w2, rfl, s2', dw2⟩
    walk_at "go"
    refine ⟨by show 2 ≤ sizeLine; decide, fun t nt => ?_⟩
    have st := same_new (o := HO.tup [w, w2]) nt
    exact q _ _ ((s1'.trans s2').trans st) (.tup (.inl (.inl upd_same)) (.cons (dp_same (s2'.trans st) _ _ dw) (.cons (dp_same st _ _ dw2) .nil)))
end
end K30

namespace K30
open PySem PySem.Spec PyProof.Rows L2 Gx
section
variable {P : Program} {w : World} {K : PySem.W.Frag} {mg : Str → Option Value} {base : Heap} {A : Ad}
def sp_chained (K : PySem.W.Frag) : Sp := fun vs H Q _ => ∃ (bv rv : V) (l : List Stm) (items : List It), vs = [bv, rv] ∧ Dp K H bv (.tuple (stDs l)) ∧ Dp K H rv (chD items) ∧ ∀ v H', Same H H' → Dp K H' v (chD (l.map .st ++ items)) → Q v H'
theorem G_chained (T : Txt P K mg A) : FnOk P w K mg base CX0 1 A.f_chained A.d_chained ["block", "rest"] (sp_chained K) := by
  refine (T.F_chained.ok (k := 0) sc_chained (fun vs H Q E h => ?_) (fun cdv Ar outer s H vs Q E hr h => ?_))
  · obtain ⟨bv, rv, l, items, rfl, _⟩ := h
    rfl
  · obtain ⟨bv, rv, l, items, rfl, hb, hr2, q⟩ := h
    obtain ⟨a, xs, rfl, ea, da⟩ := dp_tup hb
    have lx : xs.length = l.length := by rw [dpAll_len da, stDs_len]
    refine ⟨_, (pss_cons (ps_for PassesOwn.never rfl (RT.pi_revA rfl T.n_reversed (pv 0)) (pg_name (i := 2) sc_chained.nd rfl (Or.inl rfl))
        (pss_one (ps_set (i := 1) sc_chained.nd rfl (Or.inl rfl) (pe_tup (pa_cons (pv 2) (pa_cons (pv 1) pa_nil))))))
      (pss_one (ps_ret (pv 1)))), ?_⟩
    try dsimp only [cxOf, Cx.nox, Cx.wish]
    walk_at "go"
    refine foRevT xs (fun i σ' H' => ∃ v w, σ' = [some (.ref a), some v, w] ∧ Same H H' ∧ Dp K H' v (chD ((l.drop (l.length - i)).map .st ++ items))) ea ⟨_, _, rfl, Same.refl _, by rw [Nat.sub_zero, List.drop_length]; exact hr2⟩ (fun i σ' H' h => by obtain ⟨_, _, _, s, _⟩ := h; exact same_sqT s ea) ?_ ?_
    · rintro i x σ' H1 hi hx ⟨v, w, rfl, s1, dv⟩
      have hj : l.length - 1 - i < l.length := by omega
      have es := List.getElem?_eq_getElem hj
      generalize l[l.length - 1 - i] = s at es
      obtain ⟨y, ey, dy⟩ := dpAll_get (dpAll_same s1 _ _ da) (stDs_at es)
      rw [lx, ey] at hx
      injection hx with hx
      subst hx
      walk_at "go"
      refine ⟨by show 2 ≤ sizeLine; decide, fun t nt => ?_⟩
      walk_at "go"
      have st := same_new (o := HO.tup [y, v]) nt
      refine ⟨_, _, rfl, s1.trans st, ?_⟩
      have e : l.drop (l.length - (i + 1)) = s :: l.drop (l.length - i) := by
        rw [show l.length - (i + 1) = l.length - 1 - i by omega, List.drop_eq_getElem_cons hj]
        have : l[l.length - 1 - i] = s := by rw [List.getElem?_eq_getElem hj] at es; exact Option.some.inj es
        rw [this, show l.length - 1 - i + 1 = l.length - i by omega]
      rw [e]
      exact .tup (.inl (.inl upd_same)) (.cons (dp_same st _ _ dy) (.cons (dp_same st _ _ dv) .nil))
    · rintro σ' H1 ⟨v, w, rfl, s1, dv⟩
      walk_at "go"
      rw [lx, Nat.sub_self, List.drop_zero] at dv
      exact q v H1 s1 dv
end
end K30

namespace K30
open PySem PySem.Spec PyProof.Rows L2 Gx
section
variable {P : Program} {w : World} {K : PySem.W.Frag} {mg : Str → Option Value} {base : Heap} {A : Ad}
def sp_Game___init__ (K : PySem.W.Frag) (C : Addr) : Sp := fun vs H Q _ => ∃ (p dx o v r : Addr) (xo xv xr : List V) (g : Gm), vs = [.ref p, .ref o, .ref v, .ref r] ∧ H p = some (.ins C dx []) ∧ ArgK K H o xo ∧ DpAll K H xo (osD g) ∧ ArgK K H v xv ∧ DpAll K H xv (vsD g) ∧ (SqL K H r xr ∨ SqT K H r xr) ∧ DpAll K H xr (rdsD g) ∧ ∀ H', GmAt K C H' p g → But p H H' → Q .non H'
theorem G_Game___init__ (T : Txt P K mg A) : FnOk P w K mg base CX0 1 A.f_Game___init__ A.d_Game___init__ ["self", "options", "variables", "rounds"] (sp_Game___init__ K A.c_Game) := by
  refine (T.F_Game___init__.ok (k := 0) sc_Game___init__ (fun vs H Q E h => ?_) (fun cdv Ar outer s H vs Q E hr h => ?_))
  · obtain ⟨p, dx, o, v, r, xo, xv, xr, g, rfl, _⟩ := h
    rfl
  · obtain ⟨p, dx, o, v, r, xo, xv, xr, g, rfl, hp, ho, do_, hv, dv, hr2, dr, q⟩ := h
    have clg := T.cl_Game
    have ng1 := T.na_Game_options
    have ng2 := T.na_Game_variables
    have ng3 := T.na_Game_rounds

    refine ⟨_, (pss_cons (ps_fld (pv 0) (pe_callTy k_tupG (by rfl) T.n_tuple (by decide +kernel) (pa_cons (pv 1) pa_nil)) rfl)
      (pss_cons (ps_fld (pv 0) (pe_callTy k_tupG (by rfl) T.n_tuple (by decide +kernel) (pa_cons (pv 2) pa_nil)) rfl)
      (pss_one (ps_fld (pv 0) (pe_callTy k_tupG (by rfl) T.n_tuple (by decide +kernel) (pa_cons (pv 3) pa_nil)) rfl)))), ?_⟩
    try dsimp only [cxOf, Cx.nox, Cx.wish]
    walk_at "go"
    refine ho.go fun l1 H1 s1 k1 => ?_
    walk_at "go"
    have p1 := s1 _ _ hp
    refine go_sfldV p1 clg ng1 (by show 0 < 1000; decide) ?_
    have bA : But p H1 (upd H1 p (.ins A.c_Game dx (putF "options" (.ref l1) []))) := (But.refl _ _).upd
    have b1 := (Same.but (a := p) s1).trans bA
    have k1 := knT_butI p1 bA k1
    have o1 := dpAll_butI hp b1 _ _ do_
    have hv1 := hv.butI hp b1
    have dv1 := dpAll_butI hp b1 _ _ dv
    have hr1 := hr2.imp (sqL_butI hp b1) (sqT_butI hp b1)
    have dr1 := dpAll_butI hp b1 _ _ dr
    have p2 : upd H1 p (.ins A.c_Game dx (putF "options" (.ref l1) [])) p = some (.ins A.c_Game dx (putF "options" (.ref l1) [])) := upd_same
    generalize upd H1 p (.ins A.c_Game dx (putF "options" (.ref l1) [])) = H2 at *
    walk_at "go"
    refine hv1.go fun l2 H3 s3 k3 => ?_
    walk_at "go"
    have p3 := s3 _ _ p2
    refine go_sfldV p3 clg ng2 (by show 1 < 1000; decide) ?_
    have bB : But p H3 (upd H3 p (.ins A.c_Game dx (putF "variables" (.ref l2) (putF "options" (.ref l1) [])))) := (But.refl _ _).upd
    have b3 := (Same.but (a := p) s3).trans bB
    have k3 := knT_butI p3 bB k3
    have k1 := knT_butI p2 b3 k1
    have o1 := dpAll_butI p2 b3 _ _ o1
    have dv1 := dpAll_butI p2 b3 _ _ dv1
    have hr1 := hr1.imp (sqL_butI p2 b3) (sqT_butI p2 b3)
    have dr1 := dpAll_butI p2 b3 _ _ dr1
    have p4 : upd H3 p (.ins A.c_Game dx (putF "variables" (.ref l2) (putF "options" (.ref l1) []))) p = some (.ins A.c_Game dx (putF "variables" (.ref l2) (putF "options" (.ref l1) []))) := upd_same
    generalize upd H3 p (.ins A.c_Game dx (putF "variables" (.ref l2) (putF "options" (.ref l1) []))) = H4 at *
    walk_at "go"
    refine go_tupB hr1 fun l3 H5 s5 k5 => ?_
    walk_at "go"
    have p5 := s5 _ _ p4
    refine go_sfldV p5 clg ng3 (by show 2 < 1000; decide) ?_
    rw [F_Game_made]
    have bC : But p H5 (upd H5 p (.ins A.c_Game dx (F_Game (.ref l1) (.ref l2) (.ref l3)))) := (But.refl _ _).upd
    have b5 := (Same.but (a := p) s5).trans bC
    refine q _ ⟨dx, l1, l2, l3, xo, xv, upd_same, knT_butI p4 b5 k1, dpAll_butI p4 b5 _ _ o1, knT_butI p4 b5 k3, dpAll_butI p4 b5 _ _ dv1, .tup (sqT_butI p5 bC k5) (dpAll_butI p4 b5 _ _ dr1)⟩ ((b1.trans b3).trans b5)
end
end K30

namespace K30
open PySem PySem.Spec PyProof.Rows L2 Gx
section
variable {P : Program} {w : World} {K : PySem.W.Frag} {mg : Str → Option Value} {base : Heap} {A : Ad}
def sp__law_cell (K : PySem.W.Frag) : Sp := fun vs H Q _ => ∃ (a : Addr) (ns : List Int) (k : Int), vs = [.ref a, .int k] ∧ SqL K H a (ns.map V.int) ∧ 0 ≤ k ∧ Q (.int (ns.getD k.toNat 0)) H
theorem G__law_cell (T : Txt P K mg A) : FnOk P w K mg base CX0 1 A.f__law_cell A.d__law_cell ["_law_script", "_law_k"] (sp__law_cell K) := by
  refine (T.F__law_cell.ok (k := 0) sc__law_cell (fun vs H Q E h => ?_) (fun cdv Ar outer s H vs Q E hr h => ?_))
  · obtain ⟨a, ns, k, rfl, _⟩ := h
    rfl
  · obtain ⟨a, ns, k, rfl, hs, h0, q⟩ := h
    refine ⟨_, (pss_cons (ps_if (pt_cmpR op_lt (pv 1) (pe_callB k_len (by rfl) T.n_len (by decide +kernel) (pa_cons (pv 0) pa_nil)) (nomark _))
        (pss_one (ps_ret (pe_ix ix_list (pv 0) (pv 1) (fun _ _ => rfl))))
        pss_nil)
      (pss_one (ps_ret pe_int))), ?_⟩
    try dsimp only [cxOf, Cx.nox, Cx.wish]
    walk_at "go"
    refine go_lenL hs ?_
    rw [List.length_map]
    walk_at "go"
    walk_at "br"
    · intro h
      walk_at "go"
      refine go_ixL hs (at_int h0 h) ?_
      walk_at "go"
      exact q
    · intro h
      walk_at "go"
      rw [List.getD_eq_getElem?_getD, List.getElem?_eq_none (by omega)] at q
      exact q
end
end K30

namespace K30
open PySem PySem.Spec PyProof.Rows L2 Gx
section
variable {P : Program} {w : World} {K : PySem.W.Frag} {mg : Str → Option Value} {base : Heap} {A : Ad}
def sp__law_is_integer (K : PySem.W.Frag) : Sp := fun vs H Q _ => ∃ (k : Int), vs = [.int k] ∧ Q (.bl true) H
theorem G__law_is_integer (T : Txt P K mg A) : FnOk P w K mg base CX0 1 A.f__law_is_integer A.d__law_is_integer ["_law_actual"] (sp__law_is_integer K) := by
  refine (T.F__law_is_integer.ok (k := 0) sc__law_is_integer (fun vs H Q E h => ?_) (fun cdv Ar outer s H vs Q E hr h => ?_))
  · obtain ⟨k, rfl, _⟩ := h
    rfl
  · obtain ⟨k, rfl, q⟩ := h
    refine ⟨_, (pss_one (ps_ret (pe_and (pe_callB call_isi (by rfl) T.n_isinstance (by decide +kernel) (pa_cons (pv 0) (pa_cons (pe_bltn (v := .ty "int") (by rfl) T.n_int (by decide +kernel) rfl) pa_nil))) (pe_one (pe_not (pe_callB call_isi (by rfl) T.n_isinstance (by decide +kernel) (pa_cons (pv 0) (pa_cons (pe_bltn (v := .ty "bool") (by rfl) T.n_bool (by decide +kernel) rfl) pa_nil)))))))), ?_⟩
    try dsimp only [cxOf, Cx.nox, Cx.wish]
    walk_at "go"
    exact q
end
end K30

namespace K30
open PySem PySem.Spec PyProof.Rows L2 Gx
section
variable {P : Program} {w : World} {K : PySem.W.Frag} {mg : Str → Option Value} {base : Heap} {A : Ad}
def sp__law_leaf (K : PySem.W.Frag) : Sp := fun vs H Q _ => ∃ (c : Int) (l : Addr) (xs : List V) (vv : List (Str × Int)), vs = [.int c, .ref l] ∧ H l = some (.lst xs) ∧ DpAll K H xs (vsL vv) ∧ ∀ e t H', Same H H' → XN (vv.map (·.1)) 1 e → Dp K H' (.ref t) (exD e) → Q (.ref t) H'
theorem G__law_leaf (T : Txt P K mg A) : FnOk P w K mg base CX0 1 A.f__law_leaf A.d__law_leaf ["_law_cell_here", "_law_variables"] (sp__law_leaf K) := by
  refine (T.F__law_leaf.ok (k := 0) sc__law_leaf (fun vs H Q E h => ?_) (fun cdv Ar outer s H vs Q E hr h => ?_))
  · obtain ⟨c, l, xs, vv, rfl, _⟩ := h
    rfl
  · obtain ⟨c, l, xs, vv, rfl, hl, dx, q⟩ := h
    have num : ∀ k : Int, 0 ≤ k ∧ k < 65536 → ∀ t, H t = none → Q (.ref t) (upd H t (.tup [.str "number", .int k])) := fun k hk t nt => q (.num k) t _ (same_new nt) hk (.tup (.inl (.inl upd_same)) (.cons (.str _) (.cons (.int _) .nil)))
    refine ⟨_, (pss_cons (ps_if (PW.pt (pw_and (pt_cmpR op_eq (pe_op op_mod (pe_callTy k_int1 (by rfl) T.n_int (by decide +kernel) (pa_cons (pv 0) pa_nil)) pe_int) pe_int (nomark _)) (pw_and1 (pt_cmpR op_gt (pe_callB k_len (by rfl) T.n_len (by decide +kernel) (pa_cons (pv 1) pa_nil)) pe_int (nomark _)))))
        (pss_one (ps_ret (pe_tup (pa_cons pe_str (pa_cons (pe_ix ix_tup (pe_ix ix_list (pv 1) (pe_op op_mod (pe_op op_fdiv (pv 0) pe_int) (pe_callB k_len (by rfl) T.n_len (by decide +kernel) (pa_cons (pv 1) pa_nil))) (fun _ _ => rfl)) pe_int (fun _ _ => rfl)) pa_nil)))))
        pss_nil)
      (pss_cons (ps_if (pt_cmpR op_eq (pe_op op_mod (pe_callTy k_int1 (by rfl) T.n_int (by decide +kernel) (pa_cons (pv 0) pa_nil)) pe_int) pe_int (nomark _))
        (pss_one (ps_ret (pe_tup (pa_cons pe_str (pa_cons (pe_op op_mod (pe_op op_fdiv (pv 0) pe_int) pe_int) pa_nil)))))
        pss_nil)
      (pss_one (ps_ret (pe_tup (pa_cons pe_str (pa_cons (pe_op op_mod (pe_op op_fdiv (pv 0) pe_int) pe_int) pa_nil))))))), ?_⟩
    try dsimp only [cxOf, Cx.nox, Cx.wish]
    walk_at "go"
    have nine : 0 ≤ c / 3 % 9 ∧ c / 3 % 9 < 65536 := by have h0 := Int.emod_nonneg (c / 3) (b := 9) (by decide); have h1 := Int.emod_lt_of_pos (c / 3) (b := 9) (by decide); omega
    have wide : 0 ≤ c / 3 % 65536 ∧ c / 3 % 65536 < 65536 := by have h0 := Int.emod_nonneg (c / 3) (b := 65536) (by decide); have h1 := Int.emod_lt_of_pos (c / 3) (b := 65536) (by decide); omega
    by_cases hc : c % 3 = 0
    · rw [decide_eq_true hc]
      walk_at "go"
      refine go_lenL (.of hl) ?_
      walk_at "go"
      by_cases h0 : 0 < (xs.length : Int)
      · rw [decide_eq_true h0]
        walk_at "go"
        refine go_lenL (.of hl) ?_
        walk_at "go"
        have k0 := Int.emod_nonneg (c / 3) (b := (xs.length : Int)) (by omega)
        have k1 := Int.emod_lt_of_pos (c / 3) (b := (xs.length : Int)) h0
        obtain ⟨a, p, ea, ha, hm, _⟩ := vs_pick dx k0 k1
        refine go_ixL (.of hl) ea ?_
        walk_at "go"
        refine ⟨by show 2 ≤ sizeLine; decide, fun t nt => ?_⟩
        exact q (.var p.1) t _ (same_new nt) hm (.tup (.inl (.inl upd_same)) (.cons (.str _) (.cons (.str _) .nil)))
      · rw [decide_eq_false h0]
        walk_at "go"
        rw [decide_eq_false (show ¬ c % 3 = 1 by omega)]
        walk_at "go"
        exact ⟨by show 2 ≤ sizeLine; decide, fun t nt => num _ wide t nt⟩
    · rw [decide_eq_false hc]
      walk_at "go"
      by_cases h1 : c % 3 = 1
      · rw [decide_eq_true h1]
        walk_at "go"
        exact ⟨by show 2 ≤ sizeLine; decide, fun t nt => num _ nine t nt⟩
      · rw [decide_eq_false h1]
        walk_at "go"
        exact ⟨by show 2 ≤ sizeLine; decide, fun t nt => num _ wide t nt⟩
end
end K30

namespace K30
open PySem PySem.Spec PyProof.Rows L2 Gx
section
variable {P : Program} {w : World} {K : PySem.W.Frag} {mg : Str → Option Value} {base : Heap} {A : Ad}
def sp__law_expression (K : PySem.W.Frag) : Sp := fun vs H Q _ => ∃ (c : Int) (l : Addr) (xs : List V) (vv : List (Str × Int)), vs = [.int c, .ref l] ∧ H l = some (.lst xs) ∧ DpAll K H xs (vsL vv) ∧ ∀ e t H', Same H H' → XN (vv.map (·.1)) 2 e → Dp K H' (.ref t) (exD e) → Q (.ref t) H'
theorem G__law_expression (T : Txt P K mg A) : FnOk P w K mg base CX0 2 A.f__law_expression A.d__law_expression ["_law_cell_here", "_law_variables"] (sp__law_expression K) := by
  refine (T.F__law_expression.ok (k := 1) sc__law_expression (fun vs H Q E h => ?_) (fun cdv Ar outer s H vs Q E hr h => ?_))
  · obtain ⟨c, l, xs, vv, rfl, _⟩ := h
    rfl
  · obtain ⟨c, l, xs, vv, rfl, hl, dx, q⟩ := h
    refine ⟨_, (pss_cons (ps_set (i := 2) sc__law_expression.nd rfl (Or.inl rfl) (pe_ix ix_tup (pe_tup (pa_cons pe_str (pa_cons pe_str (pa_cons pe_str (pa_cons pe_str (pa_cons pe_str (pa_cons pe_str (pa_cons pe_str (pa_cons pe_str (pa_cons pe_str pa_nil)))))))))) (pe_op op_mod (pe_callTy k_int1 (by rfl) T.n_int (by decide +kernel) (pa_cons (pv 0) pa_nil)) pe_int) (fun _ _ => rfl)))
      (pss_cons (ps_if (pt_cmpR op_eq (pv 2) pe_str (nomark _))
        (pss_one (ps_ret (pe_call (G__law_leaf T) (hr.mono (by decide)) rfl T.m__law_leaf T.F__law_leaf.kp T.b__law_leaf .nil pass0 (pa_cons (pe_op op_fdiv (pv 0) pe_int) (pa_cons (pv 1) pa_nil)))))
        pss_nil)
      (pss_one (ps_ret (pe_tup (pa_cons (pv 2) (pa_cons (pe_call (G__law_leaf T) (hr.mono (by decide)) rfl T.m__law_leaf T.F__law_leaf.kp T.b__law_leaf .nil pass0 (pa_cons (pe_op op_fdiv (pv 0) pe_int) (pa_cons (pv 1) pa_nil))) (pa_cons (pe_call (G__law_leaf T) (hr.mono (by decide)) rfl T.m__law_leaf T.F__law_leaf.kp T.b__law_leaf .nil pass0 (pa_cons (pe_op op_fdiv (pe_op op_fdiv (pv 0) pe_int) pe_int) (pa_cons (pv 1) pa_nil))) pa_nil)))))))), ?_⟩
    try dsimp only [cxOf, Cx.nox, Cx.wish]
    walk_at "go"
    refine ⟨by show 9 ≤ sizeLine; decide, fun tw nw => ?_⟩
    have uw := same_new (o := HO.tup [V.str "+", .str "-", .str "*", .str "/", .str "mod", .str "<", .str "=", .str "", .str ""]) nw
    have ew : upd H tw (.tup [V.str "+", .str "-", .str "*", .str "/", .str "mod", .str "<", .str "=", .str "", .str ""]) tw = some (.tup [V.str "+", .str "-", .str "*", .str "/", .str "mod", .str "<", .str "=", .str "", .str ""]) := upd_same
    generalize upd H tw (.tup [V.str "+", .str "-", .str "*", .str "/", .str "mod", .str "<", .str "=", .str "", .str ""]) = H1 at *
    walk_at "go"
    have k0 := Int.emod_nonneg c (b := 9) (by decide)
    have k1 := Int.emod_lt_of_pos c (b := 9) (by decide)
    obtain ⟨w, eat, hw⟩ := word9 k0 k1
    refine go_ixT (.of ew) eat ?_
    walk_at "go"
    rcases hw with ⟨s, hs, es, hne⟩ | rfl
    · rw [decide_eq_false hne]
      walk_at "go"
      refine ⟨_, l, xs, vv, rfl, uw _ _ hl, dpAll_same uw _ _ dx, fun e1 t1 H2 s2 x1 d1 => ?_⟩
      walk_at "go"
      refine ⟨_, l, xs, vv, rfl, s2 _ _ (uw _ _ hl), dpAll_same (uw.trans s2) _ _ dx, fun e2 t2 H3 s3 x2 d2 => ?_⟩
      walk_at "go"
      refine ⟨by show 3 ≤ sizeLine; decide, fun t nt => ?_⟩
      have u := same_new (o := HO.tup [.str w, .ref t1, .ref t2]) nt
      refine q (.op s e1 e2) t _ (uw.trans (s2.trans (s3.trans u))) ⟨hs, x1, x2⟩ ?_
      show Dp K _ _ (.tuple [.str (signS s), exD e1, exD e2])
      rw [← es]
      exact .tup (.inl (.inl upd_same)) (.cons (.str _) (.cons (dp_same (s3.trans u) _ _ d1) (.cons (dp_same u _ _ d2) .nil)))
    · rw [decide_eq_true rfl]
      walk_at "go"
      refine ⟨_, l, xs, vv, rfl, uw _ _ hl, dpAll_same uw _ _ dx, fun e1 t1 H2 s2 x1 d1 => ?_⟩
      exact q e1 t1 H2 (uw.trans s2) (x1.up (by decide)) d1
end
end K30

namespace K30
open PySem PySem.Spec PyProof.Rows L2 Gx
section
variable {P : Program} {w : World} {K : PySem.W.Frag} {mg : Str → Option Value} {base : Heap} {A : Ad}
def sp__law_plain (K : PySem.W.Frag) : Sp := fun vs H Q _ => ∃ (c : Int) (l : Addr) (xs : List V) (vv : List (Str × Int)), vs = [.int c, .ref l] ∧ H l = some (.lst xs) ∧ DpAll K H xs (vsL vv) ∧ ∀ s t H', Same H H' → PlN (vv.map (·.1)) s → Dp K H' (.ref t) (stD s) → Q (.ref t) H'
theorem G__law_plain (T : Txt P K mg A) : FnOk P w K mg base CX0 3 A.f__law_plain A.d__law_plain ["_law_cell_here", "_law_variables"] (sp__law_plain K) := by
  refine (T.F__law_plain.ok (k := 2) sc__law_plain (fun vs H Q E h => ?_) (fun cdv Ar outer s H vs Q E hr h => ?_))
  · obtain ⟨c, l, xs, vv, rfl, _⟩ := h
    rfl
  · obtain ⟨c, l, xs, vv, rfl, hl, dx, q⟩ := h
    refine ⟨_, (pss_cons (ps_set (i := 2) sc__law_plain.nd rfl (Or.inl rfl) (pe_call (G__law_expression T) (hr.mono (by decide)) rfl T.m__law_expression T.F__law_expression.kp T.b__law_expression .nil pass0 (pa_cons (pe_op op_fdiv (pv 0) pe_int) (pa_cons (pv 1) pa_nil))))
      (pss_cons (ps_if (PW.pt (pw_and (pt_cmpR op_eq (pe_op op_mod (pe_callTy k_int1 (by rfl) T.n_int (by decide +kernel) (pa_cons (pv 0) pa_nil)) pe_int) pe_int (nomark _)) (pw_and1 (pt_cmpR op_gt (pe_callB k_len (by rfl) T.n_len (by decide +kernel) (pa_cons (pv 1) pa_nil)) pe_int (nomark _)))))
        (pss_one (ps_ret (pe_tup (pa_cons pe_str (pa_cons (pe_ix ix_tup (pe_ix ix_list (pv 1) (pe_op op_mod (pe_op op_fdiv (pv 0) pe_int) (pe_callB k_len (by rfl) T.n_len (by decide +kernel) (pa_cons (pv 1) pa_nil))) (fun _ _ => rfl)) pe_int (fun _ _ => rfl)) (pa_cons (pe_call (G__law_expression T) (hr.mono (by decide)) rfl T.m__law_expression T.F__law_expression.kp T.b__law_expression .nil pass0 (pa_cons (pe_op op_fdiv (pv 0) pe_int) (pa_cons (pv 1) pa_nil))) pa_nil))))))
        pss_nil)
      (pss_cons (ps_if (pt_cmpR op_eq (pe_op op_mod (pe_callTy k_int1 (by rfl) T.n_int (by decide +kernel) (pa_cons (pv 0) pa_nil)) pe_int) pe_int (nomark _))
        (pss_one (ps_ret (pe_tup (pa_cons pe_str (pa_cons (pe_op op_mod (pe_op op_fdiv (pv 0) pe_int) pe_int) (pa_cons (pv 2) pa_nil))))))
        pss_nil)
      (pss_cons (ps_if (pt_cmpR op_eq (pe_op op_mod (pe_callTy k_int1 (by rfl) T.n_int (by decide +kernel) (pa_cons (pv 0) pa_nil)) pe_int) pe_int (nomark _))
        (pss_one (ps_ret (pe_tup (pa_cons pe_str (pa_cons (pv 2) pa_nil)))))
        pss_nil)
      (pss_one (ps_ret (pe_tup (pa_cons pe_str (pa_cons (pv 2) pa_nil))))))))), ?_⟩
    try dsimp only [cxOf, Cx.nox, Cx.wish]
    walk_at "go"
    refine ⟨_, l, xs, vv, rfl, hl, dx, fun e1 t1 H1 s1 x1 d1 => ?_⟩
    walk_at "go"
    have fin : (∃ i : Int, True) → ∀ H2, Same H1 H2 → True := fun _ _ _ => trivial
    have tail : ∀ h : c % 4 ≠ 0 ∨ ¬ 0 < (xs.length : Int), True := fun _ => trivial
    by_cases hc : c % 4 = 0
    · rw [decide_eq_true hc]
      walk_at "go"
      refine go_lenL (.of (s1 _ _ hl)) ?_
      walk_at "go"
      by_cases h0 : 0 < (xs.length : Int)
      · rw [decide_eq_true h0]
        walk_at "go"
        refine go_lenL (.of (s1 _ _ hl)) ?_
        walk_at "go"
        have k0 := Int.emod_nonneg (c / 4) (b := (xs.length : Int)) (by omega)
        have k1 := Int.emod_lt_of_pos (c / 4) (b := (xs.length : Int)) h0
        obtain ⟨a, p, ea, ha, hm, _⟩ := vs_pick (dpAll_same s1 _ _ dx) k0 k1
        refine go_ixL (.of (s1 _ _ hl)) ea ?_
        walk_at "go"
        refine ⟨_, l, xs, vv, rfl, s1 _ _ hl, dpAll_same s1 _ _ dx, fun e2 t2 H2 s2 x2 d2 => ?_⟩
        walk_at "go"
        refine ⟨by show 3 ≤ sizeLine; decide, fun t nt => ?_⟩
        have u := same_new (o := HO.tup [.str "set", .str p.1, .ref t2]) nt
        exact q (.set p.1 e2) t _ (s1.trans (s2.trans u)) ⟨hm, x2⟩ (.tup (.inl (.inl upd_same)) (.cons (.str _) (.cons (.str _) (.cons (dp_same u _ _ d2) .nil))))
      · rw [decide_eq_false h0]
        walk_at "go"
        rw [decide_eq_false (show ¬ c % 4 = 1 by omega)]
        walk_at "go"
        rw [decide_eq_false (show ¬ c % 4 = 2 by omega)]
        walk_at "go"
        refine ⟨by show 2 ≤ sizeLine; decide, fun t nt => ?_⟩
        have u := same_new (o := HO.tup [.str "pay", .ref t1]) nt
        exact q (.pay false e1) t _ (s1.trans u) x1 (.tup (.inl (.inl upd_same)) (.cons (.str _) (.cons (dp_same u _ _ d1) .nil)))
    · rw [decide_eq_false hc]
      walk_at "go"
      by_cases h1 : c % 4 = 1
      · rw [decide_eq_true h1]
        walk_at "go"
        refine ⟨by show 3 ≤ sizeLine; decide, fun t nt => ?_⟩
        have u := same_new (o := HO.tup [.str "show", .int (c / 4 % 3), .ref t1]) nt
        exact q (.shw (c / 4 % 3) e1) t _ (s1.trans u) x1 (.tup (.inl (.inl upd_same)) (.cons (.str _) (.cons (.int _) (.cons (dp_same u _ _ d1) .nil))))
      · rw [decide_eq_false h1]
        walk_at "go"
        by_cases h2 : c % 4 = 2
        · rw [decide_eq_true h2]
          walk_at "go"
          refine ⟨by show 2 ≤ sizeLine; decide, fun t nt => ?_⟩
          have u := same_new (o := HO.tup [.str "take", .ref t1]) nt
          exact q (.pay true e1) t _ (s1.trans u) x1 (.tup (.inl (.inl upd_same)) (.cons (.str _) (.cons (dp_same u _ _ d1) .nil)))
        · rw [decide_eq_false h2]
          walk_at "go"
          refine ⟨by show 2 ≤ sizeLine; decide, fun t nt => ?_⟩
          have u := same_new (o := HO.tup [.str "pay", .ref t1]) nt
          exact q (.pay false e1) t _ (s1.trans u) x1 (.tup (.inl (.inl upd_same)) (.cons (.str _) (.cons (dp_same u _ _ d1) .nil)))
end
end K30

namespace K30
open PySem PySem.Spec PyProof.Rows L2 Gx
section
variable {P : Program} {w : World} {K : PySem.W.Frag} {mg : Str → Option Value} {base : Heap} {A : Ad}
def sp_Builder_place (C TL : Addr) : Sp := fun vs H Q E => ∃ (b : Addr) (ns ps : List Str) (e : Ev) (left : Int), vs = [.ref b] ∧ BdAt C H b ns ps e left ∧ (0 ≤ left - 1 → ∀ H', But b H H' → BdAt C H' b ns ps e (left - 1) → Q .non H') ∧ (left - 1 < 0 → ∀ d H', But b H H' → H d = none → errD H' d → E (.ref TL) (some d) H')
theorem G_Builder_place (T : Txt P K mg A) : FnOk P w K mg base (L2.CX P w) 4 A.f_Builder_place A.d_Builder_place ["self"] (sp_Builder_place A.c_Builder A.c_TooLarge) := by
  refine (T.F_Builder_place.okX (k := 3) sc_Builder_place (fun vs H Q E h => ?_) (fun cdv Ar outer s H vs Q E hr h => ?_))
  · obtain ⟨b, ns, ps, e, left, rfl, _⟩ := h
    rfl
  · obtain ⟨b, ns, ps, e, left, rfl, hb, q1, q2⟩ := h
    obtain ⟨dx, s, o, ob, ht, ho⟩ := hb.ex
    have cl := T.cl_Builder
    have na_s := T.na_Builder_sizes
    have na_o := T.na_Builder_on
    have na_l := T.na_Builder_left

    refine ⟨_, (pss_cons (ps_fld (pv 0) (pe_op op_sub (pe_fld (pv 0) rfl) pe_int) rfl)
      (pss_one (ps_if (pt_cmpR op_lt (pe_fld (pv 0) rfl) pe_int (nomark _))
        (pss_one (ps_raiseErr rfl T.er_TooLarge hr T.m_TooLarge (takes_of rfl rfl rfl rfl) (pa_cons pe_str pa_nil)))
        pss_nil))), ?_⟩
    try dsimp only [cxOf, Cx.nox, Cx.wish]
    walk_at "go"
    refine go_sfldV ob cl na_l (by show 3 < 1000; decide) ?_
    rw [F_Builder_put_left]
    have B : But b H (upd H b (.ins A.c_Builder dx (F_Builder (.ref s) (.ref o) (.int (left - 1))))) := (But.refl _ _).upd
    have ob1 : upd H b (.ins A.c_Builder dx (F_Builder (.ref s) (.ref o) (.int (left - 1)))) b = some (.ins A.c_Builder dx (F_Builder (.ref s) (.ref o) (.int (left - 1)))) := upd_same
    have ht1 := TabOk.butI ob B ht
    have ho1 := OnOk.butI ob B ho
    generalize upd H b (.ins A.c_Builder dx (F_Builder (.ref s) (.ref o) (.int (left - 1)))) = H1 at *
    walk_at "go"
    walk_at "br"
    · intro h
      walk_at "go"
      refine ⟨_, rfl, fun d hd => q2 h d _ (B.new hd) ?_ upd_same⟩
      cases z : H d with
      | none => rfl
      | some o => rw [B d o (fun y => by rw [y, ob1] at hd; cases hd) z] at hd; cases hd
    · intro h
      walk_at "go"
      exact q1 (by omega) H1 B ⟨⟨dx, s, o, ob1, ht1, ho1⟩, hb.pos⟩
end
end K30

namespace K30
open PySem PySem.Spec PyProof.Rows L2 Gx
section
variable {P : Program} {w : World} {K : PySem.W.Frag} {mg : Str → Option Value} {base : Heap} {A : Ad}
def sp__law_value (K : PySem.W.Frag) (n : Nat) : Sp := fun vs H Q _ => ∃ (v : V) (t : Addr) (e : Ex) (ns : List Str) (tab : Str → Int) (on : Str → Bool), vs = [v, .ref t] ∧ Dp K H v (exD e) ∧ XN ns n e ∧ TabOk H t ns tab ∧ Q (.int (evalE tab on [] e)) H
theorem Z__law_value {n : Nat} (K : PySem.W.Frag) {vs : List V} {H : Hp} {Q : VK} {E : XK} (hn : n = 0) (h : sp__law_value K n vs H Q E) : False := by
  subst hn
  obtain ⟨v, t, e, ns, tab, on, rfl, _, hin, _⟩ := h
  exact hin.elim
theorem R__law_value (T : Txt P K mg A) : ∀ n : Nat, FnOk P w K mg base CX0 (n + 1) A.f__law_value A.d__law_value ["_law_expression_here", "_law_table"] (sp__law_value K n)
  | 0 => ⟨fun vs H Q E h => (Z__law_value K rfl h).elim, fun _ _ _ _ _ _ _ _ _ _ _ _ _ h => (Z__law_value K rfl h).elim⟩
  | n + 1 => by
    have IH := R__law_value T n
    refine (T.F__law_value.ok (k := n + 1) sc__law_value (fun vs H Q E h => ?_) (fun cdv Ar outer s H vs Q E hr h => ?_))
    · obtain ⟨v, t, e, ns, tab, on, rfl, _⟩ := h
      rfl
    · obtain ⟨v, t, e, ns, tab, on, rfl, hv, hin, ht, q⟩ := h
      have bd : ∀ e, XN ns n e → 0 ≤ evalE tab on [] e ∧ evalE tab on [] e < 65536 := fun e h => evalE_in (ns := ns) (ps := []) (on := on) (fun x hx => by obtain ⟨_, _, _, r⟩ := ht; exact (r x hx).2) (fun n h => by cases h) n e h.inE
      obtain ⟨tk, et, _, etv⟩ := id ht
      refine ⟨_, (pss_cons (ps_set (i := 2) sc__law_value.nd rfl (Or.inl rfl) (pe_ix ix_tup (pv 0) pe_int (fun _ _ => rfl)))
      (pss_cons (ps_if (pt_cmpR op_eq (pv 2) pe_str (nomark _))
        (pss_one (ps_ret (pe_ix ix_tup (pv 0) pe_int (fun _ _ => rfl))))
        pss_nil)
      (pss_cons (ps_if (pt_cmpR op_eq (pv 2) pe_str (nomark _))
        (pss_one (ps_ret (pe_dget (hu_of hr) (pv 1) (pe_ix ix_tup (pv 0) pe_int (fun _ _ => rfl)) (fun _ _ => rfl))))
        pss_nil)
      (pss_cons (ps_set (i := 3) sc__law_value.nd rfl (Or.inl rfl) (pe_call IH (hr.mono (by omega)) rfl T.m__law_value T.F__law_value.kp T.b__law_value .nil pass0 (pa_cons (pe_ix ix_tup (pv 0) pe_int (fun _ _ => rfl)) (pa_cons (pv 1) pa_nil))))
      (pss_cons (ps_set (i := 4) sc__law_value.nd rfl (Or.inl rfl) (pe_call IH (hr.mono (by omega)) rfl T.m__law_value T.F__law_value.kp T.b__law_value .nil pass0 (pa_cons (pe_ix ix_tup (pv 0) pe_int (fun _ _ => rfl)) (pa_cons (pv 1) pa_nil))))
      (pss_cons (ps_if (pt_cmpR op_eq (pv 2) pe_str (nomark _))
        (pss_one (ps_ret (pe_op op_mod (pe_callTy k_int1 (by rfl) T.n_int (by decide +kernel) (pa_cons (pe_op op_add (pv 3) (pv 4)) pa_nil)) pe_int)))
        pss_nil)
      (pss_cons (ps_if (pt_cmpR op_eq (pv 2) pe_str (nomark _))
        (pss_one (ps_ret (pe_callB (k_max2 rfl) (by rfl) T.n_max (by decide +kernel) (pa_cons pe_int (pa_cons (pe_op op_sub (pv 3) (pv 4)) pa_nil)))))
        pss_nil)
      (pss_cons (ps_if (pt_cmpR op_eq (pv 2) pe_str (nomark _))
        (pss_one (ps_ret (pe_op op_mod (pe_callTy k_int1 (by rfl) T.n_int (by decide +kernel) (pa_cons (pe_op op_mul (pv 3) (pv 4)) pa_nil)) pe_int)))
        pss_nil)
      (pss_cons (ps_if (pt_cmpR op_eq (pv 2) pe_str (nomark _))
        (pss_one (ps_ret (pe_callTy k_int1 (by rfl) T.n_int (by decide +kernel) (pa_cons (pe_cmpR op_lt (pv 3) (pv 4) (nomark _)) pa_nil))))
        pss_nil)
      (pss_cons (ps_if (pt_cmpR op_eq (pv 2) pe_str (nomark _))
        (pss_one (ps_ret (pe_callTy k_int1 (by rfl) T.n_int (by decide +kernel) (pa_cons (pe_cmpR op_eq (pv 3) (pv 4) (nomark _)) pa_nil))))
        pss_nil)
      (pss_cons (ps_if (pt_cmpR op_eq (pv 4) pe_int (nomark _))
        (pss_one (ps_ret pe_int))
        pss_nil)
      (pss_cons (ps_if (pt_cmpR op_eq (pv 2) pe_str (nomark _))
        (pss_one (ps_ret (pe_op op_fdiv (pv 3) (pv 4))))
        pss_nil)
      (pss_one (ps_ret (pe_op op_mod (pe_callTy k_int1 (by rfl) T.n_int (by decide +kernel) (pa_cons (pv 3) pa_nil)) (pv 4)))))))))))))))), ?_⟩
      try dsimp only [cxOf, Cx.nox, Cx.wish]
      cases e with
      | num k =>
        obtain ⟨a, xs, rfl, ha, hx⟩ := dp_tup hv
        obtain ⟨x, y, rfl, h1, h2⟩ := dp2 hx
        cases dpS h1
        cases dpI h2
        walk_at "go"
        exact q
      | var x =>
        obtain ⟨a, xs, rfl, ha, hx⟩ := dp_tup hv
        obtain ⟨x1, y, rfl, h1, h2⟩ := dp2 hx
        cases dpS h1
        cases dpS h2
        walk_at "go"
        exact go_dgetS et (etv x hin).1 q
      | long => exact hin.elim
      | view e => exact hin.elim
      | pick x a b => exact hin.elim
      | op k e1 e2 =>
        obtain ⟨a, xs, rfl, ha, hx⟩ := dp_tup hv
        obtain ⟨x1, y, z, rfl, h1, h2, h3⟩ := dp3 hx
        cases dpS h1
        obtain ⟨hk, i1, i2⟩ := hin
        obtain ⟨l0, l1⟩ := bd e1 i1
        obtain ⟨r0, r1⟩ := bd e2 i2
        obtain ⟨n1, n2, n3, n4, n5⟩ := sign_ne hk
        generalize hsg : signS k = sg at *
        walk_at "go"
        rw [decide_eq_false n1]
        walk_at "go"
        rw [decide_eq_false n2]
        walk_at "go"
        refine ⟨y, t, e1, ns, tab, on, rfl, h2, i1, ht, ?_⟩
        walk_at "go"
        refine ⟨z, t, e2, ns, tab, on, rfl, h3, i2, ht, ?_⟩
        have q : Q (.int (comb k (evalE tab on [] e1) (evalE tab on [] e2))) H := q
        generalize evalE tab on [] e1 = l at *
        generalize evalE tab on [] e2 = r at *
        clear bd n1 n2 hx h1
        rcases sign_cases hk with rfl | rfl | rfl | rfl | rfl | rfl | rfl
        · obtain rfl : "+" = sg := hsg
          walk_at "go"
          exact q
        · obtain rfl : "-" = sg := hsg
          walk_at "go"
          exact q
        · obtain rfl : "*" = sg := hsg
          have m0 : 0 ≤ l * r := Int.mul_nonneg l0 r0
          have m1 : l * r ≤ 65535 * 65535 := Int.mul_le_mul (by omega) (by omega) r0 (by decide)
          walk_at "go"
          exact q
        · obtain rfl : "/" = sg := hsg
          walk_at "go"
          by_cases hr0 : r = 0
          · rw [decide_eq_true hr0]
            rw [show comb 3 l r = 0 from if_neg (by omega)] at q
            walk_at "go"
            exact q
          · rw [decide_eq_false hr0]
            have rp : 0 < r := by omega
            rw [show comb 3 l r = l / r from if_pos rp] at q
            walk_at "go"
            exact q
        · obtain rfl : "mod" = sg := hsg
          walk_at "go"
          by_cases hr0 : r = 0
          · rw [decide_eq_true hr0]
            rw [show comb 4 l r = 0 from if_neg (by omega)] at q
            walk_at "go"
            exact q
          · rw [decide_eq_false hr0]
            have rp : 0 < r := by omega
            rw [show comb 4 l r = l % r from if_pos rp] at q
            walk_at "go"
            exact q
        · obtain rfl : "<" = sg := hsg
          walk_at "go"
          rw [show comb 5 l r = if decide (l < r) = true then 1 else 0 by simp [comb]] at q
          exact q
        · obtain rfl : "=" = sg := hsg
          walk_at "go"
          rw [show comb 6 l r = if decide (l = r) = true then 1 else 0 by simp [comb]] at q
          exact q
end
end K30

namespace K30
open PySem PySem.Spec PyProof.Rows L2 Gx
section
variable {P : Program} {w : World} {K : PySem.W.Frag} {mg : Str → Option Value} {base : Heap} {A : Ad}
def sp__law_statement (K : PySem.W.Frag) : Sp := fun vs H Q _ => ∃ (c : Int) (l o : Addr) (xs ys : List V) (vv : List (Str × Int)) (oo : List (Str × Bool)), vs = [.int c, .ref l, .ref o] ∧ H l = some (.lst xs) ∧ DpAll K H xs (vsL vv) ∧ H o = some (.lst ys) ∧ DpAll K H ys (osL oo) ∧ ∀ s t H', Same H H' → StN (vv.map (·.1)) (oo.map (·.1)) s → Dp K H' (.ref t) (stD s) → Q (.ref t) H'
theorem G__law_statement (T : Txt P K mg A) : FnOk P w K mg base CX0 4 A.f__law_statement A.d__law_statement ["_law_cell_here", "_law_variables", "_law_options"] (sp__law_statement K) := by
  refine (T.F__law_statement.ok (k := 3) sc__law_statement (fun vs H Q E h => ?_) (fun cdv Ar outer s H vs Q E hr h => ?_))
  · obtain ⟨c, l, o, xs, ys, vv, oo, rfl, _⟩ := h
    rfl
  · obtain ⟨c, l, o, xs, ys, vv, oo, rfl, hl, dx, ho, dy, q⟩ := h
    have plain : ∀ s t H', Same H H' → PlN (vv.map (·.1)) s → Dp K H' (.ref t) (stD s) → Q (.ref t) H' := fun s t H' a b d => q s t H' a (by cases s <;> first | exact b | exact b.elim) d
    refine ⟨_, (pss_cons (ps_if (pt_cmpR op_eq (pe_op op_mod (pe_callTy k_int1 (by rfl) T.n_int (by decide +kernel) (pa_cons (pv 0) pa_nil)) pe_int) pe_int (nomark _))
        (pss_cons (ps_set (i := 3) sc__law_statement.nd rfl (Or.inl rfl) (pe_tup pa_nil))
      (pss_cons (ps_if (pt_cmpR op_eq (pe_op op_mod (pe_op op_fdiv (pv 0) pe_int) pe_int) pe_int (nomark _))
        (pss_one (ps_set (i := 3) sc__law_statement.nd rfl (Or.inl rfl) (pe_tup (pa_cons (pe_call (G__law_plain T) (hr.mono (by decide)) rfl T.m__law_plain T.F__law_plain.kp T.b__law_plain .nil pass0 (pa_cons (pe_op op_fdiv (pv 0) pe_int) (pa_cons (pv 1) pa_nil))) pa_nil))))
        pss_nil)
      (pss_one (ps_ret (pe_tup (pa_cons pe_str (pa_cons (pe_call (G__law_expression T) (hr.mono (by decide)) rfl T.m__law_expression T.F__law_expression.kp T.b__law_expression .nil pass0 (pa_cons (pe_op op_fdiv (pv 0) pe_int) (pa_cons (pv 1) pa_nil))) (pa_cons (pe_tup (pa_cons (pe_call (G__law_plain T) (hr.mono (by decide)) rfl T.m__law_plain T.F__law_plain.kp T.b__law_plain .nil pass0 (pa_cons (pe_op op_fdiv (pv 0) pe_int) (pa_cons (pv 1) pa_nil))) pa_nil)) (pa_cons (pv 3) pa_nil)))))))))
        pss_nil)
      (pss_cons (ps_if (PW.pt (pw_and (pt_cmpR op_eq (pe_op op_mod (pe_callTy k_int1 (by rfl) T.n_int (by decide +kernel) (pa_cons (pv 0) pa_nil)) pe_int) pe_int (nomark _)) (pw_and1 (pt_cmpR op_gt (pe_callB k_len (by rfl) T.n_len (by decide +kernel) (pa_cons (pv 2) pa_nil)) pe_int (nomark _)))))
        (pss_cons (ps_set (i := 4) sc__law_statement.nd rfl (Or.inl rfl) (pe_ix ix_tup (pe_ix ix_list (pv 2) (pe_op op_mod (pe_op op_fdiv (pv 0) pe_int) (pe_callB k_len (by rfl) T.n_len (by decide +kernel) (pa_cons (pv 2) pa_nil))) (fun _ _ => rfl)) pe_int (fun _ _ => rfl)))
      (pss_one (ps_ret (pe_tup (pa_cons pe_str (pa_cons (pv 4) (pa_cons (pe_tup (pa_cons (pe_call (G__law_plain T) (hr.mono (by decide)) rfl T.m__law_plain T.F__law_plain.kp T.b__law_plain .nil pass0 (pa_cons (pe_op op_fdiv (pv 0) pe_int) (pa_cons (pv 1) pa_nil))) pa_nil)) (pa_cons (pe_tup (pa_cons (pe_call (G__law_plain T) (hr.mono (by decide)) rfl T.m__law_plain T.F__law_plain.kp T.b__law_plain .nil pass0 (pa_cons (pe_op op_fdiv (pv 0) pe_int) (pa_cons (pv 1) pa_nil))) pa_nil)) pa_nil))))))))
        pss_nil)
      (pss_one (ps_ret (pe_call (G__law_plain T) (hr.mono (by decide)) rfl T.m__law_plain T.F__law_plain.kp T.b__law_plain .nil pass0 (pa_cons (pe_op op_fdiv (pv 0) pe_int) (pa_cons (pv 1) pa_nil))))))), ?_⟩
    try dsimp only [cxOf, Cx.nox, Cx.wish]
    walk_at "go"
    by_cases hc : c % 4 = 1
    · rw [decide_eq_true hc]
      walk_at "go"
      refine ⟨by show 0 ≤ sizeLine; decide, fun t0 n0 => ?_⟩
      have u0 := same_new (o := HO.tup []) n0
      have d0 : Dp K (upd H t0 (.tup [])) (.ref t0) (.tuple (stDs [])) := .tup (.inl (.inl upd_same)) .nil
      generalize upd H t0 (.tup []) = H0 at *
      walk_at "go"
      by_cases h2 : c / 4 % 2 = 1
      · rw [decide_eq_true h2]
        walk_at "go"
        refine ⟨_, l, xs, vv, rfl, u0 _ _ hl, dpAll_same u0 _ _ dx, fun p1 t1 H1 s1 x1 d1 => ?_⟩
        walk_at "go"
        refine ⟨by show 1 ≤ sizeLine; decide, fun t3 n3 => ?_⟩
        have u3 := same_new (o := HO.tup [.ref t1]) n3
        have d3 : Dp K (upd H1 t3 (.tup [.ref t1])) (.ref t3) (.tuple (stDs [p1])) := .tup (.inl (.inl upd_same)) (.cons (dp_same u3 _ _ d1) .nil)
        generalize upd H1 t3 (.tup [.ref t1]) = H3 at *

        have s03 := u0.trans (s1.trans u3)
        walk_at "go"
        refine ⟨_, l, xs, vv, rfl, (s03) _ _ hl, dpAll_same (s03) _ _ dx, fun e2 t2 H5 s5 x5 d5 => ?_⟩
        walk_at "go"
        refine ⟨_, l, xs, vv, rfl, ((s03).trans s5) _ _ hl, dpAll_same ((s03).trans s5) _ _ dx, fun p6 t6 H6 s6 x6 d6 => ?_⟩
        walk_at "go"
        refine ⟨by show 1 ≤ sizeLine; decide, fun t7 n7 => ?_⟩
        have u7 := same_new (o := HO.tup [.ref t6]) n7
        have d7 : Dp K (upd H6 t7 (.tup [.ref t6])) (.ref t7) (.tuple (stDs [p6])) := .tup (.inl (.inl upd_same)) (.cons (dp_same u7 _ _ d6) .nil)
        generalize upd H6 t7 (.tup [.ref t6]) = H7 at *
        walk_at "go"
        refine ⟨by show 4 ≤ sizeLine; decide, fun t nt => ?_⟩
        have u := same_new (o := HO.tup [.str "if", .ref t2, .ref t7, .ref t3]) nt
        exact q (.iff e2 [p6] [p1]) t _ ((s03).trans (s5.trans (s6.trans (u7.trans u)))) ⟨x5, fun s hs => by rw [List.mem_singleton.mp hs]; exact x6, fun s hs => by rw [List.mem_singleton.mp hs]; exact x1, Nat.le_refl 1, Nat.le_refl 1⟩ (.tup (.inl (.inl upd_same)) (.cons (.str _) (.cons (dp_same (s6.trans (u7.trans u)) _ _ d5) (.cons (dp_same u _ _ d7) (.cons (dp_same (s5.trans (s6.trans (u7.trans u))) _ _ d3) .nil)))))

      · rw [decide_eq_false h2]
        walk_at "go"
        refine ⟨_, l, xs, vv, rfl, (u0) _ _ hl, dpAll_same (u0) _ _ dx, fun e2 t2 H5 s5 x5 d5 => ?_⟩
        walk_at "go"
        refine ⟨_, l, xs, vv, rfl, ((u0).trans s5) _ _ hl, dpAll_same ((u0).trans s5) _ _ dx, fun p6 t6 H6 s6 x6 d6 => ?_⟩
        walk_at "go"
        refine ⟨by show 1 ≤ sizeLine; decide, fun t7 n7 => ?_⟩
        have u7 := same_new (o := HO.tup [.ref t6]) n7
        have d7 : Dp K (upd H6 t7 (.tup [.ref t6])) (.ref t7) (.tuple (stDs [p6])) := .tup (.inl (.inl upd_same)) (.cons (dp_same u7 _ _ d6) .nil)
        generalize upd H6 t7 (.tup [.ref t6]) = H7 at *
        walk_at "go"
        refine ⟨by show 4 ≤ sizeLine; decide, fun t nt => ?_⟩
        have u := same_new (o := HO.tup [.str "if", .ref t2, .ref t7, .ref t0]) nt
        exact q (.iff e2 [p6] []) t _ ((u0).trans (s5.trans (s6.trans (u7.trans u)))) ⟨x5, fun s hs => by rw [List.mem_singleton.mp hs]; exact x6, fun s hs => (nomatch hs), Nat.le_refl 1, Nat.zero_le 1⟩ (.tup (.inl (.inl upd_same)) (.cons (.str _) (.cons (dp_same (s6.trans (u7.trans u)) _ _ d5) (.cons (dp_same u _ _ d7) (.cons (dp_same (s5.trans (s6.trans (u7.trans u))) _ _ d0) .nil)))))

    · rw [decide_eq_false hc]
      walk_at "go"
      by_cases hc2 : c % 4 = 2
      · rw [decide_eq_true hc2]
        walk_at "go"
        refine go_lenL (.of ho) ?_
        walk_at "go"
        by_cases h0 : 0 < (ys.length : Int)
        · rw [decide_eq_true h0]
          walk_at "go"
          refine go_lenL (.of ho) ?_
          walk_at "go"
          have k0 := Int.emod_nonneg (c / 4) (b := (ys.length : Int)) (by omega)
          have k1 := Int.emod_lt_of_pos (c / 4) (b := (ys.length : Int)) h0
          obtain ⟨a, p, ea, ha, hm, _⟩ := os_pick dy k0 k1
          refine go_ixL (.of ho) ea ?_
          walk_at "go"
          refine ⟨_, l, xs, vv, rfl, hl, dx, fun p1 t1 H1 s1 x1 d1 => ?_⟩
          walk_at "go"
          refine ⟨by show 1 ≤ sizeLine; decide, fun t3 n3 => ?_⟩
          have u3 := same_new (o := HO.tup [.ref t1]) n3
          have d3 : Dp K (upd H1 t3 (.tup [.ref t1])) (.ref t3) (.tuple (stDs [p1])) := .tup (.inl (.inl upd_same)) (.cons (dp_same u3 _ _ d1) .nil)
          generalize upd H1 t3 (.tup [.ref t1]) = H3 at *

          have s03 := s1.trans u3
          walk_at "go"
          refine ⟨_, l, xs, vv, rfl, s03 _ _ hl, dpAll_same s03 _ _ dx, fun p6 t6 H6 s6 x6 d6 => ?_⟩
          walk_at "go"
          refine ⟨by show 1 ≤ sizeLine; decide, fun t7 n7 => ?_⟩
          have u7 := same_new (o := HO.tup [.ref t6]) n7
          have d7 : Dp K (upd H6 t7 (.tup [.ref t6])) (.ref t7) (.tuple (stDs [p6])) := .tup (.inl (.inl upd_same)) (.cons (dp_same u7 _ _ d6) .nil)
          generalize upd H6 t7 (.tup [.ref t6]) = H7 at *

          walk_at "go"
          refine ⟨by show 4 ≤ sizeLine; decide, fun t nt => ?_⟩
          have u := same_new (o := HO.tup [.str "when", .str p.1, .ref t3, .ref t7]) nt
          exact q (.whn p.1 [p1] [p6]) t _ (s03.trans (s6.trans (u7.trans u))) ⟨hm, fun s hs => by rw [List.mem_singleton.mp hs]; exact x1, fun s hs => by rw [List.mem_singleton.mp hs]; exact x6, Nat.le_refl 1, Nat.le_refl 1⟩ (.tup (.inl (.inl upd_same)) (.cons (.str _) (.cons (.str _) (.cons (dp_same (s6.trans (u7.trans u)) _ _ d3) (.cons (dp_same u _ _ d7) .nil)))))
        · rw [decide_eq_false h0]
          walk_at "go"
          refine ⟨_, l, xs, vv, rfl, hl, dx, fun s1 t1 H1 ss1 p1 d1 => ?_⟩
          exact plain s1 t1 H1 ss1 p1 d1

      · rw [decide_eq_false hc2]
        walk_at "go"
        refine ⟨_, l, xs, vv, rfl, hl, dx, fun s1 t1 H1 ss1 p1 d1 => ?_⟩
        exact plain s1 t1 H1 ss1 p1 d1
end
end K30

namespace K30
open PySem PySem.Spec PyProof.Rows L2 Gx
section
variable {P : Program} {w : World} {K : PySem.W.Frag} {mg : Str → Option Value} {base : Heap} {A : Ad}
def sp__law_run (K : PySem.W.Frag) (n : Nat) : Sp := fun vs H Q _ => ∃ (b t z o : Addr) (p : Int) (l : List Stm) (xs : List V) (b0 : Bool) (ns ps : List Str) (e : Ev) (tab : Str → Int), vs = [.ref b, .ref t, .ref z, .ref o, .int p] ∧ (if b0 = true then SqL K H b xs else SqT K H b xs) ∧ DpAll K H xs (stDs l) ∧ RunOk ns ps n l ∧ TabOk H t ns tab ∧ TabOk H z ns e.sz ∧ (∀ x ∈ ns, 1 ≤ e.sz x) ∧ OnOk H o ps e.on ∧ t ≠ z ∧ t ≠ o ∧ ∀ H', But t H H' → TabOk H' t ns (runN e n l (tab, p)).1 → Q (.int (runN e n l (tab, p)).2) H'
theorem Z__law_run {n : Nat} (K : PySem.W.Frag) {vs : List V} {H : Hp} {Q : VK} {E : XK} (hn : n = 0) (h : sp__law_run K n vs H Q E) : False := by
  subst hn
  obtain ⟨b, t, z, o, p, l, xs, b0, ns, ps, e, tab, rfl, _, _, hr, _⟩ := h
  exact hr.elim
theorem R__law_run (T : Txt P K mg A) : ∀ n : Nat, FnOk P w K mg base CX0 (n + 5) A.f__law_run A.d__law_run ["_law_block", "_law_table", "_law_sizes", "_law_on", "_law_paid"] (sp__law_run K n)
  | 0 => ⟨fun vs H Q E h => (Z__law_run K rfl h).elim, fun _ _ _ _ _ _ _ _ _ _ _ _ _ h => (Z__law_run K rfl h).elim⟩
  | n + 1 => by
    have IH := R__law_run T n
    refine (T.F__law_run.ok (k := n + 5) sc__law_run (fun vs H Q E h => ?_) (fun cdv Ar outer s H vs Q E hr h => ?_))
    · obtain ⟨b, t, z, o, p, l, xs, b0, ns, ps, e, tab, rfl, _⟩ := h
      rfl
    · obtain ⟨b, t, z, o, p, l, xs, b0, ns, ps, e, tab, rfl, hb, dx, hr2, ht, hz, hpos, ho, tz, to_, q⟩ := h
      obtain ⟨kt0, et0, _, _⟩ := id ht
      refine ⟨_, (pss_cons (ps_for PassesOwn.never rfl (pi_seq (pv 0)) (pg_name (i := 5) sc__law_run.nd rfl (Or.inl rfl))
        (pss_cons (ps_set (i := 6) sc__law_run.nd rfl (Or.inl rfl) (pe_ix ix_tup (pv 5) pe_int (fun _ _ => rfl)))
      (pss_cons (ps_if (pt_cmpR op_eq (pv 6) pe_str (nomark _))
        (pss_one (ps_dput (hu_of hr) (pv 1) (pe_ix ix_tup (pv 5) pe_int (fun _ _ => rfl)) (pe_op op_mod (pe_callTy k_int1 (by rfl) T.n_int (by decide +kernel) (pa_cons (pe_call (R__law_value T 3) (hr.mono (by omega)) rfl T.m__law_value T.F__law_value.kp T.b__law_value .nil pass0 (pa_cons (pe_ix ix_tup (pv 5) pe_int (fun _ _ => rfl)) (pa_cons (pv 1) pa_nil))) pa_nil)) (pe_dget (hu_of hr) (pv 2) (pe_ix ix_tup (pv 5) pe_int (fun _ _ => rfl)) (fun _ _ => rfl))) rfl))
        pss_nil)
      (pss_cons (ps_if (pt_cmpR op_eq (pv 6) pe_str (nomark _))
        (pss_one (ps_set (i := 4) sc__law_run.nd rfl (Or.inl rfl) (pe_op op_add (pv 4) (pe_call (R__law_value T 3) (hr.mono (by omega)) rfl T.m__law_value T.F__law_value.kp T.b__law_value .nil pass0 (pa_cons (pe_ix ix_tup (pv 5) pe_int (fun _ _ => rfl)) (pa_cons (pv 1) pa_nil))))))
        pss_nil)
      (pss_cons (ps_if (pt_cmpR op_eq (pv 6) pe_str (nomark _))
        (pss_one (ps_set (i := 4) sc__law_run.nd rfl (Or.inl rfl) (pe_op op_sub (pv 4) (pe_call (R__law_value T 3) (hr.mono (by omega)) rfl T.m__law_value T.F__law_value.kp T.b__law_value .nil pass0 (pa_cons (pe_ix ix_tup (pv 5) pe_int (fun _ _ => rfl)) (pa_cons (pv 1) pa_nil))))))
        pss_nil)
      (pss_cons (ps_if (pt_cmpR op_eq (pv 6) pe_str (nomark _))
        (pss_one (ps_if (pt_cmpR op_ne (pe_call (R__law_value T 3) (hr.mono (by omega)) rfl T.m__law_value T.F__law_value.kp T.b__law_value .nil pass0 (pa_cons (pe_ix ix_tup (pv 5) pe_int (fun _ _ => rfl)) (pa_cons (pv 1) pa_nil))) pe_int (nomark _))
        (pss_one (ps_set (i := 4) sc__law_run.nd rfl (Or.inl rfl) (pe_call IH (hr.mono (by omega)) rfl T.m__law_run T.F__law_run.kp T.b__law_run .nil pass0 (pa_cons (pe_ix ix_tup (pv 5) pe_int (fun _ _ => rfl)) (pa_cons (pv 1) (pa_cons (pv 2) (pa_cons (pv 3) (pa_cons (pv 4) pa_nil))))))))
        (pss_one (ps_set (i := 4) sc__law_run.nd rfl (Or.inl rfl) (pe_call IH (hr.mono (by omega)) rfl T.m__law_run T.F__law_run.kp T.b__law_run .nil pass0 (pa_cons (pe_ix ix_tup (pv 5) pe_int (fun _ _ => rfl)) (pa_cons (pv 1) (pa_cons (pv 2) (pa_cons (pv 3) (pa_cons (pv 4) pa_nil))))))))))
        pss_nil)
      (pss_one (ps_if (pt_cmpR op_eq (pv 6) pe_str (nomark _))
        (pss_one (ps_if (pt_val (pe_dget (hu_of hr) (pv 3) (pe_ix ix_tup (pv 5) pe_int (fun _ _ => rfl)) (fun _ _ => rfl)))
        (pss_one (ps_set (i := 4) sc__law_run.nd rfl (Or.inl rfl) (pe_call IH (hr.mono (by omega)) rfl T.m__law_run T.F__law_run.kp T.b__law_run .nil pass0 (pa_cons (pe_ix ix_tup (pv 5) pe_int (fun _ _ => rfl)) (pa_cons (pv 1) (pa_cons (pv 2) (pa_cons (pv 3) (pa_cons (pv 4) pa_nil))))))))
        (pss_one (ps_set (i := 4) sc__law_run.nd rfl (Or.inl rfl) (pe_call IH (hr.mono (by omega)) rfl T.m__law_run T.F__law_run.kp T.b__law_run .nil pass0 (pa_cons (pe_ix ix_tup (pv 5) pe_int (fun _ _ => rfl)) (pa_cons (pv 1) (pa_cons (pv 2) (pa_cons (pv 3) (pa_cons (pv 4) pa_nil))))))))))
        pss_nil))))))))
      (pss_one (ps_ret (pv 4)))), ?_⟩
      try dsimp only [cxOf, Cx.nox, Cx.wish]
      walk_at "go"
      refine foSq xs b0 (fun i σ' H' => ∃ (v5 v6 : Option V), σ' = [some (.ref b), some (.ref t), some (.ref z), some (.ref o), some (.int ((l.take i).foldl (stepN e n) (tab, p)).2), v5, v6] ∧ But t H H' ∧ TabOk H' t ns ((l.take i).foldl (stepN e n) (tab, p)).1) ⟨_, _, rfl, But.refl _ _, ht⟩ ?_ ?_ ?_
      · rintro i σ' H' _ ⟨v5, v6, rfl, B, _⟩
        cases b0 with
        | true => exact sqL_butD et0 B hb
        | false => exact sqT_off B.off (noT_dk et0) hb
      · rintro i x σ' H1 hx ⟨v5, v6, rfl, B, ht1⟩
        have hi := (List.getElem?_eq_some_iff.mp hx).1
        have xl := dpAll_len dx
        rw [stDs_len] at xl
        have es := List.getElem?_eq_getElem (l := l) (i := i) (by omega)
        have hsr := hr2 _ (List.mem_of_getElem? es)
        rw [take_snoc es, List.foldl_append]
        generalize (l.take i).foldl (stepN e n) (tab, p) = X at *
        obtain ⟨tab1, p1⟩ := X
        have hz1 : TabOk H1 z ns e.sz := let ⟨kv, a, r⟩ := hz; ⟨kv, B _ _ (Ne.symm tz) a, r⟩
        have ho1 : OnOk H1 o ps e.on := let ⟨kv, a, r⟩ := ho; ⟨kv, B _ _ (Ne.symm to_) a, r⟩
        obtain ⟨kt, et, hkl, hkv⟩ := id ht1
        obtain ⟨kz, ez, _, hzv⟩ := id hz1
        obtain ⟨ko, eo, _, hov⟩ := id ho1
        obtain ⟨x', hx', dx'⟩ := dpAll_get dx (i := i) (d := stD l[i]) (by rw [stDs_map, List.getElem?_map, es]; rfl)
        rw [hx] at hx'
        cases hx'
        have ds := dp_butD et0 B _ _ dx'
        generalize l[i] = s at *
        cases s with
        | set y ex =>
          obtain ⟨a, zs, rfl, ha, hy⟩ := dp_tup ds
          obtain ⟨x1, x2, x3, rfl, d1, d2, d3⟩ := dp3 hy
          cases dpS d1
          cases dpS d2
          have sp := hpos y hsr.1
          have hv := Int.emod_nonneg (evalE tab1 e.on [] ex) (b := e.sz y) (by omega)
          have hv2 := Int.emod_lt_of_pos (evalE tab1 e.on [] ex) (b := e.sz y) (by omega)
          have hv3 := (hzv y hsr.1).2.2
          walk_at "go"
          refine ⟨x3, t, ex, ns, tab1, e.on, rfl, d3, hsr.2.up (by decide), ht1, ?_⟩
          walk_at "go"
          refine go_dgetS ez (hzv y hsr.1).1 ?_
          walk_at "go"
          refine go_dputS et (by omega) ?_
          walk_at "go"
          exact ⟨_, _, rfl, B.upd, tab_put hkl hkv hsr.1 ⟨hv, by omega⟩⟩
        | shw j ex =>
          obtain ⟨a, zs, rfl, ha, hy⟩ := dp_tup ds
          obtain ⟨x1, x2, x3, rfl, d1, d2, d3⟩ := dp3 hy
          cases dpS d1
          walk_at "go"
          exact ⟨_, _, rfl, B, ht1⟩
        | pay kk ex =>
          obtain ⟨a, zs, rfl, ha, hy⟩ := dp_tup ds
          obtain ⟨x1, x3, rfl, d1, d3⟩ := dp2 hy
          cases kk with
          | true =>
            obtain rfl := dpS (z := "take") d1
            walk_at "go"
            refine ⟨x3, t, ex, ns, tab1, e.on, rfl, d3, XN.up (by decide) hsr, ht1, ?_⟩
            walk_at "go"
            exact ⟨_, _, rfl, B, ht1⟩
          | false =>
            obtain rfl := dpS (z := "pay") d1
            walk_at "go"
            refine ⟨x3, t, ex, ns, tab1, e.on, rfl, d3, XN.up (by decide) hsr, ht1, ?_⟩
            walk_at "go"
            exact ⟨_, _, rfl, B, ht1⟩
        | drw => exact hsr.elim
        | mov => exact hsr.elim
        | whn y aa bb =>
          obtain ⟨a, zs, rfl, ha, hy⟩ := dp_tup ds
          obtain ⟨x1, x2, x3, x4, rfl, d1, d2, d3, d4⟩ := dp4 hy
          cases dpS d1
          cases dpS d2
          obtain ⟨a3, y3, rfl, h3, dd3⟩ := dp_tup d3
          obtain ⟨a4, y4, rfl, h4, dd4⟩ := dp_tup d4
          walk_at "go"
          refine go_dgetS eo (hov y hsr.1) ?_
          walk_at "go"
          by_cases hon : e.on y = true
          · rw [hon]
            walk_at "go"
            refine ⟨a3, t, z, o, p1, aa, y3, false, ns, ps, e, tab1, rfl, h3, dd3, hsr.2.1, ht1, hz1, hpos, ho1, tz, to_, fun H2 B2 ht2 => ?_⟩
            walk_at "go"
            have es : List.foldl (stepN e n) (tab1, p1) [.whn y aa bb] = runN e n aa (tab1, p1) := by rw [List.foldl_cons, List.foldl_nil]; exact if_pos hon
            rw [es]
            exact ⟨_, _, rfl, B.trans B2, ht2⟩

          · rw [show e.on y = false by cases h : e.on y <;> simp_all]
            walk_at "go"
            refine ⟨a4, t, z, o, p1, bb, y4, false, ns, ps, e, tab1, rfl, h4, dd4, hsr.2.2, ht1, hz1, hpos, ho1, tz, to_, fun H2 B2 ht2 => ?_⟩
            walk_at "go"
            have es : List.foldl (stepN e n) (tab1, p1) [.whn y aa bb] = runN e n bb (tab1, p1) := by rw [List.foldl_cons, List.foldl_nil]; exact if_neg hon
            rw [es]
            exact ⟨_, _, rfl, B.trans B2, ht2⟩

        | iff tt aa bb =>
          obtain ⟨a, zs, rfl, ha, hy⟩ := dp_tup ds
          obtain ⟨x1, x2, x3, x4, rfl, d1, d2, d3, d4⟩ := dp4 hy
          cases dpS d1
          obtain ⟨a3, y3, rfl, h3, dd3⟩ := dp_tup d3
          obtain ⟨a4, y4, rfl, h4, dd4⟩ := dp_tup d4
          walk_at "go"
          refine ⟨x2, t, tt, ns, tab1, e.on, rfl, d2, hsr.1.up (by decide), ht1, ?_⟩
          walk_at "go"
          by_cases hz0 : evalE tab1 e.on [] tt = 0
          · rw [decide_eq_true hz0]
            walk_at "go"
            refine ⟨a4, t, z, o, p1, bb, y4, false, ns, ps, e, tab1, rfl, h4, dd4, hsr.2.2, ht1, hz1, hpos, ho1, tz, to_, fun H2 B2 ht2 => ?_⟩
            walk_at "go"
            have es : List.foldl (stepN e n) (tab1, p1) [.iff tt aa bb] = runN e n bb (tab1, p1) := by rw [List.foldl_cons, List.foldl_nil]; exact if_pos hz0
            rw [es]
            exact ⟨_, _, rfl, B.trans B2, ht2⟩

          · rw [decide_eq_false hz0]
            walk_at "go"
            refine ⟨a3, t, z, o, p1, aa, y3, false, ns, ps, e, tab1, rfl, h3, dd3, hsr.2.1, ht1, hz1, hpos, ho1, tz, to_, fun H2 B2 ht2 => ?_⟩
            walk_at "go"
            have es : List.foldl (stepN e n) (tab1, p1) [.iff tt aa bb] = runN e n aa (tab1, p1) := by rw [List.foldl_cons, List.foldl_nil]; exact if_neg hz0
            rw [es]
            exact ⟨_, _, rfl, B.trans B2, ht2⟩

      rintro σ' H' ⟨v5, v6, rfl, B, ht1⟩
      have xl := dpAll_len dx
      rw [stDs_len] at xl
      rw [xl, List.take_length] at ht1
      rw [xl, List.take_length]
      walk_at "go"
      exact q H' B ht1
end
end K30

namespace K30
open PySem PySem.Spec PyProof.Rows L2 Gx
section
variable {P : Program} {w : World} {K : PySem.W.Frag} {mg : Str → Option Value} {base : Heap} {A : Ad}
def sp_value_of (K : PySem.W.Frag) (n : Nat) : Sp := fun vs H Q _ => ∃ (v : V) (t o sn : Addr) (e : Ex) (ns ps : List Str) (tab : Str → Int) (on : Str → Bool) (seen : List Int), vs = [v, .ref t, .ref o, .ref sn] ∧ Dp K H v (exD e) ∧ ExIn ns ps n e ∧ TabOk H t ns tab ∧ OnOk H o ps on ∧ SqT K H sn (seen.map V.int) ∧ seen.length ≤ 70000 ∧ (∀ n ∈ seen, 0 ≤ n ∧ n < 65536) ∧ Q (.int (evalE tab on seen e)) H
theorem Z_value_of {n : Nat} (K : PySem.W.Frag) {vs : List V} {H : Hp} {Q : VK} {E : XK} (hn : n = 0) (h : sp_value_of K n vs H Q E) : False := by
  subst hn
  obtain ⟨v, t, o, sn, e, ns, ps, tab, on, seen, rfl, _, hin, _⟩ := h
  exact hin.elim
theorem R_value_of (T : Txt P K mg A) : ∀ n : Nat, FnOk P w K mg base CX0 (n + 1) A.f_value_of A.d_value_of ["expression", "table", "on", "seen"] (sp_value_of K n)
  | 0 => ⟨fun vs H Q E h => (Z_value_of K rfl h).elim, fun _ _ _ _ _ _ _ _ _ _ _ _ _ h => (Z_value_of K rfl h).elim⟩
  | n + 1 => by
    have IH := R_value_of T n
    refine (T.F_value_of.ok (k := n + 1) sc_value_of (fun vs H Q E h => ?_) (fun cdv Ar outer s H vs Q E hr h => ?_))
    · obtain ⟨v, t, o, sn, e, ns, ps, tab, on, seen, rfl, _⟩ := h
      rfl
    · obtain ⟨v, t, o, sn, e, ns, ps, tab, on, seen, rfl, hv, hin, ht, ho, hs, hsl, hsb, q⟩ := h
      have bd : ∀ e, ExIn ns ps n e → 0 ≤ evalE tab on seen e ∧ evalE tab on seen e < 65536 := fun e h => evalE_in (on := on) (fun x hx => by obtain ⟨_, _, _, r⟩ := ht; exact (r x hx).2) hsb n e h
      obtain ⟨tk, et, _, etv⟩ := id ht
      obtain ⟨ok, eo, _, eov⟩ := id ho
      refine ⟨_, (pss_cons (ps_set (i := 4) sc_value_of.nd rfl (Or.inl rfl) (pe_ix ix_tup (pv 0) pe_int (fun _ _ => rfl)))
      (pss_cons (ps_if (pt_cmpR op_eq (pv 4) pe_str (nomark _))
        (pss_one (ps_ret (pe_ix ix_tup (pv 0) pe_int (fun _ _ => rfl))))
        pss_nil)
      (pss_cons (ps_if (pt_cmpR op_eq (pv 4) pe_str (nomark _))
        (pss_one (ps_ret (pe_dget (hu_of hr) (pv 1) (pe_ix ix_tup (pv 0) pe_int (fun _ _ => rfl)) (fun _ _ => rfl))))
        pss_nil)
      (pss_cons (ps_if (pt_cmpR op_eq (pv 4) pe_str (nomark _))
        (pss_one (ps_ret (pe_callB (k_min2 rfl) (by rfl) T.n_min (by decide +kernel) (pa_cons (pe_callB k_len (by rfl) T.n_len (by decide +kernel) (pa_cons (pv 3) pa_nil)) (pa_cons (pe_glob (v := (.int 65535)) rfl T.v_GREATEST.choose_spec ⟨_, rfl⟩) pa_nil)))))
        pss_nil)
      (pss_cons (ps_if (pt_cmpR op_eq (pv 4) pe_str (nomark _))
        (pss_cons (ps_set (i := 5) sc_value_of.nd rfl (Or.inl rfl) (pe_call IH (hr.mono (by omega)) rfl T.m_value_of T.F_value_of.kp T.b_value_of_0.choose_spec.2 T.b_value_of_0.choose_spec.1 pass0 (pa_cons (pe_ix ix_tup (pv 0) pe_int (fun _ _ => rfl)) (pa_cons (pv 1) (pa_cons (pv 2) (pa_cons (pv 3) pa_nil))))))
      (pss_one (ps_ret (pe_ifExp (pt_cmpR op_lt (pv 5) (pe_callB k_len (by rfl) T.n_len (by decide +kernel) (pa_cons (pv 3) pa_nil)) (nomark _)) (pe_ix ix_tup (pv 3) (pv 5) (fun _ _ => rfl)) pe_int))))
        pss_nil)
      (pss_cons (ps_if (pt_cmpR op_eq (pv 4) pe_str (nomark _))
        (pss_cons (ps_set (i := 6) sc_value_of.nd rfl (Or.inl rfl) (pe_ifExp (pt_val (pe_dget (hu_of hr) (pv 2) (pe_ix ix_tup (pv 0) pe_int (fun _ _ => rfl)) (fun _ _ => rfl))) (pe_ix ix_tup (pv 0) pe_int (fun _ _ => rfl)) (pe_ix ix_tup (pv 0) pe_int (fun _ _ => rfl))))
      (pss_one (ps_ret (pe_call IH (hr.mono (by omega)) rfl T.m_value_of T.F_value_of.kp T.b_value_of_0.choose_spec.2 T.b_value_of_0.choose_spec.1 pass0 (pa_cons (pv 6) (pa_cons (pv 1) (pa_cons (pv 2) (pa_cons (pv 3) pa_nil))))))))
        pss_nil)
      (pss_cons (ps_set (i := 7) sc_value_of.nd rfl (Or.inl rfl) (pe_call IH (hr.mono (by omega)) rfl T.m_value_of T.F_value_of.kp T.b_value_of_0.choose_spec.2 T.b_value_of_0.choose_spec.1 pass0 (pa_cons (pe_ix ix_tup (pv 0) pe_int (fun _ _ => rfl)) (pa_cons (pv 1) (pa_cons (pv 2) (pa_cons (pv 3) pa_nil))))))
      (pss_cons (ps_set (i := 8) sc_value_of.nd rfl (Or.inl rfl) (pe_call IH (hr.mono (by omega)) rfl T.m_value_of T.F_value_of.kp T.b_value_of_0.choose_spec.2 T.b_value_of_0.choose_spec.1 pass0 (pa_cons (pe_ix ix_tup (pv 0) pe_int (fun _ _ => rfl)) (pa_cons (pv 1) (pa_cons (pv 2) (pa_cons (pv 3) pa_nil))))))
      (pss_one (ps_ret (pe_call (G_combine T) (hr.mono (by omega)) rfl T.m_combine T.F_combine.kp T.b_combine .nil pass0 (pa_cons (pv 4) (pa_cons (pv 7) (pa_cons (pv 8) pa_nil)))))))))))))), ?_⟩
      try dsimp only [cxOf, Cx.nox, Cx.wish]
      cases e with
      | num k =>
        obtain ⟨a, xs, rfl, ha, hx⟩ := dp_tup hv
        obtain ⟨x, y, rfl, h1, h2⟩ := dp2 hx
        cases dpS h1
        cases dpI h2
        walk_at "go"
        exact q
      | var x =>
        obtain ⟨a, xs, rfl, ha, hx⟩ := dp_tup hv
        obtain ⟨x1, y, rfl, h1, h2⟩ := dp2 hx
        cases dpS h1
        cases dpS h2
        walk_at "go"
        exact go_dgetS et (etv x hin).1 q
      | long =>
        obtain ⟨a, xs, rfl, ha, hx⟩ := dp_tup hv
        obtain ⟨x1, rfl, h1⟩ := dp1 hx
        cases dpS h1
        walk_at "go"
        refine go_lenT hs ?_
        rw [List.length_map]
        walk_at "go"
        have e : evalE tab on seen .long = if (65535 : Int) < seen.length then 65535 else (seen.length : Int) := by
          show min (seen.length : Int) 65535 = _
          omega
        rw [e] at q
        exact q
      | view e =>
        obtain ⟨a, xs, rfl, ha, hx⟩ := dp_tup hv
        obtain ⟨x1, y, rfl, h1, h2⟩ := dp2 hx
        cases dpS h1
        walk_at "go"
        refine ⟨y, t, o, sn, e, ns, ps, tab, on, seen, rfl, h2, hin, ht, ho, hs, hsl, hsb, ?_⟩
        walk_at "go"
        refine go_lenT hs ?_
        rw [List.length_map]
        walk_at "go"
        have q2 : Q (.int (if evalE tab on seen e < seen.length then seen.getD (evalE tab on seen e).toNat 0 else 0)) H := q
        walk_at "br"
        · intro h
          rw [if_pos h] at q2
          walk_at "go"
          refine go_ixT hs (at_get (bd e hin).1 h) ?_
          exact q2
        · intro h
          rw [if_neg h] at q2
          walk_at "go"
          exact q2
      | pick x e1 e2 =>
        obtain ⟨a, xs, rfl, ha, hx⟩ := dp_tup hv
        obtain ⟨x1, y, z1, z2, rfl, h1, h2, h3, h4⟩ := dp4 hx
        cases dpS h1
        cases dpS h2
        have q2 : Q (.int (if on x = true then evalE tab on seen e1 else evalE tab on seen e2)) H := q
        walk_at "go"
        refine go_dgetS eo (eov x hin.1) ?_
        walk_at "go"
        walk_at "br"
        · intro h
          rw [if_pos h] at q2
          walk_at "go"
          exact ⟨z1, t, o, sn, e1, ns, ps, tab, on, seen, rfl, h3, hin.2.1, ht, ho, hs, hsl, hsb, q2⟩
        · intro h
          rw [if_neg (by rw [h]; exact Bool.false_ne_true)] at q2
          walk_at "go"
          exact ⟨z2, t, o, sn, e2, ns, ps, tab, on, seen, rfl, h4, hin.2.2, ht, ho, hs, hsl, hsb, q2⟩
      | op k e1 e2 =>
        obtain ⟨a, xs, rfl, ha, hx⟩ := dp_tup hv
        obtain ⟨x1, y, z, rfl, h1, h2, h3⟩ := dp3 hx
        cases dpS h1
        obtain ⟨n1, n2, n3, n4, n5⟩ := sign_ne hin.1
        walk_at "go"
        rw [decide_eq_false n1]
        walk_at "go"
        rw [decide_eq_false n2]
        walk_at "go"
        rw [decide_eq_false n3]
        walk_at "go"
        rw [decide_eq_false n4]
        walk_at "go"
        rw [decide_eq_false n5]
        walk_at "go"
        refine ⟨y, t, o, sn, e1, ns, ps, tab, on, seen, rfl, h2, hin.2.1, ht, ho, hs, hsl, hsb, ?_⟩
        walk_at "go"
        refine ⟨z, t, o, sn, e2, ns, ps, tab, on, seen, rfl, h3, hin.2.2, ht, ho, hs, hsl, hsb, ?_⟩
        walk_at "go"
        exact ⟨_, k, _, _, rfl, hin.1, rfl, bd e1 hin.2.1, bd e2 hin.2.2, q⟩
end
end K30

namespace K30
open PySem PySem.Spec PyProof.Rows L2 Gx
section
variable {P : Program} {w : World} {K : PySem.W.Frag} {mg : Str → Option Value} {base : Heap} {A : Ad}
def sp_Builder_chosen (K : PySem.W.Frag) (C : Addr) : Sp := fun vs H Q _ => ∃ (b t : Addr) (xv : V) (s : Stm) (u : List Stm) (ns ps : List Str) (e : Ev) (left : Int) (tab : Str → Int), vs = [.ref b, xv, .ref t] ∧ BdAt C H b ns ps e left ∧ TabOk H t ns tab ∧ Dp K H xv (stD s) ∧ StG ns ps s ∧ ((∃ x c d, s = .whn x c d ∧ u = if e.on x = true then c else d) ∨ (∃ x c d, s = .iff x c d ∧ u = if evalE tab e.on [] x = 0 then d else c)) ∧ ∀ v, Dp K H v (.tuple (stDs u)) → Q v H
theorem G_Builder_chosen (T : Txt P K mg A) : FnOk P w K mg base CX0 15 A.f_Builder_chosen A.d_Builder_chosen ["self", "statement", "table"] (sp_Builder_chosen K A.c_Builder) := by
  refine (T.F_Builder_chosen.ok (k := 14) sc_Builder_chosen (fun vs H Q E h => ?_) (fun cdv Ar outer s H vs Q E hr h => ?_))
  · obtain ⟨b, t, xv, s, u, ns, ps, e, left, tab, rfl, _⟩ := h
    rfl
  · obtain ⟨b, t, xv, s, u, ns, ps, e, left, tab, rfl, hb, ht, hs, hg, hu, q⟩ := h
    obtain ⟨dx, sz, o, ob, hz, ho⟩ := hb.ex
    obtain ⟨ko, eo, hol, hok⟩ := id ho
    have cl := T.cl_Builder
    have na_s := T.na_Builder_sizes
    have na_o := T.na_Builder_on
    have na_l := T.na_Builder_left

    refine ⟨_, (Evl.pss_cut (ps_if (pt_cmpR op_eq (pe_ix ix_tup (pv 1) pe_int (fun _ _ => rfl)) pe_str (nomark _))
        (pss_one (ps_set (i := 3) sc_Builder_chosen.nd rfl (Or.inl rfl) (pe_dget (hu_of hr) (pe_fld (pv 0) rfl) (pe_ix ix_tup (pv 1) pe_int (fun _ _ => rfl)) (fun _ _ => rfl))))
        (pss_one (ps_set (i := 3) sc_Builder_chosen.nd rfl (Or.inl rfl) (pe_cmpR op_ne (pe_call (R_value_of T 13) (hr.mono (by decide)) rfl T.m_value_of T.F_value_of.kp T.b_value_of_1.choose_spec.2 T.b_value_of_1.choose_spec.1 pass0 (pa_cons (pe_ix ix_tup (pv 1) pe_int (fun _ _ => rfl)) (pa_cons (pv 2) (pa_cons (pe_fld (pv 0) rfl) pa_nil)))) pe_int (nomark _)))))
      (pss_cons (ps_if (pt_val (pv 3))
        (pss_one (ps_ret (pe_ix ix_tup (pv 1) pe_int (fun _ _ => rfl))))
        pss_nil)
      (pss_one (ps_ret (pe_ix ix_tup (pv 1) pe_int (fun _ _ => rfl)))))), ?_⟩
    try dsimp only [cxOf, Cx.nox, Cx.wish]
    rcases hu with ⟨x, c, d, rfl, rfl⟩ | ⟨x, c, d, rfl, rfl⟩
    · obtain ⟨a, xs, rfl, ha, hx⟩ := dp_tup hs
      obtain ⟨x1, y, z1, z2, rfl, h1, h2, h3, h4⟩ := dp4 hx
      cases dpS h1
      cases dpS h2
      refine go_cut (fun σ' H' => σ' = [some (.ref b), some (.ref a), some (.ref t), some (.bl (e.on x))] ∧ H' = H) ?_ ?_
      · walk_at "go"
        refine go_dgetS eo (hok x hg.1) ?_
        walk_at "go"
        exact ⟨rfl, rfl⟩
      rintro σ' H' ⟨rfl, rfl⟩
      walk_at "go"
      walk_at "br"
      · intro h
        walk_at "go"
        rw [if_pos h] at q
        exact q _ h3
      · intro h
        walk_at "go"
        rw [if_neg (by rw [h]; exact Bool.false_ne_true)] at q
        exact q _ h4
    · obtain ⟨a, xs, rfl, ha, hx⟩ := dp_tup hs
      obtain ⟨x1, y, z1, z2, rfl, h1, h2, h3, h4⟩ := dp4 hx
      cases dpS h1
      refine go_cut (fun σ' H' => σ' = [some (.ref b), some (.ref a), some (.ref t), some (.bl (!decide (evalE tab e.on [] x = 0)))] ∧ H' = H) ?_ ?_
      · walk_at "go"
        refine ⟨y, t, o, _, x, ns, ps, tab, e.on, [], rfl, h2, hg.1, ht, ho, T.et_seen _, by decide, (fun _ h => nomatch h), ?_⟩
        walk_at "go"
        exact ⟨rfl, rfl⟩
      rintro σ' H' ⟨rfl, rfl⟩
      walk_at "go"
      walk_at "br"
      · intro h
        walk_at "go"
        rw [if_neg (by simpa using h)] at q
        exact q _ h3
      · intro h
        walk_at "go"
        rw [if_pos (by simpa using h)] at q
        exact q _ h4
end
end K30

namespace K30
open PySem PySem.Spec PyProof.Rows L2 Gx
section
variable {P : Program} {w : World} {K : PySem.W.Frag} {mg : Str → Option Value} {base : Heap} {A : Ad}
theorem S_Builder_branch (T : Txt P K mg A) (n : Nat) (IHn : FnOk P w K mg base (L2.CX P w) (2 * n + 20) A.f_Builder_node A.d_Builder_node ["self", "rest", "table", "seen", "paid"] (sp_Builder_node K A.c_End A.c_Lot A.c_Turn A.c_Builder A.c_TooLarge n)) : FnOk P w K mg base (L2.CX P w) (2 * n + 20 + 1) A.f_Builder_branch A.d_Builder_branch ["self", "statement", "rest", "table", "seen", "paid"] (sp_Builder_branch K A.c_End A.c_Lot A.c_Turn A.c_Builder A.c_TooLarge n) := by
  refine (T.F_Builder_branch.okX (k := 2 * n + 20) sc_Builder_branch (fun vs H Q E h => ?_) (fun cdv Ar outer s H vs Q E hr h => ?_))
  · obtain ⟨b, t, xv, rv, sv, paid, s, items, ns, ps, e, tab, s1, s2, left, rfl, _⟩ := h
    rfl
  · obtain ⟨b, t, xv, rv, sv, paid, s, items, ns, ps, e, tab, s1, s2, left, rfl, hs, hb, dx, hrv, ht, hsv, hst, hit, hi1, hi2, hdc, hl1, hl2, q1, q2⟩ := h
    have cl := T.cl_Builder
    have na_s := T.na_Builder_sizes
    have na_o := T.na_Builder_on
    have na_l := T.na_Builder_left

    refine ⟨_, (pss_cons (ps_expr (pe_methSD0 (pv 0) T.cl_Builder T.me_Builder_place (G_Builder_place T) (hr.mono (by omega)) T.b_Builder_place .nil (fun σ => passAt (takes_of rfl rfl rfl rfl) σ)))
      (pss_cons (ps_set (i := 6) sc_Builder_branch.nd rfl (Or.inl rfl) (pe_lst pa_nil))
      (pss_cons (ps_if (pt_cmpR op_eq (pe_ix ix_tup (pv 1) pe_int (fun _ _ => rfl)) pe_str (nomark _))
        (pss_cons (ps_for (passes_of rfl) rfl (pi_range1 rfl T.n_range (pa_cons (pe_ix ix_tup (pv 1) pe_int (fun _ _ => rfl)) pa_nil)) (pg_name (i := 7) sc_Builder_branch.nd rfl (Or.inl rfl))
        (pss_one (ps_expr (pe_bm PySem.F.plainAttrs_list PySem.F.slot_list_append PySem.F.type_list_append mt_append (pv 6) (pa_cons (pe_methSD (pv 0) T.cl_Builder T.me_Builder_node IHn (hr.mono (by omega)) T.b_Builder_node .nil (fun σ => passAt (takes_of rfl rfl rfl rfl) σ) (pa_cons (pv 2) (pa_cons (pe_meth (pv 0) T.cl_Builder T.me_Builder_stored (G_Builder_stored T) (hr.mono (by omega)) T.b_Builder_stored .nil pass0 (pa_cons (pv 3) (pa_cons (pe_ix ix_tup (pv 1) pe_int (fun _ _ => rfl)) (pa_cons (pv 7) pa_nil)))) (pa_cons (pv 4) (pa_cons (pv 5) pa_nil))))) pa_nil)))))
      (pss_one (ps_ret (pe_make T.mk_Lot (G_Lot___init__ (w := w) T) (hr.mono (by omega)) rfl T.m_Lot T.b_Lot___init__ .nil pass0 (pa_cons (pe_callTy k_tuple_of (by rfl) T.n_tuple (by decide +kernel) (pa_cons (pv 6) pa_nil)) pa_nil)))))
        pss_nil)
      (pss_cons (ps_set (i := 8) sc_Builder_branch.nd rfl (Or.inl rfl) (pe_ix ix_tup (pv 1) pe_int (fun _ _ => rfl)))
      (pss_cons (ps_set (i := 4) sc_Builder_branch.nd rfl (Or.inl rfl) (pe_call (G_shown T) (hr.mono (by omega)) rfl T.m_shown T.F_shown.kp T.b_shown .nil pass0 (pa_cons (pv 4) (pa_cons (pv 8) (pa_cons (pe_tup (pa_cons pe_str (pa_cons (pe_ix ix_tup (pv 1) pe_int (fun _ _ => rfl)) (pa_cons (pe_ix ix_tup (pv 1) pe_int (fun _ _ => rfl)) pa_nil)))) pa_nil)))))
      (pss_cons (ps_for (passes_of rfl) rfl (pi_range1 rfl T.n_range (pa_cons (pe_ix ix_tup (pv 1) pe_int (fun _ _ => rfl)) pa_nil)) (pg_name (i := 7) sc_Builder_branch.nd rfl (Or.inl rfl))
        (pss_cons (ps_set (i := 9) sc_Builder_branch.nd rfl (Or.inl rfl) (pe_call (G_shown T) (hr.mono (by omega)) rfl T.m_shown T.F_shown.kp T.b_shown .nil pass0 (pa_cons (pv 4) (pa_cons (pv 8) (pa_cons (pe_tup (pa_cons pe_str (pa_cons (pv 7) pa_nil))) pa_nil)))))
      (pss_one (ps_expr (pe_bm PySem.F.plainAttrs_list PySem.F.slot_list_append PySem.F.type_list_append mt_append (pv 6) (pa_cons (pe_methSD (pv 0) T.cl_Builder T.me_Builder_node IHn (hr.mono (by omega)) T.b_Builder_node .nil (fun σ => passAt (takes_of rfl rfl rfl rfl) σ) (pa_cons (pv 2) (pa_cons (pe_meth (pv 0) T.cl_Builder T.me_Builder_stored (G_Builder_stored T) (hr.mono (by omega)) T.b_Builder_stored .nil pass0 (pa_cons (pv 3) (pa_cons (pe_ix ix_tup (pv 1) pe_int (fun _ _ => rfl)) (pa_cons (pv 7) pa_nil)))) (pa_cons (pv 9) (pa_cons (pv 5) pa_nil))))) pa_nil))))))
      (pss_one (ps_ret (pe_make T.mk_Turn (G_Turn___init__ (w := w) T) (hr.mono (by omega)) rfl T.m_Turn T.b_Turn___init__ .nil pass0 (pa_cons (pv 8) (pa_cons (pe_ix ix_tup (pv 4) (pe_op op_sub (pv 8) pe_int) (fun _ _ => rfl)) (pa_cons (pe_callTy k_tuple_of (by rfl) T.n_tuple (by decide +kernel) (pa_cons (pv 6) pa_nil)) pa_nil)))))))))))), ?_⟩
    try dsimp only [cxOf, Cx.nox, Cx.wish]
    obtain ⟨d0, sz, o, ob, hz, ho⟩ := hb.ex
    walk_at "go"
    refine ⟨_, _, _, rfl, ob, F_Builder_no_place, ?_⟩
    walk_at "go"
    have fresh : ∀ {H1 : Hp} {d : Addr}, But b H H1 → H1 d = none → (∃ o, H1 b = some o) → H d = none := fun {H1 d} B n ho => by
      cases z : H d with
      | none => rfl
      | some o =>
        obtain ⟨o', ho⟩ := ho
        have := B d o (fun y => by rw [y, ho] at n; cases n) z
        rw [n] at this
        cases this
    have low : left - 1 < 0 → runB e (.st s :: items) tab s1 s2 paid left = none := fun hl => by
      obtain ⟨x, m, h | ⟨pl, c, h⟩⟩ := hs
      · subst h
        rw [runB_drw, if_pos hl]
      · subst h
        rw [runB_mov, if_pos hl]
    refine ⟨b, ns, ps, e, left, rfl, hb, fun hl H1 b1 hb1 => ?_, fun hl d H1 b1 nd ed => q2 (low hl) d H1 b1 nd ed⟩
    have nl : ¬ left - 1 < 0 := by omega
    walk_at "go"
    refine ⟨by show 0 ≤ sizeLine; decide, fun D hD => ?_⟩
    have uD := same_new (o := HO.lst []) hD
    have b2 : But b H (upd H1 D (.lst [])) := b1.trans (Same.but uD)
    have hb2 := hb1.same uD
    have eD2 : upd H1 D (.lst []) D = some (.lst []) := upd_same
    obtain ⟨dx1, _, _, ob1, _⟩ := hb1.ex
    have hDo : H D = none := fresh b1 hD ⟨_, ob1⟩
    have Db : D ≠ b := fun z => by rw [z, ob1] at hD; cases hD
    generalize upd H1 D (.lst []) = H2 at *
    have cB : ∀ {H1 : Hp} {xs : List V}, But b H H1 → But b H (upd H1 D (.lst xs)) := fun {H1 xs} B c o n e => by
      rw [upd_ne (ne_of_none e hDo)]
      exact B c o n e
    have upT : ∀ {H1 : Hp} {l1 : Int} {xs ys : List V}, BdAt A.c_Builder H1 b ns ps e l1 → H1 D = some (.lst xs) → BdAt A.c_Builder (upd H1 D (.lst ys)) b ns ps e l1 := fun {H1 l1 xs ys} h eD => by
      obtain ⟨dx, sz, o, e1, ⟨kz, e2, r2⟩, ko, e3, r3⟩ := h.ex
      refine ⟨⟨dx, sz, o, ?_, ⟨kz, ?_, r2⟩, ko, ?_, r3⟩, h.pos⟩
      · rw [upd_ne Db.symm]; exact e1
      · rw [upd_ne (fun z => by rw [z, eD] at e2; cases e2)]; exact e2
      · rw [upd_ne (fun z => by rw [z, eD] at e3; cases e3)]; exact e3
    have upR : ∀ {H1 : Hp} {xs ys : List V} {ts : List Tr} {vs : List V}, H1 D = some (.lst xs) → TrsAt K A.c_End A.c_Lot A.c_Turn (Hm H1 b) vs ts → TrsAt K A.c_End A.c_Lot A.c_Turn (Hm (upd H1 D (.lst ys)) b) vs ts := fun {H1 xs ys ts vs} eD h => by
      rw [hm_upd Db]
      have eH : Hm H1 b D = some (.lst xs) := hm_at Db eD
      exact trsAt_off (S := fun c => c = D) (fun c o n e => by rw [upd_ne n]; exact e) (fun c zs z => by rw [z, eH]; exact ⟨fun y => (by cases y), fun o y => (by cases y)⟩) (fun c C dx fs z => by rw [z, eH]; intro y; cases y) ts vs h
    obtain ⟨x, m, h | ⟨pl, c, h⟩⟩ := hs
    · subst h
      obtain ⟨sa, sx, rfl, esa, dsa⟩ := dp_tup (show Dp K H xv (.tuple [.str "draw", .str x, .int m]) from dx)
      obtain ⟨x1, y1, z1, rfl, d1, d2, d3⟩ := dp3 dsa
      cases dpS d1
      cases dpS d2
      cases dpI d3
      rw [runB_drw, if_neg nl] at q1 q2
      have es2 := sqT_butI ob b2 esa
      walk_at "go"
      refine foR1 (fun i σ' H' => ∃ (xs : List V) (ts : List Tr) (l1 : Int) (v1 v2 v3 : Option V), σ' = [some (.ref b), some (.ref sa), some rv, some (.ref t), some sv, some (.int paid), some (.ref D), v1, v2, v3] ∧ partsB (fun k l => runB e items (tput tab x (k % e.sz x)) s1 s2 paid l) i (left - 1) = some (ts, l1) ∧ ts.length = i ∧ H' D = some (.lst xs) ∧ TrsAt K A.c_End A.c_Lot A.c_Turn (Hm H' b) xs ts ∧ BdAt A.c_Builder H' b ns ps e l1 ∧ But b H H') (by have := hst.2; omega)
        ⟨[], [], left - 1, _, _, _, rfl, rfl, rfl, eD2, .nil, hb2, b2⟩ ?_ ?_
      · rintro i σ' H3 hi ⟨xs, ts, l1, v1, v2, v3, rfl, hpt, hlt, eD3, htr, hb3, b3⟩
        obtain ⟨_, _, _, ob3, _⟩ := id hb3.ex
        have es3 := sqT_butI ob b3 esa
        have ht3 := TabOk.butI ob b3 ht
        walk_at "go"
        refine ⟨.inl ⟨rfl, _, .inl (.inl eD3)⟩, ?_⟩
        walk_at "go"
        refine ⟨_, _, _, rfl, ob3, F_Builder_no_node, ?_⟩
        walk_at "go"
        refine ⟨_, _, _, rfl, ob3, F_Builder_no_stored, ?_⟩
        walk_at "go"
        refine ⟨b, t, x, _, ns, ps, e, l1, tab, rfl, hb3, ht3, hst.1, fun p H4 u4 np hp => ?_⟩
        walk_at "go"
        have b4 := b3.trans (Same.but u4)
        refine ⟨b, p, rv, sv, paid, items, ns, ps, e, _, s1, s2, l1, rfl, hb3.same u4, dp_butH hb b4 hrv, hp, dp_butH hb b4 hsv, hit, hi1, hi2, by omega, by omega, by omega, fun tr l2 v H5 hr b5 hb5 htr5 => ?_, fun hr d H5 b5 nd ed => ?_⟩
        · have eD5 := b5 _ _ Db (u4 _ _ eD3)
          walk_at "go"
          refine go_append eD5 (szlt (by rw [trsAt_len htr, hlt]; have := hst.2; omega)) ?_
          walk_at "go"
          have htr4 := trsAt_same (hm_same ((Same.but u4).trans b5)) htr
          exact ⟨xs ++ [v], ts ++ [tr], l2, _, _, _, rfl, parts_succ hpt hr, by simp [hlt], upd_same, upR eD5 (trsAt_snoc htr5 htr4), upT hb5 eD5, cB (b4.trans b5)⟩
        · have hn : partsB (fun k l => runB e items (tput tab x (k % e.sz x)) s1 s2 paid l) m.toNat (left - 1) = none := parts_none hpt hr _ (by omega)
          rw [hn] at q2
          refine q2 rfl d H5 (b4.trans b5) (fresh b4 nd ⟨_, (hb3.same u4).ex.choose_spec.choose_spec.choose_spec.1⟩) ed
      · rintro σ' H3 ⟨xs, ts, l1, v1, v2, v3, rfl, hpt, hlt, eD3, htr, hb3, b3⟩
        rw [hpt] at q1
        walk_at "go"
        refine go_tupOfL (.of eD3) fun u nu => ?_
        walk_at "go"
        have su := same_new (o := HO.tup xs) nu
        have eu : upd H3 u (.tup xs) u = some (.tup xs) := upd_same
        have hb4 := hb3.same su
        have htr4 := trsAt_same (hm_same (Same.but (a := b) su)) htr
        have b4 := b3.trans (Same.but su)
        generalize upd H3 u (.tup xs) = H4 at *
        intro y dy hy hdy hne
        have s3 := (same_new (o := HO.own y) hdy).trans (same_new (o := HO.ins A.c_Lot dy []) (by rw [upd_ne hne.symm]; exact hy))
        refine ⟨y, dy, .ref u, rfl, upd_same, fun H5 b5 e5 => ⟨rfl, ?_⟩⟩
        have s4 := same_butF s3 hy b5
        obtain ⟨_, _, _, ob4, _⟩ := hb4.ex
        walk_at "go"
        exact q1 _ _ _ H5 rfl (b4.trans (Same.but s4)) (hb4.same s4) (.lot (hm_at (fun z => by rw [z, ob4] at hy; cases hy) e5) (hm_at (fun z => by rw [z, ob4] at eu; cases eu) (s4 _ _ eu)) (trsAt_same (hm_same (Same.but s4)) htr4))
    · subst h
      obtain ⟨sa, sx, rfl, esa, dsa⟩ := dp_tup (show Dp K H xv (.tuple [.str "move", .int pl, .str x, .int m, .int c]) from dx)
      obtain ⟨x1, y1, z1, w1, u1, rfl, d1, d2, d3, d4, d5⟩ := dp5 dsa
      cases dpS d1
      cases dpI d2
      cases dpS d3
      cases dpI d4
      cases dpI d5
      rw [runB_mov, if_neg nl] at q1 q2
      have es2 := sqT_butI ob b2 esa
      walk_at "go"
      refine ⟨by show 3 ≤ sizeLine; decide, fun t2 n2 => ?_⟩
      walk_at "go"
      have v2 := same_new (o := HO.tup [.str "move", .int c, .int m]) n2
      refine ⟨sv, .ref t2, pl, s1, s2, dMove c m, rfl, dp_same v2 _ _ (dp_butH hb b2 hsv), .tup (.inl (.inl upd_same)) (.cons (.str _) (.cons (.int _) (.cons (.int _) .nil))), by omega, by omega, fun sv2 H3 v3 dv => ?_⟩
      have v23 := v2.trans v3
      have b3 := b2.trans (Same.but v23)
      have hb3 := hb2.same v23
      have eD3 := v23 _ _ eD2
      have es3 := same_sqT v23 es2
      have k1 := shw1_len pl s1 (dMove c m)
      have k2 := shw2_len pl s2 (dMove c m)
      have j1 := shw1_itm (i := pl) hi1 (itm_move c m)
      have j2 := shw2_itm (i := pl) hi2 (itm_move c m)
      generalize hS1 : shw1 pl s1 (dMove c m) = r1 at *
      generalize hS2 : shw2 pl s2 (dMove c m) = r2 at *
      walk_at "go"
      refine foR1 (fun i σ' H' => ∃ (xs : List V) (ts : List Tr) (l1 : Int) (v1 v2 : Option V), σ' = [some (.ref b), some (.ref sa), some rv, some (.ref t), some sv2, some (.int paid), some (.ref D), v1, some (.int pl), v2] ∧ partsB (fun k l => runB e items (tput tab x (k % e.sz x)) (shw1 pl r1 (dDid k)) (shw2 pl r2 (dDid k)) paid l) i (left - 1) = some (ts, l1) ∧ ts.length = i ∧ H' D = some (.lst xs) ∧ TrsAt K A.c_End A.c_Lot A.c_Turn (Hm H' b) xs ts ∧ BdAt A.c_Builder H' b ns ps e l1 ∧ But b H H' ∧ Dp K H' sv2 (.tuple [.tuple r1, .tuple r2])) (by have := hst.2.1; omega)
        ⟨[], [], left - 1, _, _, rfl, rfl, rfl, eD3, .nil, hb3, b3, dv⟩ ?_ ?_
      · rintro i σ' H4 hi ⟨xs, ts, l1, v1, v2, rfl, hpt, hlt, eD4, htr, hb4, b4, dv4⟩
        obtain ⟨_, _, _, ob4, _⟩ := id hb4.ex
        have es4 := sqT_butI ob b4 esa
        have ht4 := TabOk.butI ob b4 ht
        walk_at "go"
        refine ⟨by show 2 ≤ sizeLine; decide, fun t5 n5 => ?_⟩
        walk_at "go"
        have v5 := same_new (o := HO.tup [.str "did", .int (i : Nat)]) n5
        refine ⟨sv2, .ref t5, pl, r1, r2, dDid i, rfl, dp_same v5 _ _ dv4, .tup (.inl (.inl upd_same)) (.cons (.str _) (.cons (.int _) .nil)), by omega, by omega, fun sv3 H5 v6 dv5 => ?_⟩
        have v56 := v5.trans v6
        have b5 := b4.trans (Same.but v56)
        have eD5 := v56 _ _ eD4
        have hb5 := hb4.same v56
        have ob5 := v56 _ _ ob4
        have es5 := same_sqT v56 es4
        have m1 := shw1_len pl r1 (dDid i)
        have m2 := shw2_len pl r2 (dDid i)
        walk_at "go"
        refine ⟨.inl ⟨rfl, _, .inl (.inl eD5)⟩, ?_⟩
        walk_at "go"
        refine ⟨_, _, _, rfl, ob5, F_Builder_no_node, ?_⟩
        walk_at "go"
        refine ⟨_, _, _, rfl, ob5, F_Builder_no_stored, ?_⟩
        walk_at "go"
        refine ⟨b, t, x, _, ns, ps, e, l1, tab, rfl, hb5, ht4.same v56, hst.1, fun p H6 u6 np hp => ?_⟩
        walk_at "go"
        have b6 := b5.trans (Same.but u6)
        refine ⟨b, p, rv, sv3, paid, items, ns, ps, e, _, _, _, l1, rfl, hb5.same u6, dp_butH hb b6 hrv, hp, dp_same u6 _ _ dv5, hit, shw1_itm j1 (itm_did _), shw2_itm j2 (itm_did _), by omega, by omega, by omega, fun tr l2 v H7 hr b7 hb7 htr7 => ?_, fun hr d H7 b7 nd ed => ?_⟩
        · have eD7 := b7 _ _ Db (u6 _ _ eD5)
          walk_at "go"
          refine go_append eD7 (szlt (by rw [trsAt_len htr, hlt]; have := hst.2.1; omega)) ?_
          walk_at "go"
          have b47 := (Same.but (a := b) (v56.trans u6)).trans b7
          have htr4 := trsAt_same (hm_same b47) htr
          have dv7 := dp_off (S := fun c => c = D) (H := H7) (H' := upd H7 D (.lst (xs ++ [v]))) (fun c o n e => by rw [upd_ne n]; exact e) (fun c zs z => by rw [z, eD7]; exact ⟨fun y => (by cases y), fun o y => (by cases y)⟩) _ _ (plain_itm j1 j2) (dp_butH hb4 b47 dv4)
          exact ⟨xs ++ [v], ts ++ [tr], l2, _, _, rfl, parts_succ hpt hr, by simp [hlt], upd_same, upR eD7 (trsAt_snoc htr7 htr4), upT hb7 eD7, cB (b6.trans b7), dv7⟩
        · have hn : partsB (fun k l => runB e items (tput tab x (k % e.sz x)) (shw1 pl r1 (dDid k)) (shw2 pl r2 (dDid k)) paid l) m.toNat (left - 1) = none := parts_none hpt hr _ (by omega)
          rw [hn] at q2
          refine q2 rfl d H7 (b6.trans b7) (fresh b6 nd ⟨_, u6 _ _ ob5⟩) ed
      · rintro σ' H4 ⟨xs, ts, l1, v1, v2, rfl, hpt, hlt, eD4, htr, hb4, b4, dv4⟩
        rw [hpt] at q1
        obtain ⟨_, _, _, ob4, _⟩ := id hb4.ex
        obtain ⟨ga, gx, rfl, ega, dga⟩ := dp_tup dv4
        obtain ⟨g1, g2, rfl, dg1, dg2⟩ := dp2 dga
        obtain ⟨vw, hvw, dvw, ivw⟩ : ∃ vw, atI [g1, g2] (pl - 1) = some vw ∧ Dp K H4 vw (.tuple (if pl = 1 then r1 else r2)) ∧ Itms (if pl = 1 then r1 else r2) := by
          have := hst.2.2
          obtain rfl | rfl | rfl : pl = 0 ∨ pl = 1 ∨ pl = 2 := by omega
          · exact ⟨g2, rfl, dg2, itms j2⟩
          · exact ⟨g1, rfl, dg1, itms j1⟩
          · exact ⟨g2, rfl, dg2, itms j2⟩
        walk_at "go"
        refine go_ixT ega hvw ?_
        walk_at "go"
        refine go_tupOfL (.of eD4) fun u nu => ?_
        walk_at "go"
        have su := same_new (o := HO.tup xs) nu
        have eu : upd H4 u (.tup xs) u = some (.tup xs) := upd_same
        have hb5 := hb4.same su
        have htr5 := trsAt_same (hm_same (Same.but (a := b) su)) htr
        have b5 := b4.trans (Same.but su)
        have dvw5 := dp_same su _ _ dvw
        generalize upd H4 u (.tup xs) = H5 at *
        intro y dy hy hdy hne
        have s3 := (same_new (o := HO.own y) hdy).trans (same_new (o := HO.ins A.c_Turn dy []) (by rw [upd_ne hne.symm]; exact hy))
        refine ⟨y, dy, .int pl, vw, .ref u, rfl, upd_same, fun H6 b6 e6 => ⟨rfl, ?_⟩⟩
        have s4 := same_butF s3 hy b6
        obtain ⟨_, _, _, ob5, _⟩ := hb5.ex
        have hb6 := hb5.same s4
        obtain ⟨va, vx, rfl, eva, dva⟩ := dp_tup dvw5
        walk_at "go"
        refine q1 _ _ _ H6 rfl (b5.trans (Same.but s4)) hb6 (.turn (hm_at (fun z => by rw [z, ob5] at hy; cases hy) e6) ?_ ivw (hm_at (fun z => by rw [z, ob5] at eu; cases eu) (s4 _ _ eu)) (trsAt_same (hm_same (Same.but s4)) htr5))
        exact dp_off off_hm hb6.off _ _ ivw.plain.1 (dp_same s4 _ _ (.tup eva dva))
end
end K30

namespace K30
open PySem PySem.Spec PyProof.Rows L2 Gx
section
variable {P : Program} {w : World} {K : PySem.W.Frag} {mg : Str → Option Value} {base : Heap} {A : Ad}
theorem Z_Builder_node {n : Nat} (K : PySem.W.Frag) (CE CL CT CB TL : Addr) {vs : List V} {H : Hp} {Q : VK} {E : XK} (hn : n = 0) (h : sp_Builder_node K CE CL CT CB TL n vs H Q E) : False := by
  subst hn
  obtain ⟨b, t, rv, sv, paid, items, ns, ps, e, tab, s1, s2, left, rfl, _, _, _, _, _, _, _, h0, _⟩ := h
  exact absurd h0 (Nat.not_lt_zero _)
theorem R_Builder_node (T : Txt P K mg A) : ∀ n : Nat, FnOk P w K mg base (L2.CX P w) (2 * n + 20) A.f_Builder_node A.d_Builder_node ["self", "rest", "table", "seen", "paid"] (sp_Builder_node K A.c_End A.c_Lot A.c_Turn A.c_Builder A.c_TooLarge n)
  | 0 => ⟨fun vs H Q E h => (Z_Builder_node K A.c_End A.c_Lot A.c_Turn A.c_Builder A.c_TooLarge rfl h).elim, fun _ _ _ _ _ _ _ _ _ _ _ _ _ h => (Z_Builder_node K A.c_End A.c_Lot A.c_Turn A.c_Builder A.c_TooLarge rfl h).elim⟩
  | n + 1 => by
    have IH := R_Builder_node T n
    refine (T.F_Builder_node.okX (k := 2 * n + 20 + 1) sc_Builder_node (fun vs H Q E h => ?_) (fun cdv Ar outer s H vs Q E hr h => ?_))
    · obtain ⟨b, t, rv, sv, paid, items, ns, ps, e, tab, s1, s2, left, rfl, _⟩ := h
      rfl
    · obtain ⟨b, t, rv, sv, paid, items, ns, ps, e, tab, s1, s2, left, rfl, hb, hrv, ht, hsv, hit, hi1, hi2, hdc, hl1, hl2, q1, q2⟩ := h
      have cl := T.cl_Builder
      have na_s := T.na_Builder_sizes
      have na_o := T.na_Builder_on
      have na_l := T.na_Builder_left

      refine ⟨_, (pss_cons (ps_while (passes_of rfl) (pt_cmpR o_notN (pv 1) pe_non (nomark _))
        (pss_cons (ps_asg (pv 1) (pg_tup rfl (pgs_cons (pg_name (i := 5) sc_Builder_node.nd rfl (Or.inl rfl)) (pgs_cons (pg_name (i := 1) sc_Builder_node.nd rfl (Or.inl rfl)) pgs_nil))))
      (pss_cons (ps_set (i := 6) sc_Builder_node.nd rfl (Or.inl rfl) (pe_ix ix_tup (pv 5) pe_int (fun _ _ => rfl)))
      (pss_cons (ps_if (PW.pt (pw_or (pt_cmpR op_eq (pv 6) pe_str (nomark _)) (pw_or1 (pt_cmpR op_eq (pv 6) pe_str (nomark _)))))
        (pss_one (ps_ret (pe_methSD (pv 0) T.cl_Builder T.me_Builder_branch (S_Builder_branch T n IH) (hr.mono (by omega)) T.b_Builder_branch .nil (fun σ => passAt (takes_of rfl rfl rfl rfl) σ) (pa_cons (pv 5) (pa_cons (pv 1) (pa_cons (pv 2) (pa_cons (pv 3) (pa_cons (pv 4) pa_nil))))))))
        pss_nil)
      (pss_one (ps_if (pt_cmpR op_eq (pv 6) pe_str (nomark _))
        (pss_one (ps_set (i := 3) sc_Builder_node.nd rfl (Or.inl rfl) (pe_tup (pa_cons (pe_op op_catA (pe_ix ix_tup (pv 3) pe_int (fun _ _ => rfl)) (pe_tup (pa_cons (pv 5) pa_nil))) (pa_cons (pe_op op_catA (pe_ix ix_tup (pv 3) pe_int (fun _ _ => rfl)) (pe_tup (pa_cons (pv 5) pa_nil))) pa_nil)))))
        (pss_one (ps_if (pt_cmpR op_eq (pv 6) pe_str (nomark _))
        (pss_one (ps_set (i := 2) sc_Builder_node.nd rfl (Or.inl rfl) (pe_meth (pv 0) T.cl_Builder T.me_Builder_stored (G_Builder_stored T) (hr.mono (by omega)) T.b_Builder_stored .nil pass0 (pa_cons (pv 2) (pa_cons (pe_ix ix_tup (pv 5) pe_int (fun _ _ => rfl)) (pa_cons (pe_call (R_value_of T 13) (hr.mono (by omega)) rfl T.m_value_of T.F_value_of.kp T.b_value_of_1.choose_spec.2 T.b_value_of_1.choose_spec.1 pass0 (pa_cons (pe_ix ix_tup (pv 5) pe_int (fun _ _ => rfl)) (pa_cons (pv 2) (pa_cons (pe_fld (pv 0) rfl) pa_nil)))) pa_nil))))))
        (pss_one (ps_if (pt_cmpR op_eq (pv 6) pe_str (nomark _))
        (pss_one (ps_set (i := 3) sc_Builder_node.nd rfl (Or.inl rfl) (pe_call (G_shown T) (hr.mono (by omega)) rfl T.m_shown T.F_shown.kp T.b_shown .nil pass0 (pa_cons (pv 3) (pa_cons (pe_ix ix_tup (pv 5) pe_int (fun _ _ => rfl)) (pa_cons (pe_tup (pa_cons pe_str (pa_cons (pe_call (R_value_of T 13) (hr.mono (by omega)) rfl T.m_value_of T.F_value_of.kp T.b_value_of_1.choose_spec.2 T.b_value_of_1.choose_spec.1 pass0 (pa_cons (pe_ix ix_tup (pv 5) pe_int (fun _ _ => rfl)) (pa_cons (pv 2) (pa_cons (pe_fld (pv 0) rfl) pa_nil)))) pa_nil))) pa_nil))))))
        (pss_one (ps_if (pt_cmpR op_eq (pv 6) pe_str (nomark _))
        (pss_one (ps_set (i := 4) sc_Builder_node.nd rfl (Or.inl rfl) (pe_op op_add (pv 4) (pe_call (R_value_of T 13) (hr.mono (by omega)) rfl T.m_value_of T.F_value_of.kp T.b_value_of_1.choose_spec.2 T.b_value_of_1.choose_spec.1 pass0 (pa_cons (pe_ix ix_tup (pv 5) pe_int (fun _ _ => rfl)) (pa_cons (pv 2) (pa_cons (pe_fld (pv 0) rfl) pa_nil)))))))
        (pss_one (ps_if (pt_cmpR op_eq (pv 6) pe_str (nomark _))
        (pss_one (ps_set (i := 4) sc_Builder_node.nd rfl (Or.inl rfl) (pe_op op_sub (pv 4) (pe_call (R_value_of T 13) (hr.mono (by omega)) rfl T.m_value_of T.F_value_of.kp T.b_value_of_1.choose_spec.2 T.b_value_of_1.choose_spec.1 pass0 (pa_cons (pe_ix ix_tup (pv 5) pe_int (fun _ _ => rfl)) (pa_cons (pv 2) (pa_cons (pe_fld (pv 0) rfl) pa_nil)))))))
        (pss_one (ps_set (i := 1) sc_Builder_node.nd rfl (Or.inl rfl) (pe_call (G_chained T) (hr.mono (by omega)) rfl T.m_chained T.F_chained.kp T.b_chained .nil pass0 (pa_cons (pe_meth (pv 0) T.cl_Builder T.me_Builder_chosen (G_Builder_chosen T) (hr.mono (by omega)) T.b_Builder_chosen .nil pass0 (pa_cons (pv 5) (pa_cons (pv 2) pa_nil))) (pa_cons (pv 1) pa_nil)))))))))))))))))))
      (pss_cons (ps_expr (pe_methSD0 (pv 0) T.cl_Builder T.me_Builder_place (G_Builder_place T) (hr.mono (by omega)) T.b_Builder_place .nil (fun σ => passAt (takes_of rfl rfl rfl rfl) σ)))
      (pss_one (ps_ret (pe_make T.mk_End (G_End___init__ (w := w) T) (hr.mono (by omega)) rfl T.m_End T.b_End___init__ .nil pass0 (pa_cons (pv 4) pa_nil)))))), ?_⟩
      try dsimp only [cxOf, Cx.nox, Cx.wish]
      walk_at "go"
      refine go_while (fun m σ' H' => ∃ (t : Addr) (rv sv : V) (pd : Int) (its : List It) (tab' : Str → Int) (r1 r2 : List PyData) (v6 v7 : Option V), m = wIs its ∧ σ' = [some (.ref b), some rv, some (.ref t), some sv, some (.int pd), v6, v7] ∧ Dp K H' rv (chD its) ∧ TabOk H' t ns tab' ∧ Dp K H' sv (.tuple [.tuple r1, .tuple r2]) ∧ ItG ns ps its ∧ (∀ d ∈ r1, Itm d) ∧ (∀ d ∈ r2, Itm d) ∧ dcIs its < n + 1 ∧ r1.length + 3 * wIs its ≤ 50000 ∧ r2.length + 3 * wIs its ≤ 50000 ∧ Same H H' ∧ runB e items tab s1 s2 paid left = runB e its tab' r1 r2 pd left) (wIs items) ⟨t, rv, sv, paid, items, tab, s1, s2, _, _, rfl, rfl, hrv, ht, hsv, hit, hi1, hi2, hdc, hl1, hl2, Same.refl _, rfl⟩ ?_
      rintro m σ' H1 ⟨t1, rv1, sv1, pd, its, tab1, r1, r2, v6, v7, rfl, rfl, hrv1, ht1, hsv1, hit1, hr1, hr2', hdc1, hl1', hl2', s01, hrun⟩
      have hb1 := hb.same s01
      obtain ⟨dx, sz, o, ob, hz, ho⟩ := hb1.ex
      obtain ⟨tk, et, _, etv⟩ := id ht1
      cases its with
      | nil =>
        cases hrv1
        walk_at "go"
        refine ⟨_, _, _, rfl, ob, F_Builder_no_place, ?_⟩
        walk_at "go"
        rw [runB_nil] at hrun
        refine ⟨b, ns, ps, e, left, rfl, hb1, fun hl H2 b2 hb2 => ?_, fun hl d H2 b2 nd ed => ?_⟩
        · rw [if_neg (by omega)] at hrun
          walk_at "go"
          intro x dx2 hx hdx2 hne
          have s3 := (same_new (o := HO.own x) hdx2).trans (same_new (o := HO.ins A.c_End dx2 []) (by rw [upd_ne hne.symm]; exact hx))
          refine ⟨x, dx2, .int pd, rfl, upd_same, fun H3 b3 e3 => ⟨rfl, ?_⟩⟩
          have s4 := same_butF s3 hx b3
          have bb := ((Same.but (a := b) s01).trans b2).trans (Same.but s4)
          refine q1 _ _ _ H3 hrun bb (hb2.same s4) (.fin (hm_at ?_ e3))
          obtain ⟨_, _, _, ob2, _⟩ := hb2.ex
          exact fun z => by rw [z, ob2] at hx; cases hx
        · rw [if_pos hl] at hrun
          refine q2 hrun d H2 ((Same.but (a := b) s01).trans b2) ?_ ed
          cases z : H d with
          | none => rfl
          | some o => rw [s01 _ _ z] at nd; cases nd
      | cons i its =>
        obtain ⟨ra, rx, rfl, era, dra⟩ := dp_tup (show Dp K H1 rv1 (.tuple [itD i, chD its]) from hrv1)
        obtain ⟨iv, rv2, rfl, di, dr2⟩ := dp2 dra
        have hw : wIs (i :: its) = wI i + wIs its := rfl
        have hwp := wI_pos i
        have hdc2 : dcIs its < n + 1 := by
          have : dcIs (i :: its) = dcI i + dcIs its := rfl
          omega
        walk_at "go"
        refine go_loop ?_
        walk_at "go"
        refine go_gtup era rfl ?_
        walk_at "go"
        cases i with
        | rd k =>
          obtain ⟨sa, sx, rfl, esa, dsa⟩ := dp_tup (show Dp K H1 iv (dRound k) from di)
          obtain ⟨x1, y1, rfl, d1, d2⟩ := dp2 dsa
          cases dpS d1
          obtain ⟨ga, gx, rfl, ega, dga⟩ := dp_tup hsv1
          obtain ⟨g1, g2, rfl, dg1, dg2⟩ := dp2 dga
          obtain ⟨a1, x1, rfl, ea1, da1⟩ := dp_tup dg1
          obtain ⟨a2, x2, rfl, ea2, da2⟩ := dp_tup dg2
          walk_at "go"
          refine ⟨by show 1 ≤ sizeLine; decide, fun t2 n2 => ?_⟩
          have u1 := same_new (o := HO.tup [V.ref sa]) n2
          have ega1 := same_sqT u1 ega
          walk_at "go"
          refine go_catA (same_sqT u1 ea1) (.inl (.inl upd_same)) (by rw [dpAll_len da1]; show _ + 1 ≤ _; omega) (by simp) fun p1 H2 u2 ep1 => ?_
          have ega2 := same_sqT u2 ega1
          walk_at "go"
          refine ⟨by show 1 ≤ sizeLine; decide, fun t3 n3 => ?_⟩
          have u3 := same_new (o := HO.tup [V.ref sa]) n3
          walk_at "go"
          have u123 := (u1.trans u2).trans u3
          refine go_catA (same_sqT u123 ea2) (.inl (.inl upd_same)) (by rw [dpAll_len da2]; show _ + 1 ≤ _; omega) (by simp) fun p2 H3 u4 ep2 => ?_
          walk_at "go"
          refine ⟨by show 2 ≤ sizeLine; decide, fun t4 n4 => ?_⟩
          walk_at "go"
          have u5 := same_new (o := HO.tup [V.ref p1, .ref p2]) n4
          have uu := (u123.trans u4).trans u5
          have itd : Itm (dRound k) := itm_round k
          refine ⟨_, by omega, t1, rv2, _, pd, its, tab1, r1 ++ [dRound k], r2 ++ [dRound k], _, _, rfl, rfl, dp_same uu _ _ dr2, ht1.same uu, .tup (.inl (.inl upd_same)) (.cons (.tup (same_sqT ((u3.trans u4).trans u5) ep1) ?_) (.cons (.tup (same_sqT u5 ep2) ?_) .nil)), hit1, ?_, ?_, hdc2, ?_, ?_, s01.trans uu, by rw [hrun, runB_rd]⟩
          · exact dpAll_snoc (dpAll_same uu _ _ da1) (dp_same uu _ _ di)
          · exact dpAll_snoc (dpAll_same uu _ _ da2) (dp_same uu _ _ di)
          · intro d hd
            rcases List.mem_append.mp hd with z | z
            · exact hr1 d z
            · rw [List.mem_singleton.mp z]; exact itd
          · intro d hd
            rcases List.mem_append.mp hd with z | z
            · exact hr2' d z
            · rw [List.mem_singleton.mp z]; exact itd
          · rw [List.length_append]; show _ + 1 + _ ≤ _; omega
          · rw [List.length_append]; show _ + 1 + _ ≤ _; omega
        | st s =>
          have hit2 := hit1.2
          have hst := hit1.1
          have di : Dp K H1 iv (stD s) := di
          cases s with
          | set x ex =>
            obtain ⟨sa, sx, rfl, esa, dsa⟩ := dp_tup (show Dp K H1 iv (.tuple [.str "set", .str x, exD ex]) from di)
            obtain ⟨x1, y1, z1, rfl, d1, d2, d3⟩ := dp3 dsa
            cases dpS d1
            cases dpS d2
            walk_at "go"
            refine ⟨_, _, _, rfl, ob, F_Builder_no_stored, ?_⟩
            walk_at "go"
            refine ⟨z1, t1, o, _, ex, ns, ps, tab1, e.on, [], rfl, d3, hst.2, ht1, ho, T.et_seen _, by decide, (fun _ h => nomatch h), ?_⟩
            walk_at "go"
            refine ⟨b, t1, x, _, ns, ps, e, left, tab1, rfl, hb1, ht1, hst.1, fun p H2 u np hp => ?_⟩
            walk_at "go"
            exact ⟨_, by omega, p, rv2, sv1, pd, its, _, r1, r2, _, _, rfl, rfl, dp_same u _ _ dr2, hp, dp_same u _ _ hsv1, hit2, hr1, hr2', hdc2, by omega, by omega, s01.trans u, by rw [hrun, runB_set]⟩
          | shw k ex =>
            obtain ⟨sa, sx, rfl, esa, dsa⟩ := dp_tup (show Dp K H1 iv (.tuple [.str "show", .int k, exD ex]) from di)
            obtain ⟨x1, y1, z1, rfl, d1, d2, d3⟩ := dp3 dsa
            cases dpS d1
            cases dpI d2
            walk_at "go"
            refine ⟨z1, t1, o, _, ex, ns, ps, tab1, e.on, [], rfl, d3, hst, ht1, ho, T.et_seen _, by decide, (fun _ h => nomatch h), ?_⟩
            walk_at "go"
            refine ⟨by show 2 ≤ sizeLine; decide, fun t2 n2 => ?_⟩
            have u1 := same_new (o := HO.tup [.str "told", .int (evalE tab1 e.on [] ex)]) n2
            walk_at "go"
            refine ⟨sv1, .ref t2, k, r1, r2, dTold (evalE tab1 e.on [] ex), rfl, dp_same u1 _ _ hsv1, .tup (.inl (.inl upd_same)) (.cons (.str _) (.cons (.int _) .nil)), by omega, by omega, fun v H2 u2 dv => ?_⟩
            walk_at "go"
            have uu := u1.trans u2
            have b1 := shw1_len k r1 (dTold (evalE tab1 e.on [] ex))
            have b2 := shw2_len k r2 (dTold (evalE tab1 e.on [] ex))
            exact ⟨_, by omega, t1, rv2, v, pd, its, _, _, _, _, _, rfl, rfl, dp_same uu _ _ dr2, ht1.same uu, dv, hit2, shw1_itm hr1 (itm_told _), shw2_itm hr2' (itm_told _), hdc2, by omega, by omega, s01.trans uu, by rw [hrun, runB_shw]⟩
          | pay k ex =>
            cases k with
            | true =>
              obtain ⟨sa, sx, rfl, esa, dsa⟩ := dp_tup (show Dp K H1 iv (.tuple [.str "take", exD ex]) from di)
              obtain ⟨x1, z1, rfl, d1, d3⟩ := dp2 dsa
              cases dpS d1
              walk_at "go"
              refine ⟨z1, t1, o, _, ex, ns, ps, tab1, e.on, [], rfl, d3, hst, ht1, ho, T.et_seen _, by decide, (fun _ h => nomatch h), ?_⟩
              walk_at "go"
              exact ⟨_, by omega, t1, rv2, sv1, _, its, _, _, _, _, _, rfl, rfl, dr2, ht1, hsv1, hit2, hr1, hr2', hdc2, by omega, by omega, s01, by rw [hrun, runB_pay, if_pos rfl]⟩
            | false =>
              obtain ⟨sa, sx, rfl, esa, dsa⟩ := dp_tup (show Dp K H1 iv (.tuple [.str "pay", exD ex]) from di)
              obtain ⟨x1, z1, rfl, d1, d3⟩ := dp2 dsa
              cases dpS d1
              walk_at "go"
              refine ⟨z1, t1, o, _, ex, ns, ps, tab1, e.on, [], rfl, d3, hst, ht1, ho, T.et_seen _, by decide, (fun _ h => nomatch h), ?_⟩
              walk_at "go"
              exact ⟨_, by omega, t1, rv2, sv1, _, its, _, _, _, _, _, rfl, rfl, dr2, ht1, hsv1, hit2, hr1, hr2', hdc2, by omega, by omega, s01, by rw [hrun, runB_pay, if_neg Bool.false_ne_true]⟩
          | drw x k =>
            obtain ⟨sa, sx, rfl, esa, dsa⟩ := dp_tup (show Dp K H1 iv (.tuple [.str "draw", .str x, .int k]) from di)
            obtain ⟨x1, y1, z1, rfl, d1, d2, d3⟩ := dp3 dsa
            cases dpS d1
            walk_at "go"
            refine ⟨_, _, _, rfl, ob, F_Builder_no_branch, ?_⟩
            walk_at "go"
            have hd2 : dcIs (It.st (.drw x k) :: its) = 1 + dcIs its := rfl
            have hw1 : wI (It.st (.drw x k)) = 1 := rfl
            refine ⟨b, t1, .ref sa, rv2, sv1, pd, .drw x k, its, ns, ps, e, tab1, r1, r2, left, rfl, ⟨x, k, .inl rfl⟩, hb1, di, dr2, ht1, hsv1, hst, hit2, hr1, hr2', by omega, by omega, by omega, fun tr l' v H2 hr b2 hb2 htr => q1 tr l' v H2 (hrun.trans hr) ((Same.but s01).trans b2) hb2 htr, fun hr d H2 b2 nd ed => q2 (hrun.trans hr) d H2 ((Same.but s01).trans b2) ?_ ed⟩
            cases z : H d with
            | none => rfl
            | some o => rw [s01 _ _ z] at nd; cases nd
          | mov pl x k c =>
            obtain ⟨sa, sx, rfl, esa, dsa⟩ := dp_tup (show Dp K H1 iv (.tuple [.str "move", .int pl, .str x, .int k, .int c]) from di)
            have d1 : ∃ r, sx = .str "move" :: r := by
              cases dsa with
              | cons h1 h2 => cases h1; exact ⟨_, rfl⟩
            obtain ⟨sr, rfl⟩ := d1
            walk_at "go"
            refine ⟨_, _, _, rfl, ob, F_Builder_no_branch, ?_⟩
            walk_at "go"
            have hd2 : dcIs (It.st (.mov pl x k c) :: its) = 1 + dcIs its := rfl
            have hw1 : wI (It.st (.mov pl x k c)) = 1 := rfl
            refine ⟨b, t1, .ref sa, rv2, sv1, pd, .mov pl x k c, its, ns, ps, e, tab1, r1, r2, left, rfl, ⟨x, k, .inr ⟨pl, c, rfl⟩⟩, hb1, di, dr2, ht1, hsv1, hst, hit2, hr1, hr2', by omega, by omega, by omega, fun tr l' v H2 hr b2 hb2 htr => q1 tr l' v H2 (hrun.trans hr) ((Same.but s01).trans b2) hb2 htr, fun hr d H2 b2 nd ed => q2 (hrun.trans hr) d H2 ((Same.but s01).trans b2) ?_ ed⟩
            cases z : H d with
            | none => rfl
            | some o => rw [s01 _ _ z] at nd; cases nd
          | whn x c d =>
            obtain ⟨sa, sx, rfl, esa, dsa⟩ := dp_tup (show Dp K H1 iv (.tuple [.str "when", .str x, .tuple (stDs c), .tuple (stDs d)]) from di)
            have d1 : ∃ r, sx = .str "when" :: r := by
              cases dsa with
              | cons h1 h2 => cases h1; exact ⟨_, rfl⟩
            obtain ⟨sr, rfl⟩ := d1
            walk_at "go"
            refine ⟨_, _, _, rfl, ob, F_Builder_no_chosen, ?_⟩
            walk_at "go"
            refine ⟨b, t1, .ref sa, .whn x c d, _, ns, ps, e, left, tab1, rfl, hb1, ht1, di, hst, .inl ⟨x, c, d, rfl, rfl⟩, fun u du => ?_⟩
            walk_at "go"
            refine ⟨u, rv2, _, its, rfl, du, dr2, fun v H2 u2 dv => ?_⟩
            walk_at "go"
            have hw1 : wI (It.st (.whn x c d)) = wSs c + wSs d + 1 := rfl
            have hd1 : dcIs (It.st (.whn x c d) :: its) = dcSs c + dcSs d + dcIs its := rfl
            have hw2 : wIs ((if e.on x = true then c else d).map .st ++ its) < wIs (It.st (.whn x c d) :: its) := by
              rw [wI_app]
              split <;> omega
            have hd2 : dcIs ((if e.on x = true then c else d).map .st ++ its) ≤ dcIs (It.st (.whn x c d) :: its) := by
              rw [dcI_app]
              split <;> omega
            exact ⟨_, hw2, t1, v, sv1, pd, _, tab1, r1, r2, _, _, rfl, rfl, dv, ht1.same u2, dp_same u2 _ _ hsv1, itG_app (by split; exact hst.2.1; exact hst.2.2) hit2, hr1, hr2', by omega, by omega, by omega, s01.trans u2, by rw [hrun, runB_whn]⟩
          | iff x c d =>
            obtain ⟨sa, sx, rfl, esa, dsa⟩ := dp_tup (show Dp K H1 iv (.tuple [.str "if", exD x, .tuple (stDs c), .tuple (stDs d)]) from di)
            have d1 : ∃ r, sx = .str "if" :: r := by
              cases dsa with
              | cons h1 h2 => cases h1; exact ⟨_, rfl⟩
            obtain ⟨sr, rfl⟩ := d1
            walk_at "go"
            refine ⟨_, _, _, rfl, ob, F_Builder_no_chosen, ?_⟩
            walk_at "go"
            refine ⟨b, t1, .ref sa, .iff x c d, _, ns, ps, e, left, tab1, rfl, hb1, ht1, di, hst, .inr ⟨x, c, d, rfl, rfl⟩, fun u du => ?_⟩
            walk_at "go"
            refine ⟨u, rv2, _, its, rfl, du, dr2, fun v H2 u2 dv => ?_⟩
            walk_at "go"
            have hw1 : wI (It.st (.iff x c d)) = wSs c + wSs d + 1 := rfl
            have hd1 : dcIs (It.st (.iff x c d) :: its) = dcSs c + dcSs d + dcIs its := rfl
            have hw2 : wIs ((if evalE tab1 e.on [] x = 0 then d else c).map .st ++ its) < wIs (It.st (.iff x c d) :: its) := by
              rw [wI_app]
              split <;> omega
            have hd2 : dcIs ((if evalE tab1 e.on [] x = 0 then d else c).map .st ++ its) ≤ dcIs (It.st (.iff x c d) :: its) := by
              rw [dcI_app]
              split <;> omega
            exact ⟨_, hw2, t1, v, sv1, pd, _, tab1, r1, r2, _, _, rfl, rfl, dv, ht1.same u2, dp_same u2 _ _ hsv1, itG_app (by split; exact hst.2.2; exact hst.2.1) hit2, hr1, hr2', by omega, by omega, by omega, s01.trans u2, by rw [hrun, runB_iff]⟩
end
end K30

namespace K30
open PySem PySem.Spec PyProof.Rows L2 Gx
section
variable {P : Program} {w : World} {K : PySem.W.Frag} {mg : Str → Option Value} {base : Heap} {A : Ad}
def sp_tree_of (K : PySem.W.Frag) (CE CL CT CG TL : Addr) : Sp := fun vs H Q E => ∃ (a : Addr) (g : Gm), vs = [.ref a] ∧ GmAt K CG H a g ∧ GmOk g ∧ dcIs (itsOf g.rs 0) < 25 ∧ wIs (itsOf g.rs 0) ≤ 16000 ∧ (∀ tr v H', buildG g = some tr → Same H H' → TrAt K CE CL CT H' v tr → Q v H') ∧ (buildG g = none → ∀ d H', Same H H' → errD H' d → E (.ref TL) (some d) H')
theorem G_tree_of (T : Txt P K mg A) : FnOk P w K mg base (L2.CX P w) 71 A.f_tree_of A.d_tree_of ["game"] (sp_tree_of K A.c_End A.c_Lot A.c_Turn A.c_Game A.c_TooLarge) := by
  refine (T.F_tree_of.okX (k := 70) sc_tree_of (fun vs H Q E h => ?_) (fun cdv Ar outer s H vs Q E hr h => ?_))
  · obtain ⟨a, g, rfl, _⟩ := h
    rfl
  · obtain ⟨a, g, rfl, hg, ok, hdc, hw, q1, q2⟩ := h
    have clg := T.cl_Game
    have ng1 := T.na_Game_options
    have ng2 := T.na_Game_variables
    have ng3 := T.na_Game_rounds

    refine ⟨_, (pss_cons (ps_set (i := 1) sc_tree_of.nd rfl (Or.inl rfl) (pe_make T.mk_Builder (G_Builder___init__ T) (hr.mono (by decide)) rfl T.m_Builder T.b_Builder___init__ .nil pass0 (pa_cons (pv 0) pa_nil)))
      (pss_cons (ps_set (i := 2) sc_tree_of.nd rfl (Or.inl rfl) pe_non)
      (pss_cons (ps_for (passes_of rfl) rfl (pi_range3 rfl T.n_range (pa_cons (pe_op op_sub (pe_callB k_len (by rfl) T.n_len (by decide +kernel) (pa_cons (pe_fld (pv 0) rfl) pa_nil)) pe_int) (pa_cons (pe_un un_neg pe_int) (pa_cons (pe_un un_neg pe_int) pa_nil)))) (pg_name (i := 3) sc_tree_of.nd rfl (Or.inl rfl))
        (pss_one (ps_set (i := 2) sc_tree_of.nd rfl (Or.inl rfl) (pe_tup (pa_cons (pe_tup (pa_cons pe_str (pa_cons (pv 3) pa_nil))) (pa_cons (pe_call (G_chained T) (hr.mono (by decide)) rfl T.m_chained T.F_chained.kp T.b_chained .nil pass0 (pa_cons (pe_ix ix_tup (pe_ix ix_tup (pe_fld (pv 0) rfl) (pv 3) (fun _ _ => rfl)) pe_int (fun _ _ => rfl)) (pa_cons (pv 2) pa_nil))) pa_nil))))))
      (pss_cons (ps_set (i := 4) sc_tree_of.nd rfl (Or.inl rfl) pe_dnewK)
      (pss_cons (ps_for (passes_of rfl) rfl (pi_tup (pe_fld (pv 0) rfl)) (pg_tup rfl (pgs_cons (pg_name (i := 5) sc_tree_of.nd rfl (Or.inl rfl)) (pgs_cons (pg_name (i := 6) sc_tree_of.nd rfl (Or.inl rfl)) pgs_nil)))
        (pss_one (ps_dput (hu_of hr) (pv 4) (pv 5) pe_int rfl)))
      (pss_one (ps_ret (pe_methSD (pv 1) T.cl_Builder T.me_Builder_node (R_Builder_node T 25) (hr.mono (by decide)) T.b_Builder_node .nil (fun σ => passAt (takes_of rfl rfl rfl rfl) σ) (pa_cons (pv 2) (pa_cons (pv 4) (pa_cons (pe_tup (pa_cons (pe_tup pa_nil) (pa_cons (pe_tup pa_nil) pa_nil))) (pa_cons pe_int pa_nil)))))))))))), ?_⟩
    try dsimp only [cxOf, Cx.nox, Cx.wish]
    walk_at "go"
    intro y dy hy hdy hne
    have s1 := (same_new (o := HO.own y) hdy).trans (same_new (o := HO.ins A.c_Builder dy []) (by rw [upd_ne hne.symm]; exact hy))
    refine ⟨y, dy, a, g, rfl, upd_same, hg.same s1, ok, fun H1 b1 hb1 => ⟨rfl, ?_⟩⟩
    have s1 := same_butF s1 hy b1
    obtain ⟨dg, o, v, r, xo, xv, og, k1, d1, k2, d2, d3⟩ := (hg.same s1).ex
    obtain ⟨_, rx, er, er1, dr1⟩ := dp_tup d3
    cases er
    have lr : rx.length = g.rs.length := by rw [dpAll_len dr1]; exact List.length_map ..
    have hrl := ok.rl
    walk_at "go"
    refine go_lenT er1 ?_
    rw [lr]
    walk_at "go"
    have dr1' : DpAll K H1 rx (g.rs.map fun p => .tuple [.str p.1, .tuple (stDs p.2)]) := dr1
    refine foRdn (fun i σ' H' => ∃ (rv : V) (v3 v4 v5 v6 : Option V), σ' = [some (.ref a), some (.ref y), some rv, v3, v4, v5, v6] ∧ Same H1 H' ∧ Dp K H' rv (chD (itsOf (g.rs.drop (g.rs.length - i)) ((g.rs.length - i : Nat) : Int)))) (by omega) ⟨_, _, _, _, _, rfl, Same.refl _, by rw [Nat.sub_zero, List.drop_length]; exact .non⟩ ?_ ?_
    · rintro i σ' H2 hi ⟨rv, v3, v4, v5, v6, rfl, s2, drv⟩
      have hj : g.rs.length - 1 - i < g.rs.length := by omega
      have er := List.getElem?_eq_getElem hj
      have hj2 : g.rs[g.rs.length - 1 - i] = g.rs[g.rs.length - 1 - i] := rfl
      generalize hp : g.rs[g.rs.length - 1 - i] = p at er
      obtain ⟨w, ew, dw⟩ := dpAll_get (dpAll_same s2 _ _ dr1') (i := g.rs.length - 1 - i) (d := .tuple [.str p.1, .tuple (stDs p.2)]) (by rw [List.getElem?_map, er]; rfl)
      obtain ⟨pa, px, rfl, ep, dp⟩ := dp_tup dw
      obtain ⟨z1, z2, rfl, dz1, dz2⟩ := dp2 dp
      have og2 := s2 _ _ og
      walk_at "go"
      refine ⟨by show 2 ≤ sizeLine; decide, fun t1 n1 => ?_⟩
      have u1 := same_new (o := HO.tup [.str "round", .int ((g.rs.length - 1 - i : Nat) : Int)]) n1
      have og3 := u1 _ _ og2
      have dt1 : Dp K (upd H2 t1 (.tup [.str "round", .int ((g.rs.length - 1 - i : Nat) : Int)])) (.ref t1) (dRound ((g.rs.length - 1 - i : Nat) : Int)) := .tup (.inl (.inl upd_same)) (.cons (.str _) (.cons (.int _) .nil))
      generalize upd H2 t1 (.tup [.str "round", .int ((g.rs.length - 1 - i : Nat) : Int)]) = H3 at *
      walk_at "go"
      refine go_ixT (same_sqT (s2.trans u1) er1) (at_nat ew) ?_
      walk_at "go"
      refine go_ixT (same_sqT u1 ep) at_1 ?_
      walk_at "go"
      refine ⟨z2, rv, p.2, _, rfl, dp_same u1 _ _ dz2, dp_same u1 _ _ drv, fun v H4 u4 dv => ?_⟩
      walk_at "go"
      refine ⟨by show 2 ≤ sizeLine; decide, fun t5 n5 => ?_⟩
      walk_at "go"
      have u5 := same_new (o := HO.tup [.ref t1, v]) n5
      refine ⟨_, _, _, _, _, rfl, (s2.trans u1).trans (u4.trans u5), ?_⟩
      have e : g.rs.drop (g.rs.length - (i + 1)) = p :: g.rs.drop (g.rs.length - i) := by
        rw [show g.rs.length - (i + 1) = g.rs.length - 1 - i by omega, List.drop_eq_getElem_cons hj, hp, show g.rs.length - 1 - i + 1 = g.rs.length - i by omega]
      rw [e]
      show Dp K _ _ (.tuple [dRound ((g.rs.length - (i + 1) : Nat) : Int), chD (p.2.map .st ++ itsOf (g.rs.drop (g.rs.length - i)) (((g.rs.length - (i + 1) : Nat) : Int) + 1))])
      rw [show ((g.rs.length - (i + 1) : Nat) : Int) + 1 = ((g.rs.length - i : Nat) : Int) by omega, show g.rs.length - (i + 1) = g.rs.length - 1 - i by omega]
      exact .tup (.inl (.inl upd_same)) (.cons (dp_same (u4.trans u5) _ _ dt1) (.cons (dp_same u5 _ _ dv) .nil))
    rintro σ' H2 ⟨rv, v3, v4, v5, v6, rfl, s2, drv⟩
    rw [Nat.sub_self, List.drop_zero] at drv
    have drv : Dp K H2 rv (chD (itsOf g.rs 0)) := drv
    walk_at "go"
    intro p np
    have u1 := same_new (o := HO.dK []) np
    have s3 := s2.trans u1
    have og3 := s3 _ _ og
    have pn1 : H1 p = none := by
      cases z : H1 p with
      | none => rfl
      | some o => rw [s2 _ _ z] at np; cases np
    walk_at "go"
    have dv2 : DpAll K H1 xv (g.vs.map fun p => .tuple [.str p.1, .int p.2]) := d2
    have lv : xv.length = g.vs.length := by rw [dpAll_len dv2, List.length_map]
    have hvl := ok.vl
    refine foT xv (fun i σ' H' => ∃ (v3 v5 v6 : Option V) (kvs : List (Key × V)), σ' = [some (.ref a), some (.ref y), some rv, v3, some (.ref p), v5, v6] ∧ Same H1 H' ∧ Dp K H' rv (chD (itsOf g.rs 0)) ∧ H' p = some (.dK kvs) ∧ kvs.length ≤ i ∧ ∀ x ∈ (g.vs.take i).map (·.1), valV kvs (.inr x) = some (.int 0)) ⟨_, _, _, [], rfl, s3, dp_same u1 _ _ drv, upd_same, Nat.le_refl _, fun x hx => nomatch hx⟩ (fun i σ' H' _ h => by obtain ⟨_, _, _, _, _, s, _⟩ := h; exact same_sqT s k2.sq) ?_ ?_
    · rintro i w σ' H3 hw2 ⟨v3, v5, v6, kvs, rfl, s4, drv4, e4, hk, hv⟩
      have hi : i < g.vs.length := by
        have := (List.getElem?_eq_some_iff.mp hw2).1
        omega
      have er := List.getElem?_eq_getElem hi
      generalize g.vs[i] = q at er
      obtain ⟨w', ew, dw⟩ := dpAll_get (dpAll_same s4 _ _ dv2) (i := i) (d := .tuple [.str q.1, .int q.2]) (by rw [List.getElem?_map, er]; rfl)
      rw [hw2] at ew
      injection ew with ew
      subst ew
      obtain ⟨pa, px, rfl, ep, dp⟩ := dp_tup dw
      obtain ⟨z1, z2, rfl, dz1, dz2⟩ := dp2 dp
      cases dpS dz1
      refine go_gtup ep rfl ?_
      walk_at "go"
      refine go_dputS e4 (by omega) ?_
      refine ⟨_, _, _, _, rfl, same_mut s4 pn1, dp_updK e4 (chD_noL _) drv4, upd_same, Nat.le_trans putK_len (by omega), fun x hx => ?_⟩
      rw [take_snoc er, List.map_append, List.mem_append] at hx
      by_cases h : x = q.1
      · subst h
        exact valV_put
      · rw [valV_put_ne (fun z => h (Sum.inr.inj z))]
        rcases hx with hx | hx
        · exact hv x hx
        · exact absurd (List.mem_singleton.mp hx) h
    rintro σ' H3 ⟨v3, v5, v6, kvs, rfl, s4, drv4, e4, hk, hv⟩
    rw [lv, List.take_length] at hv
    have hb3 := hb1.same s4
    obtain ⟨_, _, _, ob3, _⟩ := id hb3.ex
    walk_at "go"
    refine ⟨_, _, _, rfl, ob3, F_Builder_no_node, ?_⟩
    walk_at "go"
    refine ⟨by show 0 ≤ sizeLine; decide, fun t1 n1 => ?_⟩
    walk_at "go"
    refine ⟨by show 0 ≤ sizeLine; decide, fun t2 n2 => ?_⟩
    walk_at "go"
    refine ⟨by show 2 ≤ sizeLine; decide, fun t3 n3 => ?_⟩
    walk_at "go"
    have w1 := same_new (o := HO.tup []) n1
    have w2 := same_new (o := HO.tup []) n2
    have w3 := same_new (o := HO.tup [.ref t1, .ref t2]) n3
    have ww := (w1.trans w2).trans w3
    have s5 := s4.trans ww
    refine ⟨y, p, rv, .ref t3, 0, itsOf g.rs 0, _, _, evOf g, fun _ => 0, [], [], 400, rfl, hb3.same ww, dp_same ww _ _ drv4, ⟨kvs, ww _ _ e4, by omega, fun x hx => ⟨hv x hx, Int.le_refl 0, show (0 : Int) < 65536 by decide⟩⟩, .tup (.inl (.inl upd_same)) (.cons (.tup (same_sqT (w2.trans w3) (.inl (.inl upd_same))) .nil) (.cons (.tup (same_sqT w3 (.inl (.inl upd_same))) .nil) .nil)), itsG ok.st, (fun d h => nomatch h), (fun d h => nomatch h), hdc, by show 0 + _ ≤ _; omega, by show 0 + _ ≤ _; omega, fun tr l' v H6 hr b6 _ htr => ?_, fun hr d H6 b6 nd ed => ?_⟩
    · walk_at "go"
      have yo : H y = none := hy
      exact q1 tr v H6 (by unfold buildG; rw [hr]; rfl) (same_butF (s1.trans s5) yo b6) (trAt_same hm_sub htr)
    · exact q2 (by unfold buildG; rw [hr]; rfl) d H6 (same_butF (s1.trans s5) hy b6) ed
end
end K30

namespace K30
open PySem PySem.Spec PyProof.Rows L2 Gx
section
variable {P : Program} {w : World} {K : PySem.W.Frag} {mg : Str → Option Value} {base : Heap} {A : Ad}
def sp_law (K : PySem.W.Frag) : Sp := fun vs H Q _ => ∃ (a : Addr) (ns : List Int), vs = [.ref a] ∧ SqL K H a (ns.map V.int) ∧ ns.length ≤ 63 ∧ ∀ H', Q (.bl true) H'
theorem G_law (T : Txt P K mg A) : FnOk P w K mg base CX0 72 A.f_law A.d_law ["_law_script"] (sp_law K) := by
  refine (T.F_law.ok (k := 71) sc_law (fun vs H Q E h => ?_) (fun cdv Ar outer s H vs Q E hr h => ?_))
  · obtain ⟨a, ns, rfl, _⟩ := h
    rfl
  · obtain ⟨a, ns, rfl, hs, hl, q⟩ := h
    refine ⟨_, (pss_cons (ps_set (i := 1) sc_law.nd rfl (Or.inr rfl) (pe_call (G__law_cell T) (hr.mono (by decide)) rfl T.m__law_cell T.F__law_cell.kp T.b__law_cell .nil pass0 (pa_cons (pv 0) (pa_cons pe_int pa_nil))))
      (pss_cons (ps_setLc (i := 2) (own := [("_law_k", 16)]) (g := gName 16) (tt := tYes) rfl sc_law.nd rfl rfl (sw_true rfl rfl rfl (by decide +kernel)) (pi_range1 rfl T.n_range (pa_cons (pe_op op_mod (pe_callTy k_int1 (by rfl) T.n_int (by decide +kernel) (pa_cons (pv 1) pa_nil)) pe_int) pa_nil)) (blkOk_by (N := ["_law_script", "_law_way", "_law_options", "_law_sizes", "_law_variables", "_law_count", "_law_blocks", "_law_at", "_law_rounds", "_law_table", "_law_size_of", "_law_pair", "_law_on", "_law_paid", "_law_block", "_law_actual", "_law_k"]) (sc := defScope s_law) (by decide +kernel)) (fun _ _ _ _ _ => (pg_name (i := 16) sc_law.nd rfl (Or.inl rfl))) (fun _ _ _ _ _ => by exact pts_nil) (fun _ _ _ _ _ => by exact (pe_tup (pa_cons (pe_op o_add_str pe_str (pe_callTy k_str_int (by rfl) T.n_str (by decide +kernel) (pa_cons (pv 16) pa_nil))) (pa_cons (pe_cmpR op_eq (pe_op op_mod (pe_op op_fdiv (pe_op op_fdiv (pv 1) pe_int) (pe_op op_add (pv 16) pe_int)) pe_int) pe_int (nomark _)) pa_nil)))))
      (pss_cons (ps_set (i := 3) sc_law.nd rfl (Or.inr rfl) (pe_lc (own := [("_law_k", 16)]) (g := gName 16) (tt := tYes) rfl sc_law.nd (pi_range1 rfl T.n_range (pa_cons (pe_op op_mod (pe_op op_fdiv (pv 1) pe_int) pe_int) pa_nil)) (blkOk_by (N := ["_law_script", "_law_way", "_law_options", "_law_sizes", "_law_variables", "_law_count", "_law_blocks", "_law_at", "_law_rounds", "_law_table", "_law_size_of", "_law_pair", "_law_on", "_law_paid", "_law_block", "_law_actual", "_law_k"]) (sc := defScope s_law) (by decide +kernel)) (fun _ _ _ _ _ => (pg_name (i := 16) sc_law.nd rfl (Or.inl rfl))) (fun _ _ _ _ _ => by exact pts_nil) (fun _ _ _ _ _ => by exact (pe_op op_add pe_int (pe_op op_mod (pe_op op_fdiv (pe_call (G__law_cell T) (hr.mono (by decide)) rfl T.m__law_cell T.F__law_cell.kp T.b__law_cell .nil pass0 (pa_cons (pv 0) (pa_cons pe_int pa_nil))) (pe_op op_add (pv 16) pe_int)) (pe_ix (ix_tupK (K := K) rfl) (pe_tup (pa_cons pe_int (pa_cons pe_int (pa_cons pe_int pa_nil)))) (pe_op op_mod (pe_callTy k_int1 (by rfl) T.n_int (by decide +kernel) (pa_cons (pv 16) pa_nil)) pe_int) (fun _ _ => rfl)))))))
      (pss_cons (ps_setLc (i := 4) (own := [("_law_k", 16)]) (g := gName 16) (tt := tYes) rfl sc_law.nd rfl rfl (sw_true rfl rfl rfl (by decide +kernel)) (pi_range1 rfl T.n_range (pa_cons (pe_callB k_len (by rfl) T.n_len (by decide +kernel) (pa_cons (pv 3) pa_nil)) pa_nil)) (blkOk_by (N := ["_law_script", "_law_way", "_law_options", "_law_sizes", "_law_variables", "_law_count", "_law_blocks", "_law_at", "_law_rounds", "_law_table", "_law_size_of", "_law_pair", "_law_on", "_law_paid", "_law_block", "_law_actual", "_law_k"]) (sc := defScope s_law) (by decide +kernel)) (fun _ _ _ _ _ => (pg_name (i := 16) sc_law.nd rfl (Or.inl rfl))) (fun _ _ _ _ _ => by exact pts_nil) (fun _ _ _ _ _ => by exact (pe_tup (pa_cons (pe_ix ix_str pe_str (pv 16) (fun _ _ => rfl)) (pa_cons (pe_ix (ix_listK (K := K) rfl) (pv 3) (pv 16) (fun _ _ => rfl)) pa_nil)))))
      (pss_cons (ps_set (i := 5) sc_law.nd rfl (Or.inl rfl) (pe_op op_add pe_int (pe_op op_mod (pe_op op_fdiv (pv 1) pe_int) pe_int)))
      (pss_cons (ps_set (i := 6) sc_law.nd rfl (Or.inr rfl) (pe_lc (own := [("_law_k", 16)]) (g := gName 16) (tt := tYes) rfl sc_law.nd (pi_range1 rfl T.n_range (pa_cons (pv 5) pa_nil)) (blkOk_by (N := ["_law_script", "_law_way", "_law_options", "_law_sizes", "_law_variables", "_law_count", "_law_blocks", "_law_at", "_law_rounds", "_law_table", "_law_size_of", "_law_pair", "_law_on", "_law_paid", "_law_block", "_law_actual", "_law_k"]) (sc := defScope s_law) (by decide +kernel)) (fun _ _ _ _ _ => (pg_name (i := 16) sc_law.nd rfl (Or.inl rfl))) (fun _ _ _ _ _ => by exact pts_nil) (fun _ _ _ _ _ => by exact (pe_lst pa_nil))))
      (pss_cons (ps_for PassesOwn.never rfl (pi_range2 rfl T.n_range (pa_cons pe_int (pa_cons (pe_callB k_len (by rfl) T.n_len (by decide +kernel) (pa_cons (pv 0) pa_nil)) pa_nil))) (pg_name (i := 7) sc_law.nd rfl (Or.inl rfl))
        (pss_one (ps_expr (pe_bm PySem.F.plainAttrs_list PySem.F.slot_list_append PySem.F.type_list_append mt_append (pe_ix ix_list (pv 6) (pe_op op_fdiv (pe_op op_mul (pe_op op_sub (pv 7) pe_int) (pv 5)) (pe_callB (k_max2 rfl) (by rfl) T.n_max (by decide +kernel) (pa_cons pe_int (pa_cons (pe_op op_sub (pe_callB k_len (by rfl) T.n_len (by decide +kernel) (pa_cons (pv 0) pa_nil)) pe_int) pa_nil)))) (fun _ _ => rfl)) (pa_cons (pe_call (G__law_statement T) (hr.mono (by decide)) rfl T.m__law_statement T.F__law_statement.kp T.b__law_statement .nil pass0 (pa_cons (pe_ix ix_list (pv 0) (pv 7) (fun _ _ => rfl)) (pa_cons (pv 4) (pa_cons (pv 2) pa_nil)))) pa_nil)))))
      (pss_cons (ps_setLc (i := 8) (own := [("_law_k", 16)]) (g := gName 16) (tt := tYes) rfl sc_law.nd rfl rfl (sw_true rfl rfl rfl (by decide +kernel)) (pi_range1 rfl T.n_range (pa_cons (pv 5) pa_nil)) (blkOk_by (N := ["_law_script", "_law_way", "_law_options", "_law_sizes", "_law_variables", "_law_count", "_law_blocks", "_law_at", "_law_rounds", "_law_table", "_law_size_of", "_law_pair", "_law_on", "_law_paid", "_law_block", "_law_actual", "_law_k"]) (sc := defScope s_law) (by decide +kernel)) (fun _ _ _ _ _ => (pg_name (i := 16) sc_law.nd rfl (Or.inl rfl))) (fun _ _ _ _ _ => by exact pts_nil) (fun _ _ _ _ _ => by exact (pe_tup (pa_cons (pe_op o_add_str pe_str (pe_callTy k_str_int (by rfl) T.n_str (by decide +kernel) (pa_cons (pv 16) pa_nil))) (pa_cons (pe_callTy (k_tupGK (K := K) rfl) (by rfl) T.n_tuple (by decide +kernel) (pa_cons (pe_ix (ix_listK (K := K) rfl) (pv 6) (pv 16) (fun _ _ => rfl)) pa_nil)) pa_nil)))))
      (pss_cons (ps_set (i := 9) sc_law.nd rfl (Or.inl rfl) pe_dnewK)
      (pss_cons (ps_set (i := 10) sc_law.nd rfl (Or.inl rfl) pe_dnewK)
      (pss_cons (ps_for PassesOwn.never rfl (pi_list (pv 4)) (pg_name (i := 11) sc_law.nd rfl (Or.inl rfl))
        (pss_cons (ps_dput (hu_of hr) (pv 9) (pe_ix ix_tup (pv 11) pe_int (fun _ _ => rfl)) pe_int rfl)
      (pss_one (ps_dput (hu_of hr) (pv 10) (pe_ix ix_tup (pv 11) pe_int (fun _ _ => rfl)) (pe_ix ix_tup (pv 11) pe_int (fun _ _ => rfl)) rfl))))
      (pss_cons (ps_set (i := 12) sc_law.nd rfl (Or.inl rfl) pe_dnewK)
      (pss_cons (ps_for PassesOwn.never rfl (pi_list (pv 2)) (pg_name (i := 11) sc_law.nd rfl (Or.inl rfl))
        (pss_one (ps_dput (hu_of hr) (pv 12) (pe_ix ix_tup (pv 11) pe_int (fun _ _ => rfl)) (pe_ix ix_tup (pv 11) pe_int (fun _ _ => rfl)) rfl)))
      (pss_cons (ps_set (i := 13) sc_law.nd rfl (Or.inl rfl) pe_int)
      (pss_cons (ps_for PassesOwn.never rfl (pi_list (pv 6)) (pg_name (i := 14) sc_law.nd rfl (Or.inl rfl))
        (pss_one (ps_set (i := 13) sc_law.nd rfl (Or.inl rfl) (pe_call (R__law_run T 2) (hr.mono (by decide)) rfl T.m__law_run T.F__law_run.kp T.b__law_run .nil pass0 (pa_cons (pv 14) (pa_cons (pv 9) (pa_cons (pv 10) (pa_cons (pv 12) (pa_cons (pv 13) pa_nil)))))))))
      (pss_cons (ps_set (i := 15) sc_law.nd rfl (Or.inl rfl) (pe_call (G_tree_of T) (hr.mono (by decide)) rfl T.m_tree_of T.F_tree_of.kp T.b_tree_of .nil passL (pa_cons (pe_make T.mk_Game (G_Game___init__ T) (hr.mono (by decide)) rfl T.m_Game T.b_Game___init__ .nil pass0 (pa_cons (pe_callTy k_tupG (by rfl) T.n_tuple (by decide +kernel) (pa_cons (pv 2) pa_nil)) (pa_cons (pe_callTy k_tupG (by rfl) T.n_tuple (by decide +kernel) (pa_cons (pv 4) pa_nil)) (pa_cons (pe_callTy k_tupG (by rfl) T.n_tuple (by decide +kernel) (pa_cons (pv 8) pa_nil)) pa_nil)))) pa_nil)))
      (pss_one (ps_ret (pe_and (pe_callB call_isi (by rfl) T.n_isinstance (by decide +kernel) (pa_cons (pv 15) (pa_cons (pe_glob (v := .ref A.c_End) rfl T.m_End rfl) pa_nil))) (pe_and (pe_call (G__law_is_integer T) (hr.mono (by decide)) rfl T.m__law_is_integer T.F__law_is_integer.kp T.b__law_is_integer .nil pass0 (pa_cons (pe_fld (pv 15) rfl) pa_nil)) (pe_one (pe_cmpR op_eq (pe_fld (pv 15) rfl) (pv 13) (nomark _))))))))))))))))))))))), ?_⟩
    try dsimp only [cxOf, Cx.nox, Cx.wish]
    walk_at "go"
    refine ⟨a, ns, 0, rfl, hs, Int.le_refl _, ?_⟩
    walk_at "go"
    generalize ns.getD (Int.toNat 0) 0 = c at *
    have m0 := Int.emod_nonneg c (b := 4) (by decide)
    have m1 := Int.emod_lt_of_pos c (b := 4) (by decide)
    obtain ⟨m, hm⟩ : ∃ m : Nat, c % 4 = (m : Int) := ⟨(c % 4).toNat, by omega⟩
    have hm3 : m ≤ 3 := by omega
    rw [hm]
    have f0 : ∃ f : Nat → Bool, f = fun k : Nat => decide (c / 7 / ((k : Int) + 2) % 2 = 1) := ⟨_, rfl⟩
    obtain ⟨f, hf⟩ := f0
    refine lcRI (by omega) (fun _ => rfl) fun O hO => ?_
    refine ⟨fun i H' => Same H H' ∧ ∃ ys : List V, ys.length = i ∧ H' O = some (.lst ys) ∧ DpAll K H' ys (osL (opsN f i)), ⟨same_new hO, [], rfl, upd_same, .nil⟩, ?_, ?_⟩
    · rintro i H1 hi ⟨s1, ys, yl, eO, dy⟩
      have hi : i < m := by omega
      walk_at "go"
      refine go_str_int (num_log (by omega)) ?_
      have h2 := num_len (i := i) (by omega)
      have h3 : (Str.ofString "opt").length = 3 := by decide +kernel
      walk_at "go"
      refine go_addS (sz (by omega)) ?_
      rw [num_nm]
      walk_at "go"
      refine ⟨by show 2 ≤ sizeLine; decide, fun t nt => ?_⟩
      have ef : decide (c / 7 / ((i : Int) + 2) % 2 = 1) = f i := by rw [hf]
      rw [ef]
      have u := same_new (o := HO.tup [.str (nmO i), .bl (f i)]) nt
      have d7 : Dp K (upd H1 t (.tup [.str (nmO i), .bl (f i)])) (.ref t) (.tuple [.str (nmO i), .bool (f i)]) := .tup (.inl (.inl upd_same)) (.cons (.str _) (.cons (.bl _) .nil))
      have eO7 := u _ _ eO
      have dy7 := dpAll_same u _ _ dy
      have s7 := s1.trans u
      refine ⟨_, eO7, szlt (by omega), same_mut s7 hO, _, by rw [List.length_append, List.length_singleton, yl], upd_same, dpAll_put eO7 _ _ (osL_noL _) ?_⟩
      rw [opsN_succ]
      exact dpAll_snoc dy7 d7
    rintro H1 ⟨s1, ys, yl, eO, dy⟩
    rw [Int.toNat_natCast] at yl dy
    walk_at "go"
    have p0 := Int.emod_nonneg (c / 4) (b := 6) (by decide)
    have p1 := Int.emod_lt_of_pos (c / 4) (b := 6) (by decide)
    obtain ⟨m2, hm2⟩ : ∃ m2 : Nat, c / 4 % 6 = (m2 : Int) := ⟨(c / 4 % 6).toNat, by omega⟩
    rw [hm2]
    refine lcRI (by omega) (fun _ => rfl) fun Z hZ => ?_
    refine ⟨fun i H' => Same H1 H' ∧ ∃ zs : List Int, zs.length = i ∧ H' Z = some (.lst (zs.map V.int)) ∧ ∀ z ∈ zs, 1 ≤ z ∧ z ≤ 65535, ⟨same_new hZ, [], rfl, upd_same, fun z h => by cases h⟩, ?_, ?_⟩
    · rintro i H2 hi ⟨s2, zs, zl, eZ, hzs⟩
      walk_at "go"
      refine ⟨a, ns, 1, rfl, (s1.trans s2).seq hs, by decide, ?_⟩
      walk_at "go"
      refine ⟨by show 3 ≤ sizeLine; decide, fun t nt => ?_⟩
      have u := same_new (o := HO.tup [.int 7, .int 65535, .int 2]) nt
      have e5 : upd H2 t (.tup [.int 7, .int 65535, .int 2]) t = some (.tup [.int 7, .int 65535, .int 2]) := upd_same
      have eZ3 := u _ _ eZ
      have s3 := s2.trans u
      generalize upd H2 t (.tup [.int 7, .int 65535, .int 2]) = H3 at *
      walk_at "go"
      obtain ⟨v, hv, v1, v2⟩ : ∃ v : Int, atI [V.int 7, .int 65535, .int 2] ((i : Int) % 3) = some (.int v) ∧ 1 ≤ v ∧ v ≤ 65535 := by
        rcases (by omega : (i : Int) % 3 = (0 : Nat) ∨ (i : Int) % 3 = (1 : Nat) ∨ (i : Int) % 3 = (2 : Nat)) with e | e | e <;> rw [e]
        · exact ⟨7, atI_nat rfl, by decide, by decide⟩
        · exact ⟨65535, atI_nat rfl, by decide, by decide⟩
        · exact ⟨2, atI_nat rfl, by decide, by decide⟩
      refine go_ixT (.of e5) hv ?_
      walk_at "go"
      have r0 := Int.emod_nonneg (ns.getD (Int.toNat 1) 0 / ((i : Int) + 1)) (b := v) (by omega)
      have r1 := Int.emod_lt_of_pos (ns.getD (Int.toNat 1) 0 / ((i : Int) + 1)) (b := v) (by omega)
      generalize ns.getD (Int.toNat 1) 0 / ((i : Int) + 1) % v = w at *
      refine ⟨_, eZ3, szlt (by rw [List.length_map]; omega), same_mut s3 hZ, zs ++ [1 + w], by rw [List.length_append, List.length_singleton, zl], by rw [upd_same, List.map_append]; rfl, fun z hz => ?_⟩
      rcases List.mem_append.mp hz with hz | hz
      · exact hzs z hz
      · rw [List.mem_singleton.mp hz]
        omega
    rintro H2 ⟨s2, zs, zl, eZ, hzs⟩
    rw [Int.toNat_natCast] at zl
    walk_at "go"
    refine go_lenL (.of eZ) ?_
    rw [List.length_map]
    walk_at "go"
    refine lcRI (by omega) (fun _ => rfl) fun W hW => ?_
    refine ⟨fun i H' => Same H2 H' ∧ ∃ ws : List V, ws.length = i ∧ H' W = some (.lst ws) ∧ DpAll K H' ws (vsL (vrsN zs i)), ⟨same_new hW, [], rfl, upd_same, .nil⟩, ?_, ?_⟩
    · rintro i H3 hi ⟨s3, ws, wl, eW, dw⟩
      have hi : i < zs.length := by omega
      have ez : zs[i]? = some zs[i] := List.getElem?_eq_getElem hi
      have ezd : zs.getD i 0 = zs[i] := by rw [List.getD_eq_getElem?_getD, ez]; rfl
      have ei := vrsN_succ zs i
      rw [ezd] at ei
      generalize zs[i] = z at *
      walk_at "go"
      refine go_nm5 (by omega) ?_
      walk_at "go"
      refine go_ixL (.of (s3 _ _ eZ)) (at_nat (by rw [List.getElem?_map, ez]; rfl)) ?_
      walk_at "go"
      refine ⟨by show 2 ≤ sizeLine; decide, fun t nt => ?_⟩
      have u := same_new (o := HO.tup [.str (nmV i), .int z]) nt
      have d7 : Dp K (upd H3 t (.tup [.str (nmV i), .int z])) (.ref t) (.tuple [.str (nmV i), .int z]) := .tup (.inl (.inl upd_same)) (.cons (.str _) (.cons (.int _) .nil))
      have eW7 := u _ _ eW
      have dw7 := dpAll_same u _ _ dw
      have s7 := s3.trans u
      refine ⟨_, eW7, szlt (by omega), same_mut s7 hW, _, by rw [List.length_append, List.length_singleton, wl], upd_same, dpAll_put eW7 _ _ (vsL_noL _) ?_⟩
      rw [ei]
      exact dpAll_snoc dw7 d7
    rintro H3 ⟨s3, ws, wl, eW, dw⟩
    rw [Int.toNat_natCast] at wl dw
    walk_at "go"
    have q0 := Int.emod_nonneg (c / 24) (b := 3) (by decide)
    have q1 := Int.emod_lt_of_pos (c / 24) (b := 3) (by decide)
    obtain ⟨n, hn⟩ : ∃ n : Nat, 1 + c / 24 % 3 = (n : Int) := ⟨(1 + c / 24 % 3).toNat, by omega⟩
    have hn3 : 1 ≤ n ∧ n ≤ 3 := by omega
    rw [hn]
    have s03 := s1.trans (s2.trans s3)
    refine lcRI (by omega) (fun _ => rfl) fun B hB => ?_
    refine ⟨fun i H' => Same H3 H' ∧ ∃ ls : List Addr, H' B = some (.lst (ls.map V.ref)) ∧ BlkAt K H3 H' ls (List.replicate i []) 0 ∧ ∀ l ∈ ls, l ≠ B, ⟨same_new hB, [], upd_same, ⟨rfl, .nil, fun j l b h => by simp at h⟩, fun l h => by cases h⟩, ?_, ?_⟩
    · rintro i H4 hi ⟨s4, ls, eB, hbk, hne⟩
      have ll := hbk.n
      rw [List.length_replicate] at ll
      walk_at "go"
      refine ⟨by show 0 ≤ sizeLine; decide, fun l nl => ?_⟩
      have u := same_new (o := HO.lst []) nl
      have eB5 := u _ _ eB
      have lB : l ≠ B := fun z => by rw [z, eB] at nl; cases nl
      have hne5 : ∀ x ∈ ls ++ [l], x ≠ B := fun x hx => by
        rcases List.mem_append.mp hx with hx | hx
        · exact hne x hx
        · rw [List.mem_singleton.mp hx]; exact lB
      refine ⟨_, eB5, szlt (by rw [List.length_map]; omega), same_mut (s4.trans u) hB, ls ++ [l], by rw [upd_same, List.map_append]; rfl, ?_, hne5⟩
      rw [List.replicate_succ']
      exact (hbk.snoc s4 nl).put eB5 hne5
    rintro H4 ⟨s4, ls, eB, hbk, hne⟩
    rw [Int.toNat_natCast] at hbk
    walk_at "go"
    refine go_lenL ((s03.trans s4).seq hs) ?_
    rw [List.length_map]
    walk_at "go"
    refine foR2 (l := 2) (n := (ns.length : Int)) (fun i σ' H' => ∃ (v7 : Option V) (bs : List (List Stm)), σ' = [some (.ref a), some (.int c), some (.ref O), some (.ref Z), some (.ref W), some (.int (n : Nat)), some (.ref B), v7, none, none, none, none, none, none, none, none, none] ∧ bs.length = n ∧ Same H3 H' ∧ H' B = some (.lst (ls.map V.ref)) ∧ BlkAt K H3 H' ls bs i ∧ ∀ b ∈ bs, ∀ s ∈ b, StN ((vrsN zs zs.length).map (·.1)) ((opsN f m).map (·.1)) s) (by omega) ⟨_, _, rfl, List.length_replicate .., s4, eB, hbk, fun b hb s hs => by rw [(List.mem_replicate.mp hb).2] at hs; cases hs⟩ ?_ ?_
    · rintro i σ' H5 hi ⟨v7, bs, rfl, bl, s5, eB5, hbk5, hst⟩
      have hm := mul3 (i := i) (n := n) (by omega) hn3.2
      walk_at "go"
      refine go_lenL ((s03.trans s5).seq hs) ?_
      rw [List.length_map]
      walk_at "go"
      rw [show (if (ns.length : Int) - 2 > 1 then (ns.length : Int) - 2 else 1) = (ns.length : Int) - 2 by split <;> omega, show (2 : Int) + i - 2 = i by omega]
      walk_at "go"
      have j0 : 0 ≤ (i : Int) * n / ((ns.length : Int) - 2) := Int.ediv_nonneg hm.1 (by omega)
      have j1 : (i : Int) * n / ((ns.length : Int) - 2) < n := by
        refine Int.ediv_lt_of_lt_mul (by omega) ?_
        rw [Int.mul_comm (n : Int)]
        exact Int.mul_lt_mul_of_pos_right (by omega) (by omega)
      obtain ⟨j, hj⟩ : ∃ j : Nat, (i : Int) * n / ((ns.length : Int) - 2) = (j : Int) := ⟨((i : Int) * n / ((ns.length : Int) - 2)).toNat, by omega⟩
      rw [hj]
      have hjn : j < n := by omega
      have hll := hbk5.n
      have e1 : ls[j]? = some ls[j] := List.getElem?_eq_getElem (by omega)
      have e2 : bs[j]? = some bs[j] := List.getElem?_eq_getElem (by omega)
      have hstj := hst _ (List.mem_of_getElem? e2)
      generalize ls[j] = l0 at *
      generalize bs[j] = b0 at *
      obtain ⟨nl0, bx, el0, dl0, bl0⟩ := hbk5.f j l0 b0 e1 e2
      have bxl := dpAll_len dl0
      rw [stDs_len] at bxl
      have l0B := hne l0 (List.mem_of_getElem? e1)
      refine go_ixL (.of eB5) (at_nat (by rw [List.getElem?_map, e1]; rfl)) ?_
      walk_at "go"
      refine ⟨.inl ⟨rfl, _, .inl (.inl el0)⟩, ?_⟩
      walk_at "go"
      refine go_ixL ((s03.trans s5).seq hs) (at_int (by omega) (by omega)) ?_
      walk_at "go"
      refine ⟨_, W, O, ws, ys, vrsN zs zs.length, opsN f m, rfl, s5 _ _ eW, dpAll_same s5 _ _ (by rw [← zl] at *; exact dw), s5 _ _ (s3 _ _ (s2 _ _ eO)), dpAll_same (s2.trans (s3.trans s5)) _ _ dy, fun s t H6 s6 st6 d6 => ?_⟩
      walk_at "go"
      refine go_append (s6 _ _ el0) (szlt (by omega)) ?_
      walk_at "go"
      refine ⟨_, bs.set j (b0 ++ [s]), rfl, by rw [List.length_set]; exact bl, same_mut (s5.trans s6) nl0, by rw [upd_ne (Ne.symm l0B)]; exact s6 _ _ eB5, (hbk5.same s6).app e1 e2 (s6 _ _ el0) (dpAll_same s6 _ _ dl0) d6, fun b hb x hx => ?_⟩
      rcases List.mem_or_eq_of_mem_set hb with hb | rfl
      · exact hst b hb x hx
      · rcases List.mem_append.mp hx with hx | hx
        · exact hstj x hx
        · rw [List.mem_singleton.mp hx]
          exact st6
    rintro σ' H5 ⟨v7, bs, rfl, bl, s5, eB5, hbk5, hst⟩
    walk_at "go"
    have hll := hbk5.n
    refine lcRI (by omega) (fun _ => rfl) fun R hR => ?_
    refine ⟨fun i H' => Same H5 H' ∧ ∃ rx : List V, rx.length = i ∧ H' R = some (.lst rx) ∧ DpAll K H' rx (rdL (rsN bs i)), ⟨same_new hR, [], rfl, upd_same, .nil⟩, ?_, ?_⟩
    · rintro i H6 hi ⟨s6, rx, rl, eR, dr⟩
      have hi : i < n := by omega
      have e1 : ls[i]? = some ls[i] := List.getElem?_eq_getElem (by omega)
      have e2 : bs[i]? = some bs[i] := List.getElem?_eq_getElem (by omega)
      have ei := rsN_succ bs i
      rw [List.getD_eq_getElem?_getD, e2] at ei
      have ei : rdL (rsN bs (i + 1)) = rdL (rsN bs i) ++ [.tuple [.str (nmR i), .tuple (stDs bs[i])]] := ei
      generalize ls[i] = l0 at *
      generalize bs[i] = b0 at *
      obtain ⟨nl0, bx, el0, dl0, bl0⟩ := hbk5.f i l0 b0 e1 e2
      walk_at "go"
      refine go_str_int (num_log (by omega)) ?_
      have h2 := num_len (i := i) (by omega)
      have h3 : (Str.ofString "r").length = 1 := by decide +kernel
      walk_at "go"
      refine go_addS (sz (by omega)) ?_
      rw [num_nm]
      walk_at "go"
      refine go_ixL (.of (s6 _ _ eB5)) (at_nat (by rw [List.getElem?_map, e1]; rfl)) ?_
      walk_at "go"
      refine go_tupGL (.of (s6 _ _ el0)) fun v H7 nv u7 kv => ?_
      walk_at "go"
      refine ⟨by show 2 ≤ sizeLine; decide, fun t nt => ?_⟩
      have u := same_new (o := HO.tup [.str (nmR i), .ref v]) nt
      have d7 : Dp K (upd H7 t (.tup [.str (nmR i), .ref v])) (.ref t) (.tuple [.str (nmR i), .tuple (stDs b0)]) := .tup (.inl (.inl upd_same)) (.cons (.str _) (.cons (.tup (kv.same u).sq (dpAll_same (s6.trans (u7.trans u)) _ _ dl0)) .nil))
      have eR7 := u _ _ (u7 _ _ eR)
      have dr7 := dpAll_same (u7.trans u) _ _ dr
      have s7 := s6.trans (u7.trans u)
      refine ⟨_, eR7, szlt (by omega), same_mut s7 hR, _, by rw [List.length_append, List.length_singleton, rl], upd_same, dpAll_put eR7 _ _ (rdL_noL _) ?_⟩
      rw [ei]
      exact dpAll_snoc dr7 d7
    rintro H6 ⟨s6, rx, rl, eR, dr⟩
    rw [Int.toNat_natCast] at rl dr
    walk_at "go"
    intro Tb nTb
    have uT := same_new (o := HO.dK []) nTb
    have eT : upd H6 Tb (.dK []) Tb = some (.dK []) := upd_same
    generalize upd H6 Tb (.dK []) = H7 at *
    walk_at "go"
    intro Sz nS
    have uS := same_new (o := HO.dK []) nS
    have eS : upd H7 Sz (.dK []) Sz = some (.dK []) := upd_same
    have eT8 := uS _ _ eT
    have TS : Tb ≠ Sz := fun z => by rw [← z, eT] at nS; cases nS
    generalize upd H7 Sz (.dK []) = H8 at *
    have nS6 : H6 Sz = none := uT.free nS
    have vnd : ((vrsN zs zs.length).map (·.1)).Nodup := by rw [vrsN_keys]; exact nmV_nd _
    have ond : ((opsN f m).map (·.1)).Nodup := by rw [opsN_keys]; exact nmO_nd hm3
    have vlen : (vrsN zs zs.length).length = zs.length := by unfold vrsN; rw [List.length_map, List.length_range]
    have olen : (opsN f m).length = m := by unfold opsN; rw [List.length_map, List.length_range]
    have s36 := s5.trans s6
    have eW6 := s36 _ _ eW
    have dw6 := dpAll_same s36 _ _ dw
    have eO6 := (s2.trans (s3.trans s36)) _ _ eO
    have dy6 := dpAll_same (s2.trans (s3.trans s36)) _ _ dy
    walk_at "go"
    refine foL ws (fun i σ' H' => ∃ (v11 : Option V), σ' = [some (.ref a), some (.int c), some (.ref O), some (.ref Z), some (.ref W), some (.int (n : Nat)), some (.ref B), v7, some (.ref R), some (.ref Tb), some (.ref Sz), v11, none, none, none, none, none] ∧ Same H6 H' ∧ H' Tb = some (.dK (((vrsN zs zs.length).take i).map fun p => ((.inr p.1, .int 0) : Key × V))) ∧ H' Sz = some (.dK (((vrsN zs zs.length).take i).map fun p => ((.inr p.1, .int p.2) : Key × V)))) ⟨_, rfl, uT.trans uS, eT8, eS⟩ ?_ ?_ ?_
    · rintro i σ' H' _ ⟨v11, rfl, s, _⟩
      exact .of (s _ _ eW6)
    · rintro i x σ' H9 hx ⟨v11, rfl, s9, eT9, eS9⟩
      have hi := (List.getElem?_eq_some_iff.mp hx).1
      obtain ⟨p, ep⟩ : ∃ p, (vrsN zs zs.length)[i]? = some p := ⟨_, List.getElem?_eq_getElem (by omega)⟩
      obtain ⟨x', hx', dx⟩ := dpAll_get (dpAll_same s9 _ _ dw6) (i := i) (d := .tuple [.str p.1, .int p.2]) (by unfold vsL; rw [List.getElem?_map, ep]; rfl)
      rw [hx] at hx'
      cases hx'
      obtain ⟨pa, px, rfl, ha, hp⟩ := dp_tup dx
      obtain ⟨y1, y2, rfl, d1, d2⟩ := dp2 hp
      cases dpS d1
      cases dpI d2
      walk_at "go"
      refine go_dputS eT9 (by rw [List.length_map, List.length_take]; omega) ?_
      rw [fill_put (g := fun _ => V.int 0) vnd ep]
      have b9 : But Tb H9 (upd H9 Tb (.dK (((vrsN zs zs.length).take (i + 1)).map fun p => ((.inr p.1, .int 0) : Key × V)))) := (But.refl _ _).upd
      have ha := sqT_butD eT9 b9 ha
      have eS10 := b9 _ _ (Ne.symm TS) eS9
      have s10 := same_butF s9 nTb b9
      have eT10 : upd H9 Tb (.dK (((vrsN zs zs.length).take (i + 1)).map fun p => ((.inr p.1, .int 0) : Key × V))) Tb = some (.dK (((vrsN zs zs.length).take (i + 1)).map fun p => ((.inr p.1, .int 0) : Key × V))) := upd_same
      generalize upd H9 Tb (.dK (((vrsN zs zs.length).take (i + 1)).map fun p => ((.inr p.1, .int 0) : Key × V))) = H10 at *
      walk_at "go"
      refine go_dputS eS10 (by rw [List.length_map, List.length_take]; omega) ?_
      rw [fill_put (g := fun p => V.int p.2) vnd ep]
      walk_at "go"
      exact ⟨_, rfl, same_butF s10 nS6 (But.refl _ _).upd, by rw [upd_ne TS]; exact eT10, upd_same⟩
    rintro σ' H9 ⟨v11, rfl, s9, eT9, eS9⟩
    rw [show ws.length = (vrsN zs zs.length).length by omega, List.take_length] at eT9 eS9
    walk_at "go"
    intro Nn nN
    have uN := same_new (o := HO.dK []) nN
    have eN : upd H9 Nn (.dK []) Nn = some (.dK []) := upd_same
    have TN : Tb ≠ Nn := fun z => by rw [← z, eT9] at nN; cases nN
    generalize upd H9 Nn (.dK []) = H10 at *
    walk_at "go"
    refine foL ys (fun i σ' H' => ∃ (v11 : Option V), σ' = [some (.ref a), some (.int c), some (.ref O), some (.ref Z), some (.ref W), some (.int (n : Nat)), some (.ref B), v7, some (.ref R), some (.ref Tb), some (.ref Sz), v11, some (.ref Nn), none, none, none, none] ∧ Same H9 H' ∧ H' Nn = some (.dK (((opsN f m).take i).map fun p => ((.inr p.1, .bl p.2) : Key × V)))) ⟨_, rfl, uN, eN⟩ ?_ ?_ ?_
    · rintro i σ' H' _ ⟨v11, rfl, s, _⟩
      exact .of (s _ _ (s9 _ _ eO6))
    · rintro i x σ' H11 hx ⟨v11, rfl, s11, eN11⟩
      have hi := (List.getElem?_eq_some_iff.mp hx).1
      obtain ⟨p, ep⟩ : ∃ p, (opsN f m)[i]? = some p := ⟨_, List.getElem?_eq_getElem (by omega)⟩
      obtain ⟨x', hx', dx⟩ := dpAll_get (dpAll_same (s9.trans s11) _ _ dy6) (i := i) (d := .tuple [.str p.1, .bool p.2]) (by unfold osL; rw [List.getElem?_map, ep]; rfl)
      rw [hx] at hx'
      cases hx'
      obtain ⟨pa, px, rfl, ha, hp⟩ := dp_tup dx
      obtain ⟨y1, y2, rfl, d1, d2⟩ := dp2 hp
      cases dpS d1
      cases d2
      walk_at "go"
      refine go_dputS eN11 (by rw [List.length_map, List.length_take]; omega) ?_
      rw [fill_put (g := fun p => V.bl p.2) ond ep]
      walk_at "go"
      exact ⟨_, rfl, same_butF s11 nN (But.refl _ _).upd, upd_same⟩
    rintro σ' H11 ⟨v11, rfl, s11, eN11⟩
    rw [show ys.length = (opsN f m).length by omega, List.take_length] at eN11
    have eT11 := s11 _ _ eT9
    have eS11 := s11 _ _ eS9
    have s611 := s9.trans s11
    walk_at "go"
    have htab : TabOk H11 Tb ((vrsN zs zs.length).map (·.1)) (fun _ => 0) := tab_fill (g := fun _ => 0) (by omega) eT11 fun x p h => ⟨rfl, by decide, by decide⟩
    have hsz : TabOk H11 Sz ((vrsN zs zs.length).map (·.1)) (szOf (vrsN zs zs.length)) := tab_fill (g := fun p => p.2) (by omega) eS11 fun x p h => by have := sz_bd hzs h; omega
    have hon : OnOk H11 Nn ((opsN f m).map (·.1)) (onG (opsN f m)) := on_fill (by omega) eN11
    have hpos : ∀ x ∈ (vrsN zs zs.length).map (·.1), 1 ≤ szOf (vrsN zs zs.length) x := fun x hx => by
      obtain ⟨p, hf, _⟩ := find_mem hx
      have := sz_bd hzs hf
      omega
    have BT : B ≠ Tb := fun z => by have h := s611 _ _ (s6 _ _ eB5); rw [z, eT11] at h; cases h
    have eB11 := s611 _ _ (s6 _ _ eB5)
    have hbk11 := hbk5.same (s6.trans s611)
    refine foL (ls.map V.ref) (fun i σ' H' => ∃ (v14 : Option V), σ' = [some (.ref a), some (.int c), some (.ref O), some (.ref Z), some (.ref W), some (.int (n : Nat)), some (.ref B), v7, some (.ref R), some (.ref Tb), some (.ref Sz), v11, some (.ref Nn), some (.int (runR ⟨szOf (vrsN zs zs.length), onG (opsN f m)⟩ (bs.take i) (fun _ => 0, 0)).2), v14, none, none] ∧ But Tb H11 H' ∧ TabOk H' Tb ((vrsN zs zs.length).map (·.1)) (runR ⟨szOf (vrsN zs zs.length), onG (opsN f m)⟩ (bs.take i) (fun _ => 0, 0)).1) ⟨_, rfl, But.refl _ _, htab⟩ ?_ ?_ ?_
    · rintro i σ' H' _ ⟨v14, rfl, b, _⟩
      exact .of (b _ _ BT eB11)
    · rintro i x σ' H12 hx ⟨v14, rfl, b12, ht12⟩
      have hi := (List.getElem?_eq_some_iff.mp hx).1
      rw [List.length_map] at hi
      have e1 : ls[i]? = some ls[i] := List.getElem?_eq_getElem (by omega)
      have e2 : bs[i]? = some bs[i] := List.getElem?_eq_getElem (by omega)
      have hstj := hst _ (List.mem_of_getElem? e2)
      rw [List.getElem?_map, e1] at hx
      generalize ls[i] = l0 at *
      rw [runR_snoc e2]
      generalize bs[i] = b0 at *
      cases hx
      obtain ⟨nl0, bx, el0, dl0, bl0⟩ := hbk11.f i l0 b0 e1 e2
      have l0T : l0 ≠ Tb := fun z => by rw [z, eT11] at el0; cases el0
      generalize runR ⟨szOf (vrsN zs zs.length), onG (opsN f m)⟩ (bs.take i) (fun _ => 0, 0) = X at *
      obtain ⟨tab1, p1⟩ := X
      walk_at "go"
      refine ⟨l0, Tb, Sz, Nn, p1, b0, bx, true, _, _, ⟨szOf (vrsN zs zs.length), onG (opsN f m)⟩, tab1, rfl, .of (b12 _ _ l0T el0), dpAll_butD eT11 b12 _ _ dl0, run2 hstj, ht12, (let ⟨kv, a, r⟩ := hsz; ⟨kv, b12 _ _ (Ne.symm TS) a, r⟩), hpos, (let ⟨kv, a, r⟩ := hon; ⟨kv, b12 _ _ (Ne.symm TN) a, r⟩), TS, TN, fun H13 b13 ht13 => ?_⟩
      walk_at "go"
      exact ⟨_, rfl, b12.trans b13, ht13⟩
    rintro σ' H12 ⟨v14, rfl, b12, ht12⟩
    rw [List.length_map, show ls.length = bs.length by omega, List.take_length] at ht12
    rw [List.length_map, show ls.length = bs.length by omega, List.take_length]
    clear ht12
    have ne : ∀ x xs, H6 x = some (.lst xs) → x ≠ Tb := fun x xs h z => by rw [z, nTb] at h; cases h
    have eO12 := b12 _ _ (ne O _ eO6) (s611 _ _ eO6)
    have dy12 := dpAll_butD eT11 b12 _ _ (dpAll_same s611 _ _ dy6)
    have eW12 := b12 _ _ (ne W _ eW6) (s611 _ _ eW6)
    have dw12 := dpAll_butD eT11 b12 _ _ (dpAll_same s611 _ _ dw6)
    have eR12 := b12 _ _ (ne R _ eR) (s611 _ _ eR)
    have dr12 := dpAll_butD eT11 b12 _ _ (dpAll_same s611 _ _ dr)
    have bl3 : bs.length ≤ 3 := by omega
    rw [← bl] at dr12
    obtain ⟨g1, g2, g3⟩ := gm30_ok (f := f) (m1 := m) (zs := zs) (bs := bs) hm3 (by omega) hzs bl3 (fun b hb => ⟨hst b hb, by
      obtain ⟨j, hj⟩ := List.mem_iff_getElem?.mp hb
      have hj2 := (List.getElem?_eq_some_iff.mp hj).1
      obtain ⟨_, _, _, _, h⟩ := hbk5.f j _ b (List.getElem?_eq_getElem (l := ls) (by omega)) hj
      omega⟩)
    have hbt := build30 (f := f) (m1 := m) (zs := zs) (bs := bs) hst
    generalize (runR ⟨szOf (vrsN zs zs.length), onG (opsN f m)⟩ bs (fun _ => 0, 0)).2 = pay at *
    walk_at "go"
    refine go_tupGL (.of eO12) fun o Ho no uo ko => ?_
    walk_at "go"
    refine go_tupGL (.of (uo _ _ eW12)) fun v Hv nv uv kv => ?_
    walk_at "go"
    refine go_tupGL (.of ((uo.trans uv) _ _ eR12)) fun r Hr nr ur kr => ?_
    walk_at "go"
    intro z dz hz hdz hne
    have u11 : Same Hr (upd (upd Hr dz (.own z)) z (.ins A.c_Game dz [])) := (same_new hdz).trans (same_new (by rw [upd_ne hne.symm]; exact hz))
    have w5 := ((uo.trans uv).trans ur).trans u11
    refine ⟨z, dz, o, v, r, ys, ws, rx, gm30 f m zs bs, rfl, upd_same, .inr (ko.same ((uv.trans ur).trans u11)), dpAll_same w5 _ _ dy12, .inr (kv.same (ur.trans u11)), dpAll_same w5 _ _ dw12, .inr (kr.same u11).sq, dpAll_same w5 _ _ dr12, fun H13 hg b13 => ⟨rfl, ?_⟩⟩
    walk_at "go"
    refine ⟨z, gm30 f m zs bs, rfl, hg, g1, g2, g3, fun tr tv H14 hb7 s14 ht => ?_, fun hb7 => ?_⟩
    · rw [hbt] at hb7
      obtain rfl := Option.some.inj hb7
      have iE := T.ic_End
      have cE := T.cl_End
      have nE := T.na_End_paid
      cases ht with
      | @fin ta dx p e =>
        walk_at "go"
        refine go_isi (.own _) (.base (.ins e cE iE.ha iE.hn iE.htk iE.hm)) T.ki_End_End ?_
        walk_at "go"
        refine ⟨_, rfl, ?_⟩
        walk_at "go"
        show Q (.bl (decide (_ = _))) H14
        rw [decide_eq_true rfl]
        exact q _
    · rw [hbt] at hb7
      cases hb7
end
end K30

set_option pp.maxSteps 60
namespace K30
open PySem L2 Gx
theorem all_mk {P : Program} {w : World} {K : PySem.W.Frag} {h : Heap} {mg : Str → Option Value} {f_combine f_value_of f_End___init__ f_Lot___init__ f_Turn___init__ f_Builder___init__ f_Builder_place f_Builder_node f_Builder_chosen f_Builder_stored f_Builder_branch f_shown f_chained f_tree_of f_Game___init__ f__law_cell f__law_is_integer f__law_leaf f__law_expression f__law_value f__law_plain f__law_statement f__law_run f_law c_End c_Lot c_Turn c_Builder c_Game c_TooLarge i_TooLarge : Addr} (X : K.In h) (G : h.Ns mainGlobals mg) {fa : Addr} (hfa : mg "law" = some (.ref fa))
    {oc_combine kV_combine dc_combine pm_combine cd_combine ct_combine : Value} {od_combine an_combine : Option Addr} {sl_combine : Array (Option Value)}
    {oc_value_of kV_value_of dc_value_of pm_value_of cd_value_of ct_value_of : Value} {od_value_of an_value_of : Option Addr} {sl_value_of : Array (Option Value)} {t_value_of : Addr} {tc_value_of : Value} {td_value_of : Option Addr} {tn_value_of : Nat} {ts_value_of : Array (Option Value)} 
    {oc_End___init__ kV_End___init__ dc_End___init__ pm_End___init__ cd_End___init__ ct_End___init__ : Value} {od_End___init__ an_End___init__ : Option Addr} {sl_End___init__ : Array (Option Value)}
    {oc_Lot___init__ kV_Lot___init__ dc_Lot___init__ pm_Lot___init__ cd_Lot___init__ ct_Lot___init__ : Value} {od_Lot___init__ an_Lot___init__ : Option Addr} {sl_Lot___init__ : Array (Option Value)}
    {oc_Turn___init__ kV_Turn___init__ dc_Turn___init__ pm_Turn___init__ cd_Turn___init__ ct_Turn___init__ : Value} {od_Turn___init__ an_Turn___init__ : Option Addr} {sl_Turn___init__ : Array (Option Value)}
    {oc_Builder___init__ kV_Builder___init__ dc_Builder___init__ pm_Builder___init__ cd_Builder___init__ ct_Builder___init__ : Value} {od_Builder___init__ an_Builder___init__ : Option Addr} {sl_Builder___init__ : Array (Option Value)}
    {oc_Builder_place kV_Builder_place dc_Builder_place pm_Builder_place cd_Builder_place ct_Builder_place : Value} {od_Builder_place an_Builder_place : Option Addr} {sl_Builder_place : Array (Option Value)}
    {oc_Builder_node kV_Builder_node dc_Builder_node pm_Builder_node cd_Builder_node ct_Builder_node : Value} {od_Builder_node an_Builder_node : Option Addr} {sl_Builder_node : Array (Option Value)}
    {oc_Builder_chosen kV_Builder_chosen dc_Builder_chosen pm_Builder_chosen cd_Builder_chosen ct_Builder_chosen : Value} {od_Builder_chosen an_Builder_chosen : Option Addr} {sl_Builder_chosen : Array (Option Value)}
    {oc_Builder_stored kV_Builder_stored dc_Builder_stored pm_Builder_stored cd_Builder_stored ct_Builder_stored : Value} {od_Builder_stored an_Builder_stored : Option Addr} {sl_Builder_stored : Array (Option Value)}
    {oc_Builder_branch kV_Builder_branch dc_Builder_branch pm_Builder_branch cd_Builder_branch ct_Builder_branch : Value} {od_Builder_branch an_Builder_branch : Option Addr} {sl_Builder_branch : Array (Option Value)}
    {oc_shown kV_shown dc_shown pm_shown cd_shown ct_shown : Value} {od_shown an_shown : Option Addr} {sl_shown : Array (Option Value)}
    {oc_chained kV_chained dc_chained pm_chained cd_chained ct_chained : Value} {od_chained an_chained : Option Addr} {sl_chained : Array (Option Value)}
    {oc_tree_of kV_tree_of dc_tree_of pm_tree_of cd_tree_of ct_tree_of : Value} {od_tree_of an_tree_of : Option Addr} {sl_tree_of : Array (Option Value)}
    {oc_Game___init__ kV_Game___init__ dc_Game___init__ pm_Game___init__ cd_Game___init__ ct_Game___init__ : Value} {od_Game___init__ an_Game___init__ : Option Addr} {sl_Game___init__ : Array (Option Value)}
    {oc__law_cell kV__law_cell dc__law_cell pm__law_cell cd__law_cell ct__law_cell : Value} {od__law_cell an__law_cell : Option Addr} {sl__law_cell : Array (Option Value)}
    {oc__law_is_integer kV__law_is_integer dc__law_is_integer pm__law_is_integer cd__law_is_integer ct__law_is_integer : Value} {od__law_is_integer an__law_is_integer : Option Addr} {sl__law_is_integer : Array (Option Value)}
    {oc__law_leaf kV__law_leaf dc__law_leaf pm__law_leaf cd__law_leaf ct__law_leaf : Value} {od__law_leaf an__law_leaf : Option Addr} {sl__law_leaf : Array (Option Value)}
    {oc__law_expression kV__law_expression dc__law_expression pm__law_expression cd__law_expression ct__law_expression : Value} {od__law_expression an__law_expression : Option Addr} {sl__law_expression : Array (Option Value)}
    {oc__law_value kV__law_value dc__law_value pm__law_value cd__law_value ct__law_value : Value} {od__law_value an__law_value : Option Addr} {sl__law_value : Array (Option Value)}
    {oc__law_plain kV__law_plain dc__law_plain pm__law_plain cd__law_plain ct__law_plain : Value} {od__law_plain an__law_plain : Option Addr} {sl__law_plain : Array (Option Value)}
    {oc__law_statement kV__law_statement dc__law_statement pm__law_statement cd__law_statement ct__law_statement : Value} {od__law_statement an__law_statement : Option Addr} {sl__law_statement : Array (Option Value)}
    {oc__law_run kV__law_run dc__law_run pm__law_run cd__law_run ct__law_run : Value} {od__law_run an__law_run : Option Addr} {sl__law_run : Array (Option Value)}
    {oc_law kV_law dc_law pm_law cd_law ct_law : Value} {od_law an_law : Option Addr} {sl_law : Array (Option Value)}
    {en_TooLarge eq_TooLarge : Str} {eN_TooLarge eG_TooLarge : Addr} {ebs_TooLarge : List Value} {esn_TooLarge : List Str} {esub_TooLarge : List Value} {eab_TooLarge : Bool} {ecol_TooLarge : Option Bool} {edd_TooLarge : Option Addr} {e0_TooLarge e1_TooLarge e2_TooLarge e3_TooLarge e5_TooLarge : Option Value}
    {xoc_TooLarge xdc_TooLarge xpm_TooLarge xct_TooLarge xcl_TooLarge xccl_TooLarge : Value} {xod_TooLarge xan_TooLarge xcld_TooLarge xcdd_TooLarge : Option Addr} {xda_TooLarge xcc_TooLarge : Addr} {xos_TooLarge xcs_TooLarge xccs_TooLarge : Array (Option Value)} {xvs_TooLarge : Array Value} {xfi_TooLarge : Str} {xtf_TooLarge : Tok} {kk_GREATEST : Tok} {kk_MOST_PLACES : Tok} {e_seen : Addr} {ed_seen : Option Addr} {en_seen : Nat} {es_seen : Array (Option Value)}
    (C_End : PySem.W.nsIn K mainGlobals "End" = some (some (.ref c_End)))
    (C_Lot : PySem.W.nsIn K mainGlobals "Lot" = some (some (.ref c_Lot)))
    (C_Turn : PySem.W.nsIn K mainGlobals "Turn" = some (some (.ref c_Turn)))
    (C_Builder : PySem.W.nsIn K mainGlobals "Builder" = some (some (.ref c_Builder)))
    (C_Game : PySem.W.nsIn K mainGlobals "Game" = some (some (.ref c_Game)))
    (g_combine : PySem.W.nsIn K mainGlobals "combine" = some (some (.ref f_combine)))
    (i_combine : PySem.W.isFn K (.ref f_combine) = true)
    (l_combine : K.lookup f_combine = some ⟨oc_combine, od_combine, .func (PySem.W.fnOf "combine" "combine" (defArgs s_combine) (defBody s_combine) (defScope s_combine) .none kV_combine dc_combine pm_combine an_combine cd_combine ct_combine), sl_combine⟩)
    (c_combine_ : PySem.W.codeIn K cd_combine "combine" = true)
    (k_combine : PySem.W.keepIn K (.ref f_combine) = true)
    (g_value_of : PySem.W.nsIn K mainGlobals "value_of" = some (some (.ref f_value_of)))
    (i_value_of : PySem.W.isFn K (.ref f_value_of) = true)
    (l_value_of : K.lookup f_value_of = some ⟨oc_value_of, od_value_of, .func (PySem.W.fnOf "value_of" "value_of" (defArgs s_value_of) (defBody s_value_of) (defScope s_value_of) (.ref t_value_of) kV_value_of dc_value_of pm_value_of an_value_of cd_value_of ct_value_of), sl_value_of⟩)
    (t_value_of_ : K.lookup t_value_of = some ⟨tc_value_of, td_value_of, .seq #[.ref e_seen] tn_value_of, ts_value_of⟩)
    (c_value_of_ : PySem.W.codeIn K cd_value_of "value_of" = true)
    (k_value_of : PySem.W.keepIn K (.ref f_value_of) = true)
    (g_End___init__ : PySem.W.findIn K (.ref c_End) "__init__" = some (some (.ref f_End___init__)))
    (i_End___init__ : PySem.W.isFn K (.ref f_End___init__) = true)
    (l_End___init__ : K.lookup f_End___init__ = some ⟨oc_End___init__, od_End___init__, .func (PySem.W.fnOf "__init__" "End.__init__" (defArgs s_End___init__) (defBody s_End___init__) (defScope s_End___init__) .none kV_End___init__ dc_End___init__ pm_End___init__ an_End___init__ cd_End___init__ ct_End___init__), sl_End___init__⟩)
    (c_End___init___ : PySem.W.codeIn K cd_End___init__ "End.__init__" = true)
    (k_End___init__ : PySem.W.keepIn K (.ref f_End___init__) = true)
    (g_Lot___init__ : PySem.W.findIn K (.ref c_Lot) "__init__" = some (some (.ref f_Lot___init__)))
    (i_Lot___init__ : PySem.W.isFn K (.ref f_Lot___init__) = true)
    (l_Lot___init__ : K.lookup f_Lot___init__ = some ⟨oc_Lot___init__, od_Lot___init__, .func (PySem.W.fnOf "__init__" "Lot.__init__" (defArgs s_Lot___init__) (defBody s_Lot___init__) (defScope s_Lot___init__) .none kV_Lot___init__ dc_Lot___init__ pm_Lot___init__ an_Lot___init__ cd_Lot___init__ ct_Lot___init__), sl_Lot___init__⟩)
    (c_Lot___init___ : PySem.W.codeIn K cd_Lot___init__ "Lot.__init__" = true)
    (k_Lot___init__ : PySem.W.keepIn K (.ref f_Lot___init__) = true)
    (g_Turn___init__ : PySem.W.findIn K (.ref c_Turn) "__init__" = some (some (.ref f_Turn___init__)))
    (i_Turn___init__ : PySem.W.isFn K (.ref f_Turn___init__) = true)
    (l_Turn___init__ : K.lookup f_Turn___init__ = some ⟨oc_Turn___init__, od_Turn___init__, .func (PySem.W.fnOf "__init__" "Turn.__init__" (defArgs s_Turn___init__) (defBody s_Turn___init__) (defScope s_Turn___init__) .none kV_Turn___init__ dc_Turn___init__ pm_Turn___init__ an_Turn___init__ cd_Turn___init__ ct_Turn___init__), sl_Turn___init__⟩)
    (c_Turn___init___ : PySem.W.codeIn K cd_Turn___init__ "Turn.__init__" = true)
    (k_Turn___init__ : PySem.W.keepIn K (.ref f_Turn___init__) = true)
    (g_Builder___init__ : PySem.W.findIn K (.ref c_Builder) "__init__" = some (some (.ref f_Builder___init__)))
    (i_Builder___init__ : PySem.W.isFn K (.ref f_Builder___init__) = true)
    (l_Builder___init__ : K.lookup f_Builder___init__ = some ⟨oc_Builder___init__, od_Builder___init__, .func (PySem.W.fnOf "__init__" "Builder.__init__" (defArgs s_Builder___init__) (defBody s_Builder___init__) (defScope s_Builder___init__) .none kV_Builder___init__ dc_Builder___init__ pm_Builder___init__ an_Builder___init__ cd_Builder___init__ ct_Builder___init__), sl_Builder___init__⟩)
    (c_Builder___init___ : PySem.W.codeIn K cd_Builder___init__ "Builder.__init__" = true)
    (k_Builder___init__ : PySem.W.keepIn K (.ref f_Builder___init__) = true)
    (g_Builder_place : PySem.W.findIn K (.ref c_Builder) "place" = some (some (.ref f_Builder_place)))
    (i_Builder_place : PySem.W.isFn K (.ref f_Builder_place) = true)
    (l_Builder_place : K.lookup f_Builder_place = some ⟨oc_Builder_place, od_Builder_place, .func (PySem.W.fnOf "place" "Builder.place" (defArgs s_Builder_place) (defBody s_Builder_place) (defScope s_Builder_place) .none kV_Builder_place dc_Builder_place pm_Builder_place an_Builder_place cd_Builder_place ct_Builder_place), sl_Builder_place⟩)
    (c_Builder_place_ : PySem.W.codeIn K cd_Builder_place "Builder.place" = true)
    (k_Builder_place : PySem.W.keepIn K (.ref f_Builder_place) = true)
    (g_Builder_node : PySem.W.findIn K (.ref c_Builder) "node" = some (some (.ref f_Builder_node)))
    (i_Builder_node : PySem.W.isFn K (.ref f_Builder_node) = true)
    (l_Builder_node : K.lookup f_Builder_node = some ⟨oc_Builder_node, od_Builder_node, .func (PySem.W.fnOf "node" "Builder.node" (defArgs s_Builder_node) (defBody s_Builder_node) (defScope s_Builder_node) .none kV_Builder_node dc_Builder_node pm_Builder_node an_Builder_node cd_Builder_node ct_Builder_node), sl_Builder_node⟩)
    (c_Builder_node_ : PySem.W.codeIn K cd_Builder_node "Builder.node" = true)
    (k_Builder_node : PySem.W.keepIn K (.ref f_Builder_node) = true)
    (g_Builder_chosen : PySem.W.findIn K (.ref c_Builder) "chosen" = some (some (.ref f_Builder_chosen)))
    (i_Builder_chosen : PySem.W.isFn K (.ref f_Builder_chosen) = true)
    (l_Builder_chosen : K.lookup f_Builder_chosen = some ⟨oc_Builder_chosen, od_Builder_chosen, .func (PySem.W.fnOf "chosen" "Builder.chosen" (defArgs s_Builder_chosen) (defBody s_Builder_chosen) (defScope s_Builder_chosen) .none kV_Builder_chosen dc_Builder_chosen pm_Builder_chosen an_Builder_chosen cd_Builder_chosen ct_Builder_chosen), sl_Builder_chosen⟩)
    (c_Builder_chosen_ : PySem.W.codeIn K cd_Builder_chosen "Builder.chosen" = true)
    (k_Builder_chosen : PySem.W.keepIn K (.ref f_Builder_chosen) = true)
    (g_Builder_stored : PySem.W.findIn K (.ref c_Builder) "stored" = some (some (.ref f_Builder_stored)))
    (i_Builder_stored : PySem.W.isFn K (.ref f_Builder_stored) = true)
    (l_Builder_stored : K.lookup f_Builder_stored = some ⟨oc_Builder_stored, od_Builder_stored, .func (PySem.W.fnOf "stored" "Builder.stored" (defArgs s_Builder_stored) (defBody s_Builder_stored) (defScope s_Builder_stored) .none kV_Builder_stored dc_Builder_stored pm_Builder_stored an_Builder_stored cd_Builder_stored ct_Builder_stored), sl_Builder_stored⟩)
    (c_Builder_stored_ : PySem.W.codeIn K cd_Builder_stored "Builder.stored" = true)
    (k_Builder_stored : PySem.W.keepIn K (.ref f_Builder_stored) = true)
    (g_Builder_branch : PySem.W.findIn K (.ref c_Builder) "branch" = some (some (.ref f_Builder_branch)))
    (i_Builder_branch : PySem.W.isFn K (.ref f_Builder_branch) = true)
    (l_Builder_branch : K.lookup f_Builder_branch = some ⟨oc_Builder_branch, od_Builder_branch, .func (PySem.W.fnOf "branch" "Builder.branch" (defArgs s_Builder_branch) (defBody s_Builder_branch) (defScope s_Builder_branch) .none kV_Builder_branch dc_Builder_branch pm_Builder_branch an_Builder_branch cd_Builder_branch ct_Builder_branch), sl_Builder_branch⟩)
    (c_Builder_branch_ : PySem.W.codeIn K cd_Builder_branch "Builder.branch" = true)
    (k_Builder_branch : PySem.W.keepIn K (.ref f_Builder_branch) = true)
    (g_shown : PySem.W.nsIn K mainGlobals "shown" = some (some (.ref f_shown)))
    (i_shown : PySem.W.isFn K (.ref f_shown) = true)
    (l_shown : K.lookup f_shown = some ⟨oc_shown, od_shown, .func (PySem.W.fnOf "shown" "shown" (defArgs s_shown) (defBody s_shown) (defScope s_shown) .none kV_shown dc_shown pm_shown an_shown cd_shown ct_shown), sl_shown⟩)
    (c_shown_ : PySem.W.codeIn K cd_shown "shown" = true)
    (k_shown : PySem.W.keepIn K (.ref f_shown) = true)
    (g_chained : PySem.W.nsIn K mainGlobals "chained" = some (some (.ref f_chained)))
    (i_chained : PySem.W.isFn K (.ref f_chained) = true)
    (l_chained : K.lookup f_chained = some ⟨oc_chained, od_chained, .func (PySem.W.fnOf "chained" "chained" (defArgs s_chained) (defBody s_chained) (defScope s_chained) .none kV_chained dc_chained pm_chained an_chained cd_chained ct_chained), sl_chained⟩)
    (c_chained_ : PySem.W.codeIn K cd_chained "chained" = true)
    (k_chained : PySem.W.keepIn K (.ref f_chained) = true)
    (g_tree_of : PySem.W.nsIn K mainGlobals "tree_of" = some (some (.ref f_tree_of)))
    (i_tree_of : PySem.W.isFn K (.ref f_tree_of) = true)
    (l_tree_of : K.lookup f_tree_of = some ⟨oc_tree_of, od_tree_of, .func (PySem.W.fnOf "tree_of" "tree_of" (defArgs s_tree_of) (defBody s_tree_of) (defScope s_tree_of) .none kV_tree_of dc_tree_of pm_tree_of an_tree_of cd_tree_of ct_tree_of), sl_tree_of⟩)
    (c_tree_of_ : PySem.W.codeIn K cd_tree_of "tree_of" = true)
    (k_tree_of : PySem.W.keepIn K (.ref f_tree_of) = true)
    (g_Game___init__ : PySem.W.findIn K (.ref c_Game) "__init__" = some (some (.ref f_Game___init__)))
    (i_Game___init__ : PySem.W.isFn K (.ref f_Game___init__) = true)
    (l_Game___init__ : K.lookup f_Game___init__ = some ⟨oc_Game___init__, od_Game___init__, .func (PySem.W.fnOf "__init__" "Game.__init__" (defArgs s_Game___init__) (defBody s_Game___init__) (defScope s_Game___init__) .none kV_Game___init__ dc_Game___init__ pm_Game___init__ an_Game___init__ cd_Game___init__ ct_Game___init__), sl_Game___init__⟩)
    (c_Game___init___ : PySem.W.codeIn K cd_Game___init__ "Game.__init__" = true)
    (k_Game___init__ : PySem.W.keepIn K (.ref f_Game___init__) = true)
    (g__law_cell : PySem.W.nsIn K mainGlobals "_law_cell" = some (some (.ref f__law_cell)))
    (i__law_cell : PySem.W.isFn K (.ref f__law_cell) = true)
    (l__law_cell : K.lookup f__law_cell = some ⟨oc__law_cell, od__law_cell, .func (PySem.W.fnOf "_law_cell" "_law_cell" (defArgs s__law_cell) (defBody s__law_cell) (defScope s__law_cell) .none kV__law_cell dc__law_cell pm__law_cell an__law_cell cd__law_cell ct__law_cell), sl__law_cell⟩)
    (c__law_cell_ : PySem.W.codeIn K cd__law_cell "_law_cell" = true)
    (k__law_cell : PySem.W.keepIn K (.ref f__law_cell) = true)
    (g__law_is_integer : PySem.W.nsIn K mainGlobals "_law_is_integer" = some (some (.ref f__law_is_integer)))
    (i__law_is_integer : PySem.W.isFn K (.ref f__law_is_integer) = true)
    (l__law_is_integer : K.lookup f__law_is_integer = some ⟨oc__law_is_integer, od__law_is_integer, .func (PySem.W.fnOf "_law_is_integer" "_law_is_integer" (defArgs s__law_is_integer) (defBody s__law_is_integer) (defScope s__law_is_integer) .none kV__law_is_integer dc__law_is_integer pm__law_is_integer an__law_is_integer cd__law_is_integer ct__law_is_integer), sl__law_is_integer⟩)
    (c__law_is_integer_ : PySem.W.codeIn K cd__law_is_integer "_law_is_integer" = true)
    (k__law_is_integer : PySem.W.keepIn K (.ref f__law_is_integer) = true)
    (g__law_leaf : PySem.W.nsIn K mainGlobals "_law_leaf" = some (some (.ref f__law_leaf)))
    (i__law_leaf : PySem.W.isFn K (.ref f__law_leaf) = true)
    (l__law_leaf : K.lookup f__law_leaf = some ⟨oc__law_leaf, od__law_leaf, .func (PySem.W.fnOf "_law_leaf" "_law_leaf" (defArgs s__law_leaf) (defBody s__law_leaf) (defScope s__law_leaf) .none kV__law_leaf dc__law_leaf pm__law_leaf an__law_leaf cd__law_leaf ct__law_leaf), sl__law_leaf⟩)
    (c__law_leaf_ : PySem.W.codeIn K cd__law_leaf "_law_leaf" = true)
    (k__law_leaf : PySem.W.keepIn K (.ref f__law_leaf) = true)
    (g__law_expression : PySem.W.nsIn K mainGlobals "_law_expression" = some (some (.ref f__law_expression)))
    (i__law_expression : PySem.W.isFn K (.ref f__law_expression) = true)
    (l__law_expression : K.lookup f__law_expression = some ⟨oc__law_expression, od__law_expression, .func (PySem.W.fnOf "_law_expression" "_law_expression" (defArgs s__law_expression) (defBody s__law_expression) (defScope s__law_expression) .none kV__law_expression dc__law_expression pm__law_expression an__law_expression cd__law_expression ct__law_expression), sl__law_expression⟩)
    (c__law_expression_ : PySem.W.codeIn K cd__law_expression "_law_expression" = true)
    (k__law_expression : PySem.W.keepIn K (.ref f__law_expression) = true)
    (g__law_value : PySem.W.nsIn K mainGlobals "_law_value" = some (some (.ref f__law_value)))
    (i__law_value : PySem.W.isFn K (.ref f__law_value) = true)
    (l__law_value : K.lookup f__law_value = some ⟨oc__law_value, od__law_value, .func (PySem.W.fnOf "_law_value" "_law_value" (defArgs s__law_value) (defBody s__law_value) (defScope s__law_value) .none kV__law_value dc__law_value pm__law_value an__law_value cd__law_value ct__law_value), sl__law_value⟩)
    (c__law_value_ : PySem.W.codeIn K cd__law_value "_law_value" = true)
    (k__law_value : PySem.W.keepIn K (.ref f__law_value) = true)
    (g__law_plain : PySem.W.nsIn K mainGlobals "_law_plain" = some (some (.ref f__law_plain)))
    (i__law_plain : PySem.W.isFn K (.ref f__law_plain) = true)
    (l__law_plain : K.lookup f__law_plain = some ⟨oc__law_plain, od__law_plain, .func (PySem.W.fnOf "_law_plain" "_law_plain" (defArgs s__law_plain) (defBody s__law_plain) (defScope s__law_plain) .none kV__law_plain dc__law_plain pm__law_plain an__law_plain cd__law_plain ct__law_plain), sl__law_plain⟩)
    (c__law_plain_ : PySem.W.codeIn K cd__law_plain "_law_plain" = true)
    (k__law_plain : PySem.W.keepIn K (.ref f__law_plain) = true)
    (g__law_statement : PySem.W.nsIn K mainGlobals "_law_statement" = some (some (.ref f__law_statement)))
    (i__law_statement : PySem.W.isFn K (.ref f__law_statement) = true)
    (l__law_statement : K.lookup f__law_statement = some ⟨oc__law_statement, od__law_statement, .func (PySem.W.fnOf "_law_statement" "_law_statement" (defArgs s__law_statement) (defBody s__law_statement) (defScope s__law_statement) .none kV__law_statement dc__law_statement pm__law_statement an__law_statement cd__law_statement ct__law_statement), sl__law_statement⟩)
    (c__law_statement_ : PySem.W.codeIn K cd__law_statement "_law_statement" = true)
    (k__law_statement : PySem.W.keepIn K (.ref f__law_statement) = true)
    (g__law_run : PySem.W.nsIn K mainGlobals "_law_run" = some (some (.ref f__law_run)))
    (i__law_run : PySem.W.isFn K (.ref f__law_run) = true)
    (l__law_run : K.lookup f__law_run = some ⟨oc__law_run, od__law_run, .func (PySem.W.fnOf "_law_run" "_law_run" (defArgs s__law_run) (defBody s__law_run) (defScope s__law_run) .none kV__law_run dc__law_run pm__law_run an__law_run cd__law_run ct__law_run), sl__law_run⟩)
    (c__law_run_ : PySem.W.codeIn K cd__law_run "_law_run" = true)
    (k__law_run : PySem.W.keepIn K (.ref f__law_run) = true)
    (g_law : PySem.W.nsIn K mainGlobals "law" = some (some (.ref f_law)))
    (i_law : PySem.W.isFn K (.ref f_law) = true)
    (l_law : K.lookup f_law = some ⟨oc_law, od_law, .func (PySem.W.fnOf "law" "law" (defArgs s_law) (defBody s_law) (defScope s_law) .none kV_law dc_law pm_law an_law cd_law ct_law), sl_law⟩)
    (c_law_ : PySem.W.codeIn K cd_law "law" = true)
    (k_law : PySem.W.keepIn K (.ref f_law) = true)
    (pg_End : PySem.W.plainGet K c_End Str.empty = true)
    (hd_End : PySem.W.hasDictIn K c_End = true)
    (po_End : PySem.W.plainOver K c_End = true)
    (sa_End : PySem.W.findIn K (.ref c_End) "__setattr__" = some (some (.builtin "object.__setattr__")))
    (mk_End : PySem.W.makesIn K c_End = true)
    (kc_End : PySem.W.keepIn K (.ref c_End) = true)
    (na_End_paid : PySem.W.findIn K (.ref c_End) "paid" = some none)
    (ha_End : PySem.W.findIn K (.ref c_End) "__class__" = some (some (.builtin "object.__class__")))
    (hn_End : PySem.W.specialIn K (.builtin "object.__class__") "__get__" = some (some (.builtin "getset_descriptor.__get__")))
    (ht_End : PySem.W.takesIn K (.builtin "object.__class__") = some true)
    (hm_End : PySem.W.mroIn K c_End (.type "object") = some true)
    (pg_Lot : PySem.W.plainGet K c_Lot Str.empty = true)
    (hd_Lot : PySem.W.hasDictIn K c_Lot = true)
    (po_Lot : PySem.W.plainOver K c_Lot = true)
    (sa_Lot : PySem.W.findIn K (.ref c_Lot) "__setattr__" = some (some (.builtin "object.__setattr__")))
    (mk_Lot : PySem.W.makesIn K c_Lot = true)
    (kc_Lot : PySem.W.keepIn K (.ref c_Lot) = true)
    (na_Lot_parts : PySem.W.findIn K (.ref c_Lot) "parts" = some none)
    (ha_Lot : PySem.W.findIn K (.ref c_Lot) "__class__" = some (some (.builtin "object.__class__")))
    (hn_Lot : PySem.W.specialIn K (.builtin "object.__class__") "__get__" = some (some (.builtin "getset_descriptor.__get__")))
    (ht_Lot : PySem.W.takesIn K (.builtin "object.__class__") = some true)
    (hm_Lot : PySem.W.mroIn K c_Lot (.type "object") = some true)
    (pg_Turn : PySem.W.plainGet K c_Turn Str.empty = true)
    (hd_Turn : PySem.W.hasDictIn K c_Turn = true)
    (po_Turn : PySem.W.plainOver K c_Turn = true)
    (sa_Turn : PySem.W.findIn K (.ref c_Turn) "__setattr__" = some (some (.builtin "object.__setattr__")))
    (mk_Turn : PySem.W.makesIn K c_Turn = true)
    (kc_Turn : PySem.W.keepIn K (.ref c_Turn) = true)
    (na_Turn_player : PySem.W.findIn K (.ref c_Turn) "player" = some none)
    (na_Turn_view : PySem.W.findIn K (.ref c_Turn) "view" = some none)
    (na_Turn_parts : PySem.W.findIn K (.ref c_Turn) "parts" = some none)
    (ha_Turn : PySem.W.findIn K (.ref c_Turn) "__class__" = some (some (.builtin "object.__class__")))
    (hn_Turn : PySem.W.specialIn K (.builtin "object.__class__") "__get__" = some (some (.builtin "getset_descriptor.__get__")))
    (ht_Turn : PySem.W.takesIn K (.builtin "object.__class__") = some true)
    (hm_Turn : PySem.W.mroIn K c_Turn (.type "object") = some true)
    (pg_Builder : PySem.W.plainGet K c_Builder Str.empty = true)
    (hd_Builder : PySem.W.hasDictIn K c_Builder = true)
    (po_Builder : PySem.W.plainOver K c_Builder = true)
    (sa_Builder : PySem.W.findIn K (.ref c_Builder) "__setattr__" = some (some (.builtin "object.__setattr__")))
    (mk_Builder : PySem.W.makesIn K c_Builder = true)
    (kc_Builder : PySem.W.keepIn K (.ref c_Builder) = true)
    (na_Builder_sizes : PySem.W.findIn K (.ref c_Builder) "sizes" = some none)
    (na_Builder_on : PySem.W.findIn K (.ref c_Builder) "on" = some none)
    (na_Builder_left : PySem.W.findIn K (.ref c_Builder) "left" = some none)
    (pg_Game : PySem.W.plainGet K c_Game Str.empty = true)
    (hd_Game : PySem.W.hasDictIn K c_Game = true)
    (po_Game : PySem.W.plainOver K c_Game = true)
    (sa_Game : PySem.W.findIn K (.ref c_Game) "__setattr__" = some (some (.builtin "object.__setattr__")))
    (mk_Game : PySem.W.makesIn K c_Game = true)
    (kc_Game : PySem.W.keepIn K (.ref c_Game) = true)
    (na_Game_options : PySem.W.findIn K (.ref c_Game) "options" = some none)
    (na_Game_variables : PySem.W.findIn K (.ref c_Game) "variables" = some none)
    (na_Game_rounds : PySem.W.findIn K (.ref c_Game) "rounds" = some none)
    (Cx_TooLarge : PySem.W.nsIn K mainGlobals "TooLarge" = some (some (.ref c_TooLarge)))
    (xL_TooLarge : K.lookup c_TooLarge = some (excClassObj en_TooLarge eq_TooLarge c_TooLarge eN_TooLarge ebs_TooLarge [.ref eG_TooLarge, .type "ValueError", .type "Exception", .type "BaseException", .type "object"] true esn_TooLarge esub_TooLarge eab_TooLarge ecol_TooLarge edd_TooLarge e0_TooLarge e1_TooLarge e2_TooLarge e3_TooLarge e5_TooLarge "ValueError.__new__"))
    (xsa_TooLarge : PySem.W.findIn K (.ref c_TooLarge) "__setattr__" = some (some (.builtin "object.__setattr__")))
    (xga_TooLarge : PySem.W.findIn K (.ref c_TooLarge) "__getattribute__" = some (some (.builtin "BaseException.__getattribute__")))
    (xgg_TooLarge : PySem.W.findIn K (.ref c_TooLarge) "__getattr__" = some none)
    (xhd_TooLarge : PySem.W.hasDictIn K c_TooLarge = true)
    (xno_TooLarge : PySem.W.findIn K (.ref c_TooLarge) "what" = some none)
    (xiC_TooLarge : PySem.W.findIn K (.ref c_TooLarge) "__init__" = some (some (.ref i_TooLarge)))
    (xtC_TooLarge : PySem.W.typeIn K (.ref i_TooLarge) = some (.type "function"))
    (xkC_TooLarge : PySem.W.keepIn K (.ref c_TooLarge) = true)
    (xex_TooLarge : PySem.W.subIn K (.ref c_TooLarge) (.type "BaseException") = some true)
    (xty_TooLarge : PySem.W.typeIn K (.ref c_TooLarge) = some (.type "type"))
    (xop_TooLarge : PySem.W.nsIn K cStatics "thirdparty.any" = some none)
    (ksx_TooLarge : PySem.W.ks_superIn K c_TooLarge c_TooLarge "__init__" = some (some (.builtin "ValueError.__init__")))
    (xve_TooLarge : PySem.W.subIn K (.ref c_TooLarge) (.type "ValueError") = some true)
    (xmc_TooLarge : PySem.W.mroIn K c_TooLarge (.ref c_TooLarge) = some true)
    (xsub_TooLarge : PySem.W.subIn K (.ref c_TooLarge) (.ref c_TooLarge) = some true)
    (xsu_TooLarge : PySem.W.nsIn K mainGlobals "super" = some none)
    (rflt_TooLarge : (P.main.scope.names.lookup ("super" : Str)).isSome = false)
    (xl_TooLarge : K.lookup i_TooLarge = some ⟨xoc_TooLarge, xod_TooLarge, .func (PySem.W.ksFn "__init__" "TooLarge.__init__" (defArgs (inClass (top 2) 0)) (defBody (inClass (top 2) 0)) (defScope (inClass (top 2) 0)) .none .none xdc_TooLarge xpm_TooLarge xan_TooLarge (.ref xda_TooLarge) xct_TooLarge xcc_TooLarge), xos_TooLarge⟩)
    (xc_TooLarge : PySem.W.codeIn K (.ref xda_TooLarge) "TooLarge.__init__" = true)
    (xda__TooLarge : K.lookup xda_TooLarge = some ⟨xccl_TooLarge, xcdd_TooLarge, .fields xvs_TooLarge, xccs_TooLarge⟩)
    (rflv_TooLarge : xvs_TooLarge[2]? = some (.str xfi_TooLarge xtf_TooLarge))
    (rflf_TooLarge : ((P.main.file : Str) == xfi_TooLarge) = true)
    (xicl_TooLarge : PySem.W.isClsIn K c_TooLarge = true)
    (xha_TooLarge : PySem.W.findIn K (.ref c_TooLarge) "__class__" = some (some (.builtin "object.__class__")))
    (xhn_TooLarge : PySem.W.specialIn K (.builtin "object.__class__") "__get__" = some (some (.builtin "getset_descriptor.__get__")))
    (xht_TooLarge : PySem.W.takesIn K (.builtin "object.__class__") = some true)
    (xhm_TooLarge : PySem.W.mroIn K c_TooLarge (.type "object") = some true)
    (xcc__TooLarge : K.lookup xcc_TooLarge = some ⟨xcl_TooLarge, xcld_TooLarge, .cell (some (.ref c_TooLarge)), xcs_TooLarge⟩)
    (ki_End_End : PySem.W.kitOne K (.ref c_End) (.ref c_End) = some true)
    (ki_End_Lot : PySem.W.kitOne K (.ref c_End) (.ref c_Lot) = some false)
    (ki_End_Turn : PySem.W.kitOne K (.ref c_End) (.ref c_Turn) = some false)
    (ki_Lot_End : PySem.W.kitOne K (.ref c_Lot) (.ref c_End) = some false)
    (ki_Lot_Lot : PySem.W.kitOne K (.ref c_Lot) (.ref c_Lot) = some true)
    (ki_Lot_Turn : PySem.W.kitOne K (.ref c_Lot) (.ref c_Turn) = some false)
    (ki_Turn_End : PySem.W.kitOne K (.ref c_Turn) (.ref c_End) = some false)
    (ki_Turn_Lot : PySem.W.kitOne K (.ref c_Turn) (.ref c_Lot) = some false)
    (ki_Turn_Turn : PySem.W.kitOne K (.ref c_Turn) (.ref c_Turn) = some true)
    (n_int : PySem.W.nsIn K mainGlobals "int" = some none)
    (n_max : PySem.W.nsIn K mainGlobals "max" = some none)
    (n_min : PySem.W.nsIn K mainGlobals "min" = some none)
    (n_len : PySem.W.nsIn K mainGlobals "len" = some none)
    (n_dict : PySem.W.nsIn K mainGlobals "dict" = some none)
    (n_range : PySem.W.nsIn K mainGlobals "range" = some none)
    (n_tuple : PySem.W.nsIn K mainGlobals "tuple" = some none)
    (n_reversed : PySem.W.nsIn K mainGlobals "reversed" = some none)
    (n_isinstance : PySem.W.nsIn K mainGlobals "isinstance" = some none)
    (n_bool : PySem.W.nsIn K mainGlobals "bool" = some none)
    (n_str : PySem.W.nsIn K mainGlobals "str" = some none)
    (cg_GREATEST : PySem.W.nsIn K mainGlobals "GREATEST" = some (some (.int 65535 kk_GREATEST)))
    (cg_MOST_PLACES : PySem.W.nsIn K mainGlobals "MOST_PLACES" = some (some (.int 400 kk_MOST_PLACES)))
    (el_seen : K.lookup e_seen = some ⟨.type "tuple", ed_seen, .seq #[] en_seen, es_seen⟩) :
    ∃ fd : FuncData, (∀ (s : Shared) (v : Value), BindsTo s fd ⟨[v], []⟩ [("_law_script", v)]) ∧ ∀ base : Heap, K.In base → base.Ns mainGlobals mg → FnOk P w K mg base CX0 72 fa fd ["_law_script"] (sp_law K) := by
  have e := hfa.symm.trans (PySem.W.mg_of X G g_law)
  cases e
  have F_combine := fun_mk (st := s_combine) l_combine c_combine_ k_combine
  have F_value_of : FunD K "value_of" "value_of" (defArgs s_value_of) (defBody s_value_of) (defScope s_value_of) [V.ref e_seen] [] f_value_of _ := ⟨⟨_, _, _, _, _, _, _, _, _, _, rfl, l_value_of, c_value_of_, .inr ⟨by simp, t_value_of, _, [.ref e_seen], _, rfl, t_value_of_, rfl, (.cons rfl .nil)⟩, .inl rfl⟩, k_value_of⟩
  have F_End___init__ := fun_mk (st := s_End___init__) l_End___init__ c_End___init___ k_End___init__
  have F_Lot___init__ := fun_mk (st := s_Lot___init__) l_Lot___init__ c_Lot___init___ k_Lot___init__
  have F_Turn___init__ := fun_mk (st := s_Turn___init__) l_Turn___init__ c_Turn___init___ k_Turn___init__
  have F_Builder___init__ := fun_mk (st := s_Builder___init__) l_Builder___init__ c_Builder___init___ k_Builder___init__
  have F_Builder_place := fun_mk (st := s_Builder_place) l_Builder_place c_Builder_place_ k_Builder_place
  have F_Builder_node := fun_mk (st := s_Builder_node) l_Builder_node c_Builder_node_ k_Builder_node
  have F_Builder_chosen := fun_mk (st := s_Builder_chosen) l_Builder_chosen c_Builder_chosen_ k_Builder_chosen
  have F_Builder_stored := fun_mk (st := s_Builder_stored) l_Builder_stored c_Builder_stored_ k_Builder_stored
  have F_Builder_branch := fun_mk (st := s_Builder_branch) l_Builder_branch c_Builder_branch_ k_Builder_branch
  have F_shown := fun_mk (st := s_shown) l_shown c_shown_ k_shown
  have F_chained := fun_mk (st := s_chained) l_chained c_chained_ k_chained
  have F_tree_of := fun_mk (st := s_tree_of) l_tree_of c_tree_of_ k_tree_of
  have F_Game___init__ := fun_mk (st := s_Game___init__) l_Game___init__ c_Game___init___ k_Game___init__
  have F__law_cell := fun_mk (st := s__law_cell) l__law_cell c__law_cell_ k__law_cell
  have F__law_is_integer := fun_mk (st := s__law_is_integer) l__law_is_integer c__law_is_integer_ k__law_is_integer
  have F__law_leaf := fun_mk (st := s__law_leaf) l__law_leaf c__law_leaf_ k__law_leaf
  have F__law_expression := fun_mk (st := s__law_expression) l__law_expression c__law_expression_ k__law_expression
  have F__law_value := fun_mk (st := s__law_value) l__law_value c__law_value_ k__law_value
  have F__law_plain := fun_mk (st := s__law_plain) l__law_plain c__law_plain_ k__law_plain
  have F__law_statement := fun_mk (st := s__law_statement) l__law_statement c__law_statement_ k__law_statement
  have F__law_run := fun_mk (st := s__law_run) l__law_run c__law_run_ k__law_run
  have F_law := fun_mk (st := s_law) l_law c_law_ k_law
  have T : Txt P K mg ⟨f_combine, _, f_value_of, _, f_End___init__, _, f_Lot___init__, _, f_Turn___init__, _, f_Builder___init__, _, f_Builder_place, _, f_Builder_node, _, f_Builder_chosen, _, f_Builder_stored, _, f_Builder_branch, _, f_shown, _, f_chained, _, f_tree_of, _, f_Game___init__, _, f__law_cell, _, f__law_is_integer, _, f__law_leaf, _, f__law_expression, _, f__law_value, _, f__law_plain, _, f__law_statement, _, f__law_run, _, f_law, _, c_End, c_Lot, c_Turn, c_Builder, c_Game, c_TooLarge, i_TooLarge, e_seen⟩ := ⟨F_combine,
    (F_combine.binds (ps := ["sign", "left", "right"]) fun _ _ _ _ _ _ us hl => match us, hl with | [_, _, _], _ => rfl),
    (PySem.W.mg_of X G g_combine),
    F_value_of,
    (F_value_of.binds1 (ps := ["expression", "table", "on", "seen"]) 4 1 (by simp) rfl fun _ _ _ _ _ _ _ us its hu hi => match us, hu, its, hi with | [_, _, _, _], _, [_], _ => ⟨_, rfl, rfl⟩),
    (F_value_of.binds1 (ps := ["expression", "table", "on", "seen"]) 3 0 (by simp) rfl fun _ _ _ _ _ _ _ us its hu hi => match us, hu, its, hi with | [_, _, _], _, [_], _ => ⟨_, rfl, rfl⟩),
    (PySem.W.mg_of X G g_value_of),
    F_End___init__,
    (F_End___init__.binds (ps := ["self", "paid"]) fun _ _ _ _ _ _ us hl => match us, hl with | [_, _], _ => rfl),
    ⟨mk_End, g_End___init__, i_End___init__, kc_End⟩,
    F_Lot___init__,
    (F_Lot___init__.binds (ps := ["self", "parts"]) fun _ _ _ _ _ _ us hl => match us, hl with | [_, _], _ => rfl),
    ⟨mk_Lot, g_Lot___init__, i_Lot___init__, kc_Lot⟩,
    F_Turn___init__,
    (F_Turn___init__.binds (ps := ["self", "player", "view", "parts"]) fun _ _ _ _ _ _ us hl => match us, hl with | [_, _, _, _], _ => rfl),
    ⟨mk_Turn, g_Turn___init__, i_Turn___init__, kc_Turn⟩,
    F_Builder___init__,
    (F_Builder___init__.binds (ps := ["self", "game"]) fun _ _ _ _ _ _ us hl => match us, hl with | [_, _], _ => rfl),
    ⟨mk_Builder, g_Builder___init__, i_Builder___init__, kc_Builder⟩,
    F_Builder_place,
    (F_Builder_place.binds (ps := ["self"]) fun _ _ _ _ _ _ us hl => match us, hl with | [_], _ => rfl),
    ⟨g_Builder_place, i_Builder_place, k_Builder_place⟩,
    F_Builder_node,
    (F_Builder_node.binds (ps := ["self", "rest", "table", "seen", "paid"]) fun _ _ _ _ _ _ us hl => match us, hl with | [_, _, _, _, _], _ => rfl),
    ⟨g_Builder_node, i_Builder_node, k_Builder_node⟩,
    F_Builder_chosen,
    (F_Builder_chosen.binds (ps := ["self", "statement", "table"]) fun _ _ _ _ _ _ us hl => match us, hl with | [_, _, _], _ => rfl),
    ⟨g_Builder_chosen, i_Builder_chosen, k_Builder_chosen⟩,
    F_Builder_stored,
    (F_Builder_stored.binds (ps := ["self", "table", "name", "value"]) fun _ _ _ _ _ _ us hl => match us, hl with | [_, _, _, _], _ => rfl),
    ⟨g_Builder_stored, i_Builder_stored, k_Builder_stored⟩,
    F_Builder_branch,
    (F_Builder_branch.binds (ps := ["self", "statement", "rest", "table", "seen", "paid"]) fun _ _ _ _ _ _ us hl => match us, hl with | [_, _, _, _, _, _], _ => rfl),
    ⟨g_Builder_branch, i_Builder_branch, k_Builder_branch⟩,
    F_shown,
    (F_shown.binds (ps := ["seen", "to", "event"]) fun _ _ _ _ _ _ us hl => match us, hl with | [_, _, _], _ => rfl),
    (PySem.W.mg_of X G g_shown),
    F_chained,
    (F_chained.binds (ps := ["block", "rest"]) fun _ _ _ _ _ _ us hl => match us, hl with | [_, _], _ => rfl),
    (PySem.W.mg_of X G g_chained),
    F_tree_of,
    (F_tree_of.binds (ps := ["game"]) fun _ _ _ _ _ _ us hl => match us, hl with | [_], _ => rfl),
    (PySem.W.mg_of X G g_tree_of),
    F_Game___init__,
    (F_Game___init__.binds (ps := ["self", "options", "variables", "rounds"]) fun _ _ _ _ _ _ us hl => match us, hl with | [_, _, _, _], _ => rfl),
    ⟨mk_Game, g_Game___init__, i_Game___init__, kc_Game⟩,
    F__law_cell,
    (F__law_cell.binds (ps := ["_law_script", "_law_k"]) fun _ _ _ _ _ _ us hl => match us, hl with | [_, _], _ => rfl),
    (PySem.W.mg_of X G g__law_cell),
    F__law_is_integer,
    (F__law_is_integer.binds (ps := ["_law_actual"]) fun _ _ _ _ _ _ us hl => match us, hl with | [_], _ => rfl),
    (PySem.W.mg_of X G g__law_is_integer),
    F__law_leaf,
    (F__law_leaf.binds (ps := ["_law_cell_here", "_law_variables"]) fun _ _ _ _ _ _ us hl => match us, hl with | [_, _], _ => rfl),
    (PySem.W.mg_of X G g__law_leaf),
    F__law_expression,
    (F__law_expression.binds (ps := ["_law_cell_here", "_law_variables"]) fun _ _ _ _ _ _ us hl => match us, hl with | [_, _], _ => rfl),
    (PySem.W.mg_of X G g__law_expression),
    F__law_value,
    (F__law_value.binds (ps := ["_law_expression_here", "_law_table"]) fun _ _ _ _ _ _ us hl => match us, hl with | [_, _], _ => rfl),
    (PySem.W.mg_of X G g__law_value),
    F__law_plain,
    (F__law_plain.binds (ps := ["_law_cell_here", "_law_variables"]) fun _ _ _ _ _ _ us hl => match us, hl with | [_, _], _ => rfl),
    (PySem.W.mg_of X G g__law_plain),
    F__law_statement,
    (F__law_statement.binds (ps := ["_law_cell_here", "_law_variables", "_law_options"]) fun _ _ _ _ _ _ us hl => match us, hl with | [_, _, _], _ => rfl),
    (PySem.W.mg_of X G g__law_statement),
    F__law_run,
    (F__law_run.binds (ps := ["_law_block", "_law_table", "_law_sizes", "_law_on", "_law_paid"]) fun _ _ _ _ _ _ us hl => match us, hl with | [_, _, _, _, _], _ => rfl),
    (PySem.W.mg_of X G g__law_run),
    F_law,
    (F_law.binds (ps := ["_law_script"]) fun _ _ _ _ _ _ us hl => match us, hl with | [_], _ => rfl),
    (PySem.W.mg_of X G g_law),
    (PySem.W.mg_of X G C_End),
    ⟨pg_End, hd_End, po_End, sa_End⟩,
    na_End_paid,
    ⟨⟨pg_End, hd_End, po_End, sa_End⟩, ha_End, hn_End, ht_End, hm_End, by unfold PySem.W.kitOne; simp⟩,
    (PySem.W.mg_of X G C_Lot),
    ⟨pg_Lot, hd_Lot, po_Lot, sa_Lot⟩,
    na_Lot_parts,
    ⟨⟨pg_Lot, hd_Lot, po_Lot, sa_Lot⟩, ha_Lot, hn_Lot, ht_Lot, hm_Lot, by unfold PySem.W.kitOne; simp⟩,
    (PySem.W.mg_of X G C_Turn),
    ⟨pg_Turn, hd_Turn, po_Turn, sa_Turn⟩,
    na_Turn_player,
    na_Turn_view,
    na_Turn_parts,
    ⟨⟨pg_Turn, hd_Turn, po_Turn, sa_Turn⟩, ha_Turn, hn_Turn, ht_Turn, hm_Turn, by unfold PySem.W.kitOne; simp⟩,
    (PySem.W.mg_of X G C_Builder),
    ⟨pg_Builder, hd_Builder, po_Builder, sa_Builder⟩,
    na_Builder_sizes,
    na_Builder_on,
    na_Builder_left,
    (PySem.W.mg_of X G C_Game),
    ⟨pg_Game, hd_Game, po_Game, sa_Game⟩,
    na_Game_options,
    na_Game_variables,
    na_Game_rounds,
    (PySem.W.mg_of X G Cx_TooLarge),
    ⟨⟨_, _, _, _, _, _, _, _, _, _, _, _, _, _, _, xL_TooLarge, by rfl⟩, xsa_TooLarge, xno_TooLarge, xiC_TooLarge, xtC_TooLarge, xkC_TooLarge, xex_TooLarge, xty_TooLarge, xop_TooLarge, ksx_TooLarge, xve_TooLarge, xmc_TooLarge, (PySem.W.mg_none_of X G xsu_TooLarge), rflt_TooLarge, ⟨by decide, by decide, by decide, by decide, fun _ _ _ _ _ _ _ _ _ _ _ _ => rfl⟩, ⟨_, _, _, _, _, _, _, _, _, _, _, _, _, _, _, _, _, _, _, _, _, _, _, _, _, _, _, _, _, _, _, _, _, xl_TooLarge, xc_TooLarge, xda__TooLarge, rflv_TooLarge, rflf_TooLarge, xcc__TooLarge, _, fun _ => rfl⟩⟩,
    ⟨xga_TooLarge, xgg_TooLarge, xex_TooLarge, xhd_TooLarge⟩,
    (PySem.W.exm_ref xex_TooLarge xhd_TooLarge xty_TooLarge xsub_TooLarge),
    ⟨xicl_TooLarge, xga_TooLarge, xgg_TooLarge, xex_TooLarge, xha_TooLarge, xhn_TooLarge, xht_TooLarge, xhm_TooLarge⟩,
    ki_End_End,
    ki_End_Lot,
    ki_End_Turn,
    ki_Lot_End,
    ki_Lot_Lot,
    ki_Lot_Turn,
    ki_Turn_End,
    ki_Turn_Lot,
    ki_Turn_Turn,
    (PySem.W.mg_none_of X G n_int),
    (PySem.W.mg_none_of X G n_max),
    (PySem.W.mg_none_of X G n_min),
    (PySem.W.mg_none_of X G n_len),
    (PySem.W.mg_none_of X G n_dict),
    (PySem.W.mg_none_of X G n_range),
    (PySem.W.mg_none_of X G n_tuple),
    (PySem.W.mg_none_of X G n_reversed),
    (PySem.W.mg_none_of X G n_isinstance),
    (PySem.W.mg_none_of X G n_bool),
    (PySem.W.mg_none_of X G n_str),
    ⟨_, PySem.W.mg_of X G cg_GREATEST⟩,
    ⟨_, PySem.W.mg_of X G cg_MOST_PLACES⟩,
    (fun _ => .inr ⟨_, _, _, el_seen, rfl, rfl, by rw [sizeLine_eq]; show 0 ≤ _; decide, .nil⟩)⟩
  exact ⟨PySem.W.fnOf "law" "law" (defArgs s_law) (defBody s_law) (defScope s_law) .none kV_law dc_law pm_law an_law cd_law ct_law, fun s v => .of_eq rfl, fun base _ _ => G_law (P := P) (w := w) (base := base) T⟩
theorem walk {l : PySem.W.OpenLaw} {q : Program} {loose : List Str} {XP : (Str → Option Value) → Heap → Prop} {YP : World → Heap → Prop} {d : DefRec} {K : Params → PySem.W.Frag} (hn : l.most = some 63) (hdf : d.params.defaults = [])
    (hY : ∀ (w : World) (h : Heap), YP w h → (K w.params).In h)
    (F : ∀ (w : World) (mg : Str → Option Value) (fa : Addr) (h : Heap), (K w.params).In h → h.Ns mainGlobals mg → mg d.name = some (.ref fa) →
      ∃ fd : FuncData, (∀ (s : Shared) (u : Value), BindsTo s fd ⟨[u], []⟩ [("_law_script", u)]) ∧ ∀ base : Heap, (K w.params).In base → base.Ns mainGlobals mg → FnOk l.prog w (K w.params) mg base CX0 72 fa fd ["_law_script"] (sp_law (K w.params))) :
    PySem.W.WalkO q loose XP YP l.row.toRowW d [] (fun f vs => PySem.call f vs) :=
  L2.walk_of (n := 63) (k := 72) (x := "_law_script") (CX := fun _ => CX0) (sp := fun w => sp_law (K w.params)) hn (by decide) hdf ⟨rfl, by decide, by decide⟩ hY F (fun _ _ a ns hl _ hS => ⟨a, ns, rfl, hS, hl, fun _ => rfl⟩) fun _ _ _ _ _ z => z
end K30
open PySem PySem.W PyProof.Rows
set_option maxRecDepth 100000 in
set_option maxHeartbeats 0 in
theorem PySem.Challenge.cw_sureplay_k30_statements_of_one_way_holds : PySem.Challenge.rw_sureplay_k30_statements_of_one_way.Holds := by
  w_on; o_law; k_head; (case hw => w_witness2)
  k_fill
  refine K30.walk (l := PySem.Challenge.rw_sureplay_k30_statements_of_one_way) rfl rfl (fun w h Y => PySem.W.kIn_of Y) ?F
  case F =>
    intro w mg fa h KX G hmg
    refine' K30.all_mk KX G hmg ?C_End ?C_Lot ?C_Turn ?C_Builder ?C_Game ?g_combine ?i_combine ?l_combine ?c_combine_ ?k_combine ?g_value_of ?i_value_of ?l_value_of ?t_value_of_ ?c_value_of_ ?k_value_of ?g_End___init__ ?i_End___init__ ?l_End___init__ ?c_End___init___ ?k_End___init__ ?g_Lot___init__ ?i_Lot___init__ ?l_Lot___init__ ?c_Lot___init___ ?k_Lot___init__ ?g_Turn___init__ ?i_Turn___init__ ?l_Turn___init__ ?c_Turn___init___ ?k_Turn___init__ ?g_Builder___init__ ?i_Builder___init__ ?l_Builder___init__ ?c_Builder___init___ ?k_Builder___init__ ?g_Builder_place ?i_Builder_place ?l_Builder_place ?c_Builder_place_ ?k_Builder_place ?g_Builder_node ?i_Builder_node ?l_Builder_node ?c_Builder_node_ ?k_Builder_node ?g_Builder_chosen ?i_Builder_chosen ?l_Builder_chosen ?c_Builder_chosen_ ?k_Builder_chosen ?g_Builder_stored ?i_Builder_stored ?l_Builder_stored ?c_Builder_stored_ ?k_Builder_stored ?g_Builder_branch ?i_Builder_branch ?l_Builder_branch ?c_Builder_branch_ ?k_Builder_branch ?g_shown ?i_shown ?l_shown ?c_shown_ ?k_shown ?g_chained ?i_chained ?l_chained ?c_chained_ ?k_chained ?g_tree_of ?i_tree_of ?l_tree_of ?c_tree_of_ ?k_tree_of ?g_Game___init__ ?i_Game___init__ ?l_Game___init__ ?c_Game___init___ ?k_Game___init__ ?g__law_cell ?i__law_cell ?l__law_cell ?c__law_cell_ ?k__law_cell ?g__law_is_integer ?i__law_is_integer ?l__law_is_integer ?c__law_is_integer_ ?k__law_is_integer ?g__law_leaf ?i__law_leaf ?l__law_leaf ?c__law_leaf_ ?k__law_leaf ?g__law_expression ?i__law_expression ?l__law_expression ?c__law_expression_ ?k__law_expression ?g__law_value ?i__law_value ?l__law_value ?c__law_value_ ?k__law_value ?g__law_plain ?i__law_plain ?l__law_plain ?c__law_plain_ ?k__law_plain ?g__law_statement ?i__law_statement ?l__law_statement ?c__law_statement_ ?k__law_statement ?g__law_run ?i__law_run ?l__law_run ?c__law_run_ ?k__law_run ?g_law ?i_law ?l_law ?c_law_ ?k_law ?pg_End ?hd_End ?po_End ?sa_End ?mk_End ?kc_End ?na_End_paid ?ha_End ?hn_End ?ht_End ?hm_End ?pg_Lot ?hd_Lot ?po_Lot ?sa_Lot ?mk_Lot ?kc_Lot ?na_Lot_parts ?ha_Lot ?hn_Lot ?ht_Lot ?hm_Lot ?pg_Turn ?hd_Turn ?po_Turn ?sa_Turn ?mk_Turn ?kc_Turn ?na_Turn_player ?na_Turn_view ?na_Turn_parts ?ha_Turn ?hn_Turn ?ht_Turn ?hm_Turn ?pg_Builder ?hd_Builder ?po_Builder ?sa_Builder ?mk_Builder ?kc_Builder ?na_Builder_sizes ?na_Builder_on ?na_Builder_left ?pg_Game ?hd_Game ?po_Game ?sa_Game ?mk_Game ?kc_Game ?na_Game_options ?na_Game_variables ?na_Game_rounds ?Cx_TooLarge ?xL_TooLarge ?xsa_TooLarge ?xga_TooLarge ?xgg_TooLarge ?xhd_TooLarge ?xno_TooLarge ?xiC_TooLarge ?xtC_TooLarge ?xkC_TooLarge ?xex_TooLarge ?xty_TooLarge ?xop_TooLarge ?ksx_TooLarge ?xve_TooLarge ?xmc_TooLarge ?xsub_TooLarge ?xsu_TooLarge ?rflt_TooLarge ?xl_TooLarge ?xc_TooLarge ?xda__TooLarge ?rflv_TooLarge ?rflf_TooLarge ?xicl_TooLarge ?xha_TooLarge ?xhn_TooLarge ?xht_TooLarge ?xhm_TooLarge ?xcc__TooLarge ?ki_End_End ?ki_End_Lot ?ki_End_Turn ?ki_Lot_End ?ki_Lot_Lot ?ki_Lot_Turn ?ki_Turn_End ?ki_Turn_Lot ?ki_Turn_Turn ?n_int ?n_max ?n_min ?n_len ?n_dict ?n_range ?n_tuple ?n_reversed ?n_isinstance ?n_bool ?n_str ?cg_GREATEST ?cg_MOST_PLACES ?el_seen
    (case C_End => k_is)
    (case C_Lot => k_is)
    (case C_Turn => k_is)
    (case C_Builder => k_is)
    (case C_Game => k_is)
    (case g_combine => k_is)
    (case i_combine => k_is)
    (case l_combine => k_is)
    (case c_combine_ => k_is)
    (case k_combine => k_is)
    (case g_value_of => k_is)
    (case i_value_of => k_is)
    (case l_value_of => k_is)
    (case t_value_of_ => k_is)
    (case c_value_of_ => k_is)
    (case k_value_of => k_is)
    (case g_End___init__ => k_is)
    (case i_End___init__ => k_is)
    (case l_End___init__ => k_is)
    (case c_End___init___ => k_is)
    (case k_End___init__ => k_is)
    (case g_Lot___init__ => k_is)
    (case i_Lot___init__ => k_is)
    (case l_Lot___init__ => k_is)
    (case c_Lot___init___ => k_is)
    (case k_Lot___init__ => k_is)
    (case g_Turn___init__ => k_is)
    (case i_Turn___init__ => k_is)
    (case l_Turn___init__ => k_is)
    (case c_Turn___init___ => k_is)
    (case k_Turn___init__ => k_is)
    (case g_Builder___init__ => k_is)
    (case i_Builder___init__ => k_is)
    (case l_Builder___init__ => k_is)
    (case c_Builder___init___ => k_is)
    (case k_Builder___init__ => k_is)
    (case g_Builder_place => k_is)
    (case i_Builder_place => k_is)
    (case l_Builder_place => k_is)
    (case c_Builder_place_ => k_is)
    (case k_Builder_place => k_is)
    (case g_Builder_node => k_is)
    (case i_Builder_node => k_is)
    (case l_Builder_node => k_is)
    (case c_Builder_node_ => k_is)
    (case k_Builder_node => k_is)
    (case g_Builder_chosen => k_is)
    (case i_Builder_chosen => k_is)
    (case l_Builder_chosen => k_is)
    (case c_Builder_chosen_ => k_is)
    (case k_Builder_chosen => k_is)
    (case g_Builder_stored => k_is)
    (case i_Builder_stored => k_is)
    (case l_Builder_stored => k_is)
    (case c_Builder_stored_ => k_is)
    (case k_Builder_stored => k_is)
    (case g_Builder_branch => k_is)
    (case i_Builder_branch => k_is)
    (case l_Builder_branch => k_is)
    (case c_Builder_branch_ => k_is)
    (case k_Builder_branch => k_is)
    (case g_shown => k_is)
    (case i_shown => k_is)
    (case l_shown => k_is)
    (case c_shown_ => k_is)
    (case k_shown => k_is)
    (case g_chained => k_is)
    (case i_chained => k_is)
    (case l_chained => k_is)
    (case c_chained_ => k_is)
    (case k_chained => k_is)
    (case g_tree_of => k_is)
    (case i_tree_of => k_is)
    (case l_tree_of => k_is)
    (case c_tree_of_ => k_is)
    (case k_tree_of => k_is)
    (case g_Game___init__ => k_is)
    (case i_Game___init__ => k_is)
    (case l_Game___init__ => k_is)
    (case c_Game___init___ => k_is)
    (case k_Game___init__ => k_is)
    (case g__law_cell => k_is)
    (case i__law_cell => k_is)
    (case l__law_cell => k_is)
    (case c__law_cell_ => k_is)
    (case k__law_cell => k_is)
    (case g__law_is_integer => k_is)
    (case i__law_is_integer => k_is)
    (case l__law_is_integer => k_is)
    (case c__law_is_integer_ => k_is)
    (case k__law_is_integer => k_is)
    (case g__law_leaf => k_is)
    (case i__law_leaf => k_is)
    (case l__law_leaf => k_is)
    (case c__law_leaf_ => k_is)
    (case k__law_leaf => k_is)
    (case g__law_expression => k_is)
    (case i__law_expression => k_is)
    (case l__law_expression => k_is)
    (case c__law_expression_ => k_is)
    (case k__law_expression => k_is)
    (case g__law_value => k_is)
    (case i__law_value => k_is)
    (case l__law_value => k_is)
    (case c__law_value_ => k_is)
    (case k__law_value => k_is)
    (case g__law_plain => k_is)
    (case i__law_plain => k_is)
    (case l__law_plain => k_is)
    (case c__law_plain_ => k_is)
    (case k__law_plain => k_is)
    (case g__law_statement => k_is)
    (case i__law_statement => k_is)
    (case l__law_statement => k_is)
    (case c__law_statement_ => k_is)
    (case k__law_statement => k_is)
    (case g__law_run => k_is)
    (case i__law_run => k_is)
    (case l__law_run => k_is)
    (case c__law_run_ => k_is)
    (case k__law_run => k_is)
    (case g_law => k_is)
    (case i_law => k_is)
    (case l_law => k_is)
    (case c_law_ => k_is)
    (case k_law => k_is)
    (case pg_End => k_is)
    (case hd_End => k_is)
    (case po_End => k_is)
    (case sa_End => k_is)
    (case mk_End => k_is)
    (case kc_End => k_is)
    (case na_End_paid => k_is)
    (case ha_End => k_is)
    (case hn_End => k_is)
    (case ht_End => k_is)
    (case hm_End => k_is)
    (case pg_Lot => k_is)
    (case hd_Lot => k_is)
    (case po_Lot => k_is)
    (case sa_Lot => k_is)
    (case mk_Lot => k_is)
    (case kc_Lot => k_is)
    (case na_Lot_parts => k_is)
    (case ha_Lot => k_is)
    (case hn_Lot => k_is)
    (case ht_Lot => k_is)
    (case hm_Lot => k_is)
    (case pg_Turn => k_is)
    (case hd_Turn => k_is)
    (case po_Turn => k_is)
    (case sa_Turn => k_is)
    (case mk_Turn => k_is)
    (case kc_Turn => k_is)
    (case na_Turn_player => k_is)
    (case na_Turn_view => k_is)
    (case na_Turn_parts => k_is)
    (case ha_Turn => k_is)
    (case hn_Turn => k_is)
    (case ht_Turn => k_is)
    (case hm_Turn => k_is)
    (case pg_Builder => k_is)
    (case hd_Builder => k_is)
    (case po_Builder => k_is)
    (case sa_Builder => k_is)
    (case mk_Builder => k_is)
    (case kc_Builder => k_is)
    (case na_Builder_sizes => k_is)
    (case na_Builder_on => k_is)
    (case na_Builder_left => k_is)
    (case pg_Game => k_is)
    (case hd_Game => k_is)
    (case po_Game => k_is)
    (case sa_Game => k_is)
    (case mk_Game => k_is)
    (case kc_Game => k_is)
    (case na_Game_options => k_is)
    (case na_Game_variables => k_is)
    (case na_Game_rounds => k_is)
    (case Cx_TooLarge => k_is)
    (case xL_TooLarge => k_is)
    (case xsa_TooLarge => k_is)
    (case xga_TooLarge => k_is)
    (case xgg_TooLarge => k_is)
    (case xhd_TooLarge => k_is)
    (case xno_TooLarge => k_is)
    (case xiC_TooLarge => k_is)
    (case xtC_TooLarge => k_is)
    (case xkC_TooLarge => k_is)
    (case xex_TooLarge => k_is)
    (case xty_TooLarge => k_is)
    (case xop_TooLarge => k_is)
    (case ksx_TooLarge => ks_is)
    (case xve_TooLarge => k_is)
    (case xmc_TooLarge => k_is)
    (case xsub_TooLarge => k_is)
    (case xsu_TooLarge => k_is)
    (case rflt_TooLarge => first | rfl | decide +kernel | kernel_rfl)
    (case xl_TooLarge => k_is)
    (case xc_TooLarge => k_is)
    (case xda__TooLarge => k_is)
    (case rflv_TooLarge => first | rfl | decide +kernel | kernel_rfl)
    (case rflf_TooLarge => first | rfl | decide +kernel | kernel_rfl)
    (case xicl_TooLarge => k_is)
    (case xha_TooLarge => k_is)
    (case xhn_TooLarge => k_is)
    (case xht_TooLarge => k_is)
    (case xhm_TooLarge => k_is)
    (case xcc__TooLarge => k_is)
    (case ki_End_End => kit_is)
    (case ki_End_Lot => kit_is)
    (case ki_End_Turn => kit_is)
    (case ki_Lot_End => kit_is)
    (case ki_Lot_Lot => kit_is)
    (case ki_Lot_Turn => kit_is)
    (case ki_Turn_End => kit_is)
    (case ki_Turn_Lot => kit_is)
    (case ki_Turn_Turn => kit_is)
    (case n_int => k_is)
    (case n_max => k_is)
    (case n_min => k_is)
    (case n_len => k_is)
    (case n_dict => k_is)
    (case n_range => k_is)
    (case n_tuple => k_is)
    (case n_reversed => k_is)
    (case n_isinstance => k_is)
    (case n_bool => k_is)
    (case n_str => k_is)
    (case cg_GREATEST => k_is)
    (case cg_MOST_PLACES => k_is)
    (case el_seen => k_is)
#print axioms PySem.Challenge.cw_sureplay_k30_statements_of_one_way_holds
