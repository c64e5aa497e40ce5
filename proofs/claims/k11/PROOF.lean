import PyProof.Rows.All
import Wide.All
import OpenK.AllK
import Wide.FinOn
import HandS.ForMost
import HandS.More
import HandS.Wide
import HandS.Steps
import HandS.TupAny
import HandS.IsInst
import HandS.Defaults
import HandS.Head0
import HandS.Head1
import HandS.Head2
import HandS.HeadEnd
import HandS.HeadHook1
import HandS.HeadHook2
import HandS.Property
import HandS.Style
import KE.GoesEnum
import KE.GoesMore
import HandS.SortRule
import HandS.SortInts
import HandS.Deep
import HandS.Text
import KE.LtData
import HandS.Conv
import PySem.Challenge.RW_formsalike_k11_entries_in_any_order
set_option Elab.async false
set_option linter.all false
set_option maxRecDepth 100000
set_option maxHeartbeats 4000000
namespace Fa
open PySem PySem.Spec PyProof.Rows L2
abbrev FnP (K : PySem.W.Frag) (x qual : Str) (st : Stmt) (f : Addr) (fd : FuncData) : Prop := FunD K x qual (defArgs st) (defBody st) (defScope st) [] [] f fd
/-! ### a def that is called by its name -/
structure Cal (P : Program) (w : World) (K : PySem.W.Frag) (mg : Str → Option Value) (base : Heap) (k : Nat) (x : Str) (sp : Sp) : Prop where
  ex : ∃ (f : Addr) (fd : FuncData) (ps : List Str), FnOk P w K mg base CX0 k f fd ps sp ∧ mg x = some (.ref f) ∧ PySem.W.keepIn K (.ref f) = true ∧ Binds K fd ps []
section
variable {X : Cx} {k : Nat} {x : Str} {sp : Sp} {p pos : Pos} {e : Expr} {es : List Expr} {t : TA}
theorem pe_callC (c : Cal X.prog X.w X.K X.mg X.base k x sp) (hr : Room k X.A) (hg : Gl X x) (ha : PA X (e :: es) t) (hdb : (x == ("__debug__" : Str)) = false := by decide) (he : starEach (e :: es) X.env = (false, eval e X.env) :: starEach es X.env := by rfl) (hpl : (backTo pos (starEach es X.env)).any (·.1) = false := by rfl) :
    PE X (.Call (.Name x p) (e :: es) [] pos) (tCall sp [] E0 t) := by
  obtain ⟨f, fd, ps, F, m, kp, b⟩ := c.ex
  exact pe_call F hr hg m kp b .nil pass0 ha hdb he hpl
theorem pe_callC0 (c : Cal X.prog X.w X.K X.mg X.base k x sp) (hr : Room k X.A) (hg : Gl X x) (hdb : (x == ("__debug__" : Str)) = false := by decide) :
    PE X (.Call (.Name x p) [] [] pos) (tCall sp [] E0 tNil) := by
  obtain ⟨f, fd, ps, F, m, kp, b⟩ := c.ex
  exact pe_call0 F hr hg m kp b .nil pass0 hdb
theorem pe_globI {i : Int} (hg : Gl X x) (hm : ∃ t, X.mg x = some (.int i t)) (hd : (x == ("__debug__" : Str)) = false := by decide) : PE X (.Name x pos) (tC (.int i)) := by
  obtain ⟨t, m⟩ := hm
  exact pe_glob hg m ⟨t, rfl⟩ hd
theorem pe_globS {i : Str} (hg : Gl X x) (hm : ∃ t, X.mg x = some (.str i t)) (hd : (x == ("__debug__" : Str)) = false := by decide) : PE X (.Name x pos) (tC (.str i)) := by
  obtain ⟨t, m⟩ := hm
  exact pe_glob hg m ⟨t, rfl⟩ hd
theorem pe_globR {a : Addr} (hg : Gl X x) (m : X.mg x = some (.ref a)) (hd : (x == ("__debug__" : Str)) = false := by decide) : PE X (.Name x pos) (tC (.ref a)) := pe_glob hg m rfl hd
end
/-! ### operations by names -/
def rAddI : R2 := rI0 fun i j => .int (i + j)
def rSubI : R2 := rI0 fun i j => .int (i - j)
def rMulI : R2 := rI CMul fun i j => .int (i * j)
def rMulW : R2 := rI CMulW fun i j => .int (i * j)
def rDivI : R2 := rI CDiv fun i j => .int (i / j)
def rDivW : R2 := rI CDivW fun i j => .int (i / j)
def rModI : R2 := rI (fun _ j => 0 < j) fun i j => .int (i % j)
def rPowI : R2 := rI CPow fun i j => .int (i ^ j.toNat)
def rShlI : R2 := rI CPow fun i j => .int (i * 2 ^ j.toNat)
def rShrI : R2 := rI (fun _ j => 0 ≤ j) fun i j => .int (i / 2 ^ j.toNat)
def rAndI : R2 := rI0 fun i j => .int (Builtin.bitAnd i j)
def rLtI : R2 := rI0 fun i j => .bl (decide (i < j))
def rLeI : R2 := rI0 fun i j => .bl (decide (i ≤ j))
def rGtI : R2 := rI0 fun i j => .bl (decide (j < i))
def rGeI : R2 := rI0 fun i j => .bl (decide (j ≤ i))
def rNegI : V → Hp → VK → Prop := rU fun i => .int (-i)
def rAddS : R2 := fun x y H Q => ∃ i j, x = .str i ∧ y = .str j ∧ i.length + j.length ≤ sizeLine ∧ Q (.str (i ++ j)) H
def rLtS : R2 := fun x y H Q => ∃ i j, x = .str i ∧ y = .str j ∧ Q (.bl (decide (i.cps.toList < j.cps.toList))) H
def rAbs : List V → Hp → VK → Prop := fun xs H Q => ∃ i, xs = [.int i] ∧ Q (.int (if i < 0 then -i else i)) H
def rInt1 : List V → Hp → VK → Prop := fun xs H Q => (∃ i, xs = [.int i] ∧ Q (.int i) H) ∨ ∃ k, xs = [.bl k] ∧ Q (.int (if k then 1 else 0)) H
def rBool1 : List V → Hp → VK → Prop := fun xs H Q => (∃ i, xs = [.int i] ∧ Q (.bl (i != 0)) H) ∨ ∃ k, xs = [.bl k] ∧ Q (.bl k) H
def rStrI : List V → Hp → VK → Prop := fun xs H Q => ∃ i, xs = [.int i] ∧ i.natAbs.log2 < 1920 ∧ Q (.str (toString i)) H
def rOrd : List V → Hp → VK → Prop := fun xs H Q => ∃ x, xs = [.str x] ∧ x.length = 1 ∧ Q (.int (x.cps.getD 0 0 : Nat)) H
def rChr : List V → Hp → VK → Prop := fun xs H Q => ∃ i, xs = [.int i] ∧ 0 ≤ i ∧ i ≤ 1114111 ∧ Q (.str ⟨#[i.toNat]⟩) H
def rMax2 : List V → Hp → VK → Prop := fun xs H Q => ∃ i j, xs = [.int i, .int j] ∧ Q (.int (if j > i then j else i)) H
def rMin2 : List V → Hp → VK → Prop := fun xs H Q => ∃ i j, xs = [.int i, .int j] ∧ Q (.int (if j < i then j else i)) H
def rLenQ (K : PySem.W.Frag) : List V → Hp → VK → Prop := fun xs H Q => ∃ p ys, xs = [.ref p] ∧ (SqL K H p ys ∨ SqT K H p ys) ∧ Q (.int ys.length) H
def rLenS : List V → Hp → VK → Prop := fun xs H Q => ∃ z, xs = [.str z] ∧ z.length ≤ sizeLine ∧ Q (.int z.length) H
def rListOf (K : PySem.W.Frag) : List V → Hp → VK → Prop := fun xs H Q => ∃ p ys, xs = [.ref p] ∧ (SqL K H p ys ∨ SqT K H p ys) ∧ ∀ l, H l = none → Q (.ref l) (upd H l (.lst ys))
def rTupOf (K : PySem.W.Frag) : List V → Hp → VK → Prop := fun xs H Q => ∃ p ys, xs = [.ref p] ∧ ((SqL K H p ys ∧ ∀ l, H l = none → Q (.ref l) (upd H l (.tup ys))) ∨ (SqT K H p ys ∧ Q (.ref p) H))
/-! ### heaps -/
/-- all that was tracked, but for what stands in S, is as it was -/
def Keep (S : List Addr) (H H1 : Hp) : Prop := ∀ a o, a ∉ S → H a = some o → H1 a = some o
theorem Keep.refl {S : List Addr} (H : Hp) : Keep S H H := fun _ _ _ h => h
theorem Keep.trans {S : List Addr} {H H1 H2 : Hp} (a : Keep S H H1) (b : Keep S H1 H2) : Keep S H H2 := fun x o n h => b x o n (a x o n h)
theorem Keep.mono {S S' : List Addr} {H H1 : Hp} (a : Keep S H H1) (h : ∀ x, x ∈ S → x ∈ S') : Keep S' H H1 := fun x o n e => a x o (fun z => n (h x z)) e
theorem Keep.all {S : List Addr} {H H1 : Hp} (a : Keep [] H H1) : Keep S H H1 := a.mono (fun _ h => by cases h)
theorem Keep.new {S : List Addr} {H : Hp} {p : Addr} {o : HO} (h : H p = none) : Keep S H (upd H p o) := fun a u _ e => by
  rw [upd_ne (ne_of_none e h)]
  exact e
theorem Keep.put {S : List Addr} {H H1 : Hp} {p : Addr} {o : HO} (k : Keep S H H1) (h : p ∈ S ∨ H p = none) : Keep S H (upd H1 p o) := fun a u n e => by
  rcases h with h | h
  · rw [upd_ne (fun z => n (by rw [z]; exact h))]
    exact k a u n e
  · rw [upd_ne (ne_of_none e h)]
    exact k a u n e
theorem Keep.rd {S : List Addr} {H H1 : Hp} {a : Addr} {u : HO} (k : Keep S H H1) (n : a ∉ S) (h : Rd H a u) : Rd H1 a u := by
  rcases h with h | ⟨o, h⟩
  · exact .inl (k a _ n h)
  · exact .inr ⟨o, k a _ n h⟩
theorem Keep.sqL {S : List Addr} {K : PySem.W.Frag} {H H1 : Hp} {a : Addr} {xs : List V} (k : Keep S H H1) (n : a ∉ S) (h : SqL K H a xs) : SqL K H1 a xs := by
  rcases h with h | h
  · exact .inl (k.rd n h)
  · exact .inr h
theorem Keep.sqT {S : List Addr} {K : PySem.W.Frag} {H H1 : Hp} {a : Addr} {xs : List V} (k : Keep S H H1) (n : a ∉ S) (h : SqT K H a xs) : SqT K H1 a xs := by
  rcases h with h | h
  · exact .inl (k.rd n h)
  · exact .inr h
theorem Keep.fresh {S : List Addr} {H H1 : Hp} {a : Addr} (k : Keep S H H1) (n : a ∉ S) (h : H1 a = none) : H a = none := by
  cases e : H a with
  | none => rfl
  | some o =>
    rw [k a o n e] at h
    cases h
/-! ### to read a term forwards: one rule a construct -/
section
variable {K : PySem.W.Frag} {σ : L2.St} {H : Hp} {Q : VK} {D : Ends} {t u : TS} {te ta tb tc : TE} {tt tt2 : TT} {i j : Int} {n : Nat} {v x y : V} {r r2 : R2} {b : Bool} {ar : TA} {A B : Prop} {QT : Bool → Hp → Prop} {QA : List V → Hp → Prop}
theorem i_seq (h : t { D with nx := u D } σ H) : tSeq t u D σ H := h
theorem i_asg (h : te σ H fun x H1 => D.nx (σ.set n (some x)) H1) : tAsg te (gName n) D σ H := h
theorem i_asgG {g : TG} (h : te σ H fun x H1 => g x σ H1 D.nx) : tAsg te g D σ H := h
theorem i_ret (h : te σ H D.rt) : tRet te D σ H := h
theorem i_retN (h : D.rt .non H) : tRetN D σ H := h
theorem i_drop (h : te σ H fun _ H1 => D.nx σ H1) : tDrop te D σ H := h
theorem i_ifS (h : tt σ H fun b H1 => if b = true then t D σ H1 else u D σ H1) : tIfS tt t u D σ H := h
theorem i_next (h : D.nx σ H) : tNext D σ H := h
theorem i_cont (h : D.ct σ H) : tCont D σ H := h
theorem i_break (h : D.bk σ H) : tBreak D σ H := h
theorem i_var (e : σ[n]? = some (some v)) (h : Q v H) : tVar n σ H Q := ⟨v, e, h⟩
theorem i_c (h : Q v H) : tC v σ H Q := h
theorem i_op (h : ta σ H fun x H1 => tb σ H1 fun y H2 => r x y H2 Q) : tOp r ta tb σ H Q := h
theorem i_un {f : V → Hp → VK → Prop} (h : ta σ H fun x H1 => f x H1 Q) : tUn f ta σ H Q := h
theorem i_nil (h : QA [] H) : tNil σ H QA := h
theorem i_cons (h : ta σ H fun x H1 => ar σ H1 fun xs H2 => QA (x :: xs) H2) : tCons ta ar σ H QA := h
theorem i_call {sp : Sp} {E : XK} (h : ar σ H fun vs H1 => sp vs H1 Q E) : tCall sp [] E ar σ H Q := by
  show ar σ H fun vs H1 => sp (vs ++ []) H1 Q E
  simpa only [List.append_nil] using h
theorem i_cb {f : List V → Hp → VK → Prop} (h : ar σ H fun vs H1 => f vs H1 Q) : tCB f ar σ H Q := h
theorem i_test (h : ta σ H fun x H' => ∃ k, x = .bl k ∧ QT k H') : tTest ta σ H QT := h
theorem i_tB (h : ta σ H fun x H' => ∃ k, x = .bl k ∧ QT k H') : tB ta σ H QT := h
theorem i_bl (h : QT b H) : ∃ k, V.bl b = .bl k ∧ QT k H := ⟨b, rfl, h⟩
theorem i_and (h : tt σ H fun c H1 => if c = true then tt2 σ H1 QT else QT false H1) : tAnd tt tt2 σ H QT := h
theorem i_or (h : tt σ H fun c H1 => if c = true then QT true H1 else tt2 σ H1 QT) : tOr tt tt2 σ H QT := h
theorem i_not (h : tt σ H fun c H1 => QT (!c) H1) : tNot tt σ H QT := h
theorem i_andV (h : ta σ H fun x H1 => ∃ c, x = .bl c ∧ if c = true then tb σ H1 Q else Q (.bl false) H1) : tAndV ta tb σ H Q := h
theorem i_orV (h : ta σ H fun x H1 => ∃ c, x = .bl c ∧ if c = true then Q (.bl true) H1 else tb σ H1 Q) : tOrV ta tb σ H Q := h
theorem i_notV (h : ta σ H fun x H1 => ∃ c, x = .bl c ∧ Q (.bl (!c)) H1) : tNotV ta σ H Q := h
theorem i_chain (h : ta σ H fun x H1 => tb σ H1 fun y H2 => r x y H2 fun z H3 => ∃ k, z = .bl k ∧ (if k = true then tc σ H3 fun w' H4 => r2 y w' H4 Q else Q (.bl false) H3)) : tChain r r2 ta tb tc σ H Q := h
theorem i_if (h : tt σ H fun c H1 => if c = true then ta σ H1 Q else tb σ H1 Q) : tIf tt ta tb σ H Q := h
theorem i_ex {P : Bool → Prop} (h : P b) : ∃ c, V.bl b = .bl c ∧ P c := ⟨b, rfl, h⟩
theorem i_T (h : A) : if true = true then A else B := iteT h
theorem i_F (h : B) : if false = true then A else B := iteF h
theorem i_NT (h : B) : if (!true) = true then A else B := iteF h
theorem i_NF (h : A) : if (!false) = true then A else B := iteT h
theorem i_NN {c : Bool} (h : if c = true then A else B) : if (!!c) = true then A else B := by rw [Bool.not_not]; exact h
theorem i_NDT {c : Prop} [Decidable c] (h : ¬ c) (h1 : A) : if (!decide c) = true then A else B := by rw [decide_eq_false h]; exact iteT h1
theorem i_NDF {c : Prop} [Decidable c] (h : c) (h1 : B) : if (!decide c) = true then A else B := by rw [decide_eq_true h]; exact iteF h1
theorem i_D {c : Prop} [Decidable c] (h1 : c → A) (h2 : ¬ c → B) : if decide c = true then A else B := by
  by_cases h : c
  · rw [decide_eq_true h]; exact i_T (h1 h)
  · rw [decide_eq_false h]; exact i_F (h2 h)
theorem i_ND {c : Prop} [Decidable c] (h1 : ¬ c → A) (h2 : c → B) : if (!decide c) = true then A else B := by
  by_cases h : c
  · rw [decide_eq_true h]; exact i_F (h2 h)
  · rw [decide_eq_false h]; exact i_T (h1 h)
theorem i_DT {c : Prop} [Decidable c] (h : c) (h1 : A) : if decide c = true then A else B := by rw [decide_eq_true h]; exact i_T h1
theorem i_DF {c : Prop} [Decidable c] (h : ¬ c) (h1 : B) : if decide c = true then A else B := by rw [decide_eq_false h]; exact i_F h1
theorem i_B (c : Bool) (h1 : c = true → A) (h2 : c = false → B) : if c = true then A else B := by
  cases c
  · exact i_F (h2 rfl)
  · exact i_T (h1 rfl)
theorem i_add (h : Q (.int (i + j)) H) : rAddI (.int i) (.int j) H Q := ⟨i, j, rfl, rfl, h⟩
theorem i_sub (h : Q (.int (i - j)) H) : rSubI (.int i) (.int j) H Q := ⟨i, j, rfl, rfl, h⟩
theorem i_mul (c : CMul i j) (h : Q (.int (i * j)) H) : rMulI (.int i) (.int j) H Q := ⟨i, j, rfl, rfl, c, h⟩
theorem i_mulL (c : -(2 ^ 64) < i ∧ i < 2 ^ 64) (h : Q (.int (i * j)) H) : rMulI (.int i) (.int j) H Q := ⟨i, j, rfl, rfl, .inl c, h⟩
theorem i_mulR (c : -(2 ^ 64) < j ∧ j < 2 ^ 64) (h : Q (.int (i * j)) H) : rMulI (.int i) (.int j) H Q := ⟨i, j, rfl, rfl, .inr c, h⟩
theorem i_mulW (c : CMulW i j) (h : Q (.int (i * j)) H) : rMulW (.int i) (.int j) H Q := ⟨i, j, rfl, rfl, c, h⟩
theorem i_div (c : 0 < j ∧ j < 1073741824) (h : Q (.int (i / j)) H) : rDivI (.int i) (.int j) H Q := ⟨i, j, rfl, rfl, c, h⟩
theorem i_divW (c : CDivW i j) (h : Q (.int (i / j)) H) : rDivW (.int i) (.int j) H Q := ⟨i, j, rfl, rfl, c, h⟩
theorem i_mod (c : 0 < j) (h : Q (.int (i % j)) H) : rModI (.int i) (.int j) H Q := ⟨i, j, rfl, rfl, c, h⟩
theorem i_pow (c : 0 ≤ j ∧ j ≤ 1000000 ∧ i.natAbs < 2 ^ 64) (h : Q (.int (i ^ j.toNat)) H) : rPowI (.int i) (.int j) H Q := ⟨i, j, rfl, rfl, c, h⟩
theorem i_shl (c : 0 ≤ j ∧ j ≤ 1000000 ∧ i.natAbs < 2 ^ 64) (h : Q (.int (i * 2 ^ j.toNat)) H) : rShlI (.int i) (.int j) H Q := ⟨i, j, rfl, rfl, c, h⟩
theorem i_shr (c : 0 ≤ j) (h : Q (.int (i / 2 ^ j.toNat)) H) : rShrI (.int i) (.int j) H Q := ⟨i, j, rfl, rfl, c, h⟩
theorem i_band (h : Q (.int (Builtin.bitAnd i j)) H) : rAndI (.int i) (.int j) H Q := ⟨i, j, rfl, rfl, h⟩
theorem i_lt (h : Q (.bl (decide (i < j))) H) : rLtI (.int i) (.int j) H Q := ⟨i, j, rfl, rfl, h⟩
theorem i_le (h : Q (.bl (decide (i ≤ j))) H) : rLeI (.int i) (.int j) H Q := ⟨i, j, rfl, rfl, h⟩
theorem i_gt (h : Q (.bl (decide (j < i))) H) : rGtI (.int i) (.int j) H Q := ⟨i, j, rfl, rfl, h⟩
theorem i_ge (h : Q (.bl (decide (j ≤ i))) H) : rGeI (.int i) (.int j) H Q := ⟨i, j, rfl, rfl, h⟩
theorem i_neg (h : Q (.int (-i)) H) : rNegI (.int i) H Q := ⟨i, rfl, h⟩
theorem dV {i j : Int} : decide (V.int i = V.int j) = decide (i = j) := by
  rw [dec_int]
  exact Bool.beq_eq_decide_eq i j
theorem i_eqI (h : Q (.bl (decide (i = j))) H) : rEq (.int i) (.int j) H Q := ⟨rfl, by rw [dV]; exact h⟩
theorem i_neI (h : Q (.bl (!decide (i = j))) H) : rNe (.int i) (.int j) H Q := ⟨rfl, by rw [dV]; exact h⟩
theorem i_eqS {i j : Str} (h : Q (.bl (decide (i = j))) H) : rEq (.str i) (.str j) H Q := ⟨rfl, by
  have e : decide (V.str i = V.str j) = decide (i = j) := by
    by_cases q : i = j
    · rw [decide_eq_true q, decide_eq_true (congrArg V.str q)]
    · rw [decide_eq_false q, decide_eq_false fun z => q (V.str.inj z)]
  rw [e]; exact h⟩
theorem i_neS {i j : Str} (h : Q (.bl (!decide (i = j))) H) : rNe (.str i) (.str j) H Q := ⟨rfl, by
  have e : decide (V.str i = V.str j) = decide (i = j) := by
    by_cases q : i = j
    · rw [decide_eq_true q, decide_eq_true (congrArg V.str q)]
    · rw [decide_eq_false q, decide_eq_false fun z => q (V.str.inj z)]
  rw [e]; exact h⟩
theorem i_neB {i j : Bool} (h : Q (.bl (!decide (i = j))) H) : rNe (.bl i) (.bl j) H Q := ⟨rfl, by
  have e : decide (V.bl i = V.bl j) = decide (i = j) := by cases i <;> cases j <;> rfl
  rw [e]; exact h⟩
theorem i_eqB {i j : Bool} (h : Q (.bl (decide (i = j))) H) : rEq (.bl i) (.bl j) H Q := ⟨rfl, by
  have e : decide (V.bl i = V.bl j) = decide (i = j) := by cases i <;> cases j <;> rfl
  rw [e]; exact h⟩
theorem i_isN (h : Q (.bl (decide (v = .non))) H) : rIsN v .non H Q := ⟨rfl, h⟩
theorem i_notN (h : Q (.bl (!decide (v = .non))) H) : rNotN v .non H Q := ⟨rfl, h⟩
theorem i_abs (h : Q (.int (if i < 0 then -i else i)) H) : rAbs [.int i] H Q := ⟨i, rfl, h⟩
theorem i_int1 (h : Q (.int i) H) : rInt1 [.int i] H Q := .inl ⟨i, rfl, h⟩
theorem i_int1b (h : Q (.int (if b then 1 else 0)) H) : rInt1 [.bl b] H Q := .inr ⟨b, rfl, h⟩
theorem i_max2 (h : Q (.int (if j > i then j else i)) H) : rMax2 [.int i, .int j] H Q := ⟨i, j, rfl, h⟩
theorem i_strI (c : i.natAbs.log2 < 1920) (h : Q (.str (toString i)) H) : rStrI [.int i] H Q := ⟨i, rfl, c, h⟩
theorem i_lenL {p : Addr} {ys : List V} (c : SqL K H p ys) (h : Q (.int ys.length) H) : rLenQ K [.ref p] H Q := ⟨p, ys, rfl, .inl c, h⟩
theorem i_lenT {p : Addr} {ys : List V} (c : SqT K H p ys) (h : Q (.int ys.length) H) : rLenQ K [.ref p] H Q := ⟨p, ys, rfl, .inr c, h⟩
theorem i_ixL {p : Addr} {ys : List V} (c : SqL K H p ys) (a : atI ys i = some v) (h : Q v H) : rIxL K (.ref p) (.int i) H Q := ⟨p, ys, i, v, rfl, rfl, c, a, h⟩
theorem i_ixT {p : Addr} {ys : List V} (c : SqT K H p ys) (a : atI ys i = some v) (h : Q v H) : rIxT K (.ref p) (.int i) H Q := ⟨p, ys, i, v, rfl, rfl, c, a, h⟩
/-- a new object stands at p, all else is as it was -/
structure NewAt (H : Hp) (p : Addr) (o : HO) (H1 : Hp) : Prop where
  free : H p = none
  at_ : H1 p = some o
  keep : ∀ S, Keep S H H1
theorem NewAt.mk' {p : Addr} {o : HO} (h : H p = none) : NewAt H p o (upd H p o) := ⟨h, upd_same, fun _ => .new h⟩
theorem NewAt.sqL {p : Addr} {xs : List V} {H1 : Hp} (h : NewAt H p (.lst xs) H1) : SqL K H1 p xs := SqL.of h.at_
theorem NewAt.sqT {p : Addr} {xs : List V} {H1 : Hp} (h : NewAt H p (.tup xs) H1) : SqT K H1 p xs := SqT.of h.at_
def NewL (xs : List V) (H : Hp) (Q : VK) : Prop := xs.length ≤ sizeLine ∧ ∀ p, H p = none → Q (.ref p) (upd H p (.lst xs))
def NewT (xs : List V) (H : Hp) (Q : VK) : Prop := xs.length ≤ sizeLine ∧ ∀ p, H p = none → Q (.ref p) (upd H p (.tup xs))
theorem i_lst (h : ar σ H fun xs H1 => NewL xs H1 Q) : tLst ar σ H Q := h
theorem i_tup (h : ar σ H fun xs H1 => NewT xs H1 Q) : tTup ar σ H Q := h
theorem small_of {n : Nat} (h : n ≤ 1000000) : n ≤ sizeLine := Nat.le_trans h (by decide)
theorem small_lt {n : Nat} (h : n < 1000000) : n < sizeLine := Nat.lt_of_lt_of_le h (by decide)
theorem i_newL {xs : List V} (c : xs.length ≤ 1000000) (h : ∀ p H1, NewAt H p (.lst xs) H1 → Q (.ref p) H1) : NewL xs H Q := ⟨small_of c, fun p np => h p _ (.mk' np)⟩
theorem i_newT {xs : List V} (c : xs.length ≤ 1000000) (h : ∀ p H1, NewAt H p (.tup xs) H1 → Q (.ref p) H1) : NewT xs H Q := ⟨small_of c, fun p np => h p _ (.mk' np)⟩
theorem i_append {to : TE} (h : to σ H fun o H1 => tyV K "list" o H1 ∧ ar σ H1 fun ys H2 => rAppend o ys H2 Q) : tBM K "list" rAppend to ar σ H Q := h
theorem i_app {p : Addr} {xs : List V} (e : H p = some (.lst xs)) (c : xs.length < 1000000) (h : Q .non (upd H p (.lst (xs ++ [v])))) : rAppend (.ref p) [v] H Q := ⟨p, xs, v, rfl, rfl, e, small_lt c, h⟩
theorem i_extend {to : TE} (h : to σ H fun o H1 => tyV K "list" o H1 ∧ ar σ H1 fun ys H2 => rExtend o ys H2 Q) : tBM K "list" rExtend to ar σ H Q := h
theorem i_ext {p q : Addr} {xs zs : List V} (e : H p = some (.lst xs)) (e2 : H q = some (.lst zs)) (c : xs.length + zs.length ≤ 1000000) (h : Q .non (upd H p (.lst (xs ++ zs)))) : rExtend (.ref p) [.ref q] H Q := ⟨p, q, xs, zs, rfl, rfl, e, e2, small_of c, h⟩
theorem i_cat {p q : Addr} {xs zs : List V} (e : H p = some (.lst xs)) (e2 : H q = some (.lst zs)) (c : xs.length + zs.length ≤ 1000000) (h : ∀ r H1, NewAt H r (.lst (xs ++ zs)) H1 → Q (.ref r) H1) : rCat (.ref p) (.ref q) H Q := ⟨p, q, xs, zs, rfl, rfl, e, e2, small_of c, fun r nr => h r _ (.mk' nr)⟩
theorem i_tupL {p : Addr} {xs : List V} (e : SqL K H p xs) (h : ∀ r H1, NewAt H r (.tup xs) H1 → Q (.ref r) H1) : rTupOf K [.ref p] H Q := ⟨p, xs, rfl, .inl ⟨e, fun r nr => h r _ (.mk' nr)⟩⟩
theorem i_lstOf {p : Addr} {xs : List V} (e : SqL K H p xs ∨ SqT K H p xs) (h : ∀ r H1, NewAt H r (.lst xs) H1 → Q (.ref r) H1) : rListOf K [.ref p] H Q := ⟨p, xs, rfl, e, fun r nr => h r _ (.mk' nr)⟩
theorem i_lenQ {p : Addr} {ys : List V} (c : SqL K H p ys ∨ SqT K H p ys) (h : Q (.int ys.length) H) : rLenQ K [.ref p] H Q := ⟨p, ys, rfl, c, h⟩
theorem i_sl {f : V → Option Int → Option Int → Hp → VK → Prop} {tl th : TO} (h : te σ H fun x H1 => tl σ H1 fun l H2 => th σ H2 fun u H3 => f x l u H3 Q) : tSl f te tl th σ H Q := h
theorem i_noPart {QO : Option Int → Hp → Prop} (h : QO none H) : tNoPart σ H QO := h
theorem i_part {QO : Option Int → Hp → Prop} (h : te σ H fun x H1 => ∃ i, x = .int i ∧ QO (some i) H1) : tPart te σ H QO := h
theorem i_partI {P : Int → Prop} (h : P i) : ∃ j, V.int i = .int j ∧ P j := ⟨i, rfl, h⟩
theorem i_slL {p : Addr} {xs : List V} {lo hi : Option Int} (e : SqL K H p xs) (h : ∀ r H1, NewAt H r (.lst (cutV xs lo hi)) H1 → Q (.ref r) H1) : rSlL K (.ref p) lo hi H Q := ⟨p, xs, rfl, e, fun r nr => h r _ (.mk' nr)⟩
theorem cutV_to (xs : List V) (k : Nat) : cutV xs none (some (k : Int)) = xs.take k := by
  unfold cutV
  rw [HT.sIx_none, HT.sIx_nat]
  rw [List.drop_zero, Nat.sub_zero]
  by_cases c : k ≤ xs.length
  · rw [Nat.min_eq_left c]
  · rw [Nat.min_eq_right (by omega), List.take_length, List.take_of_length_le (by omega)]
theorem cutV_from (xs : List V) (k : Nat) : cutV xs (some (k : Int)) none = xs.drop k := by
  unfold cutV
  rw [HT.sIx_none, HT.sIx_nat]
  by_cases c : k ≤ xs.length
  · rw [Nat.min_eq_left c, List.take_of_length_le (by rw [List.length_drop]; omega)]
  · rw [Nat.min_eq_right (by omega), List.drop_length, List.drop_of_length_le (by omega)]
    simp
theorem i_max1 {a : Addr} {x y : Int} (h : SqL K H a [.int x, .int y]) (hq : Q (.int (max x y)) H) : rMax K [.ref a] H Q := by
  refine ⟨a, [x, y], rfl, h, Nat.succ_pos _, fun m hm hy => ?_⟩
  have h1 := hy x (by simp)
  have h2 := hy y (by simp)
  have e : m = max x y := by
    simp at hm
    omega
  rw [e]
  exact hq
theorem i_min1 {a : Addr} {x y : Int} (h : SqL K H a [.int x, .int y]) (hq : Q (.int (min x y)) H) : rMin K [.ref a] H Q := by
  refine ⟨a, [x, y], rfl, h, Nat.succ_pos _, fun m hm hy => ?_⟩
  have h1 := hy x (by simp)
  have h2 := hy y (by simp)
  have e : m = min x y := by
    simp at hm
    omega
  rw [e]
  exact hq
theorem i_gSub {to ti : TE} {ts : TSet} {QS : L2.St → Hp → Prop} (h : to σ H fun o H1 => ti σ H1 fun i H2 => ts o i v H2 fun H3 => QS σ H3) : gSub to ti ts v σ H QS := h
theorem i_gName {QS : L2.St → Hp → Prop} (h : QS (σ.set n (some v)) H) : gName n v σ H QS := h
theorem i_setL {p : Addr} {xs : List V} {k : Int} {j : Nat} {QH : Hp → Prop} (e : H p = some (.lst xs)) (c : ixN xs.length k = some j) (h : QH (upd H p (.lst (xs.set j v)))) : rSetL (.ref p) (.int k) v H QH := ⟨p, xs, k, j, rfl, rfl, e, c, h⟩
theorem ty_lst {p : Addr} {xs : List V} (e : H p = some (.lst xs)) : tyV K "list" (.ref p) H := .inl ⟨rfl, _, SqL.of e⟩
end
/-! ### loops -/
section
variable {K : PySem.W.Frag} {σ : L2.St} {H : Hp} {Q : VK} {D : Ends} {g : TG} {tb : TS} {ar : TA} {te tl : TE} {wi : TI} {tt : TT} {vs : List Nat} {a : Addr} {xs : List V}
def ForK (J : It) (g : TG) (tb : TS) (D : Ends) (σ : L2.St) (H1 : Hp) : Prop := ∃ W : Nat → Nat → L2.St → Hp → Prop, (∃ m, W 0 m σ H1) ∧ ∀ i m σ H, W i m σ H →
  (J.stop i H ∧ D.nx σ H) ∨ (J.go i H ∧ ∃ N : L2.St → Hp → Prop, (∀ σ' H', N σ' H' → ∃ m', m' < m ∧ W (i + 1) m' σ' H') ∧ ∀ x H', J.yld i H x H' → g x σ H' fun σ2 H2 => tb { D with nx := N, ct := N, bk := D.nx } σ2 H2)
theorem i_for (h : wi σ H fun J H1 => ForK J g tb D σ H1) : tFor wi g tb D σ H := h
def RngK1 (vs : List V) (H : Hp) (R : It → Hp → Prop) : Prop := ∃ j : Int, vs = [.int j] ∧ -(2 ^ 62) ≤ j ∧ j < 2 ^ 62 ∧ R (Itr 0 j.toNat) H
def RngK2 (vs : List V) (H : Hp) (R : It → Hp → Prop) : Prop := ∃ i j : Int, vs = [.int i, .int j] ∧ (-(2 ^ 62) ≤ i ∧ i < 2 ^ 62 ∧ -(2 ^ 62) ≤ j ∧ j < 2 ^ 62) ∧ R (Itr i (j - i).toNat) H
theorem i_rng1 {R : It → Hp → Prop} (h : ar σ H fun vs H1 => RngK1 vs H1 R) : iRng1 ar σ H R := h
theorem i_rng2 {R : It → Hp → Prop} (h : ar σ H fun vs H1 => RngK2 vs H1 R) : iRng2 ar σ H R := h
theorem i_rngK1 {R : It → Hp → Prop} {j : Int} (c : -(2 ^ 62) ≤ j ∧ j < 2 ^ 62) (h : R (Itr 0 j.toNat) H) : RngK1 [.int j] H R := ⟨j, rfl, c.1, c.2, h⟩
theorem i_rngK2 {R : It → Hp → Prop} {i j : Int} (c : -(2 ^ 62) ≤ i ∧ i < 2 ^ 62 ∧ -(2 ^ 62) ≤ j ∧ j < 2 ^ 62) (h : R (Itr i (j - i).toNat) H) : RngK2 [.int i, .int j] H R := ⟨i, j, rfl, c, h⟩
def ListK (K : PySem.W.Frag) (x : V) (H : Hp) (R : It → Hp → Prop) : Prop := ∃ a, x = .ref a ∧ (∃ xs, SqL K H a xs) ∧ R (Itl K a) H
def TupK (K : PySem.W.Frag) (x : V) (H : Hp) (R : It → Hp → Prop) : Prop := ∃ a, x = .ref a ∧ (∃ xs, SqT K H a xs) ∧ R (Itt K a) H
theorem i_list {R : It → Hp → Prop} (h : tl σ H fun x H1 => ListK K x H1 R) : iList K tl σ H R := h
theorem i_tupI {R : It → Hp → Prop} (h : tl σ H fun x H1 => TupK K x H1 R) : iTup K tl σ H R := h
theorem i_listK {R : It → Hp → Prop} (c : SqL K H a xs) (h : R (Itl K a) H) : ListK K (.ref a) H R := ⟨a, rfl, ⟨xs, c⟩, h⟩
theorem i_tupK {R : It → Hp → Prop} (c : SqT K H a xs) (h : R (Itt K a) H) : TupK K (.ref a) H R := ⟨a, rfl, ⟨xs, c⟩, h⟩
/-- for k in range(n) -/
theorem f_rng {n : Nat} (Pv : Nat → L2.St → Hp → Prop) (h0 : Pv 0 σ H)
    (hs : ∀ i σ H, i < n → Pv i σ H → g (.int (i : Int)) σ H fun σ2 H2 => tb { D with nx := Pv (i + 1), ct := Pv (i + 1), bk := D.nx } σ2 H2) (hd : ∀ σ H, Pv n σ H → D.nx σ H) : ForK (Itr 0 n) g tb D σ H :=
  for_range (lo := 0) Pv h0 (fun i σ H hi hp => by have z := hs i σ H hi hp; simpa using z) hd
theorem f_rngL {lo : Int} {n : Nat} (Pv : Nat → L2.St → Hp → Prop) (h0 : Pv 0 σ H)
    (hs : ∀ i σ H, i < n → Pv i σ H → g (.int (lo + i)) σ H fun σ2 H2 => tb { D with nx := Pv (i + 1), ct := Pv (i + 1), bk := D.nx } σ2 H2) (hd : ∀ σ H, Pv n σ H → D.nx σ H) : ForK (Itr lo n) g tb D σ H :=
  for_range (lo := lo) Pv h0 hs hd
theorem f_list (Pv : Nat → L2.St → Hp → Prop) (h0 : Pv 0 σ H) (hl : ∀ i σ H, i ≤ xs.length → Pv i σ H → SqL K H a xs)
    (hs : ∀ i x σ H, xs[i]? = some x → Pv i σ H → g x σ H fun σ2 H2 => tb { D with nx := Pv (i + 1), ct := Pv (i + 1), bk := D.nx } σ2 H2) (hd : ∀ σ H, Pv xs.length σ H → D.nx σ H) : ForK (Itl K a) g tb D σ H :=
  for_list (xs := xs) Pv h0 hl hs hd
theorem f_tup (Pv : Nat → L2.St → Hp → Prop) (h0 : Pv 0 σ H) (hl : ∀ i σ H, i ≤ xs.length → Pv i σ H → SqT K H a xs)
    (hs : ∀ i x σ H, xs[i]? = some x → Pv i σ H → g x σ H fun σ2 H2 => tb { D with nx := Pv (i + 1), ct := Pv (i + 1), bk := D.nx } σ2 H2) (hd : ∀ σ H, Pv xs.length σ H → D.nx σ H) : ForK (Itt K a) g tb D σ H :=
  for_tup (xs := xs) Pv h0 hl hs hd
/-- a comprehension; Pv: the turn, the list so far, the heap -/
def LcK (J : It) (g : TG) (tt : TT) (te : TE) (vs : List Nat) (σ : L2.St) (H1 : Hp) (Q : VK) : Prop := ∀ D, H1 D = none → ∃ W : Nat → Nat → Hp → Prop, (∃ m, W 0 m (upd H1 D (.lst []))) ∧ ∀ i m H, W i m H →
  (J.stop i H ∧ Q (.ref D) H) ∨ (J.go i H ∧ ∃ Nx : Hp → Prop, (∀ H', Nx H' → ∃ m', m' < m ∧ W (i + 1) m' H') ∧ ∀ x H', J.yld i H x H' → g x (wipe σ vs) H' fun σ2 H2 => wipe σ2 vs = wipe σ vs ∧ tt σ2 H2 fun b H3 =>
    if b = true then te σ2 H3 fun y H4 => ∃ acc, H4 D = some (.lst acc) ∧ acc.length < sizeLine ∧ Nx (upd H4 D (.lst (acc ++ [y]))) else Nx H3)
theorem i_lc (h : wi σ H fun J H1 => LcK J g tt te vs σ H1 Q) : tLc wi g tt te vs σ H Q := h
theorem i_yes {QT : Bool → Hp → Prop} (h : QT true H) : tYes σ H QT := h
/-- the end of a turn of a comprehension -/
theorem i_lcN {D : Addr} {acc : List V} {y : V} {N : Hp → Prop} (e : H D = some (.lst acc)) (c : acc.length < 1000000) (h : N (upd H D (.lst (acc ++ [y])))) : ∃ acc, H D = some (.lst acc) ∧ acc.length < sizeLine ∧ N (upd H D (.lst (acc ++ [y]))) := ⟨acc, e, small_lt c, h⟩
theorem c_rng {n : Nat} (Pv : Addr → Nat → Hp → Prop) (h0 : ∀ D, H D = none → Pv D 0 (upd H D (.lst [])))
    (hs : ∀ D i H1, H D = none → i < n → Pv D i H1 → g (.int (i : Int)) (wipe σ vs) H1 fun σ2 H2 => wipe σ2 vs = wipe σ vs ∧ tt σ2 H2 fun b H3 =>
      if b = true then te σ2 H3 fun y H4 => ∃ acc, H4 D = some (.lst acc) ∧ acc.length < sizeLine ∧ Pv D (i + 1) (upd H4 D (.lst (acc ++ [y]))) else Pv D (i + 1) H3)
    (hd : ∀ D H1, H D = none → Pv D n H1 → Q (.ref D) H1) : LcK (Itr 0 n) g tt te vs σ H Q := fun D hD =>
  lc_range (lo := 0) (Pv D) (h0 D hD) (fun i H1 hi hp => by
    have z := hs D i H1 hD hi hp
    have e : (0 : Int) + (i : Int) = i := by omega
    rw [e]
    exact z) (fun H1 hp => hd D H1 hD hp)
theorem c_list (Pv : Addr → Nat → Hp → Prop) (h0 : ∀ D, H D = none → Pv D 0 (upd H D (.lst []))) (hl : ∀ D i H1, H D = none → i ≤ xs.length → Pv D i H1 → SqL K H1 a xs)
    (hs : ∀ D i x H1, H D = none → xs[i]? = some x → Pv D i H1 → g x (wipe σ vs) H1 fun σ2 H2 => wipe σ2 vs = wipe σ vs ∧ tt σ2 H2 fun b H3 =>
      if b = true then te σ2 H3 fun y H4 => ∃ acc, H4 D = some (.lst acc) ∧ acc.length < sizeLine ∧ Pv D (i + 1) (upd H4 D (.lst (acc ++ [y]))) else Pv D (i + 1) H3)
    (hd : ∀ D H1, H D = none → Pv D xs.length H1 → Q (.ref D) H1) : LcK (Itl K a) g tt te vs σ H Q := fun D hD =>
  lc_list (xs := xs) (Pv D) (h0 D hD) (fun i H1 hi hp => hl D i H1 hD hi hp) (fun i x H1 hi hp => hs D i x H1 hD hi hp) (fun H1 hp => hd D H1 hD hp)
theorem c_tup (Pv : Addr → Nat → Hp → Prop) (h0 : ∀ D, H D = none → Pv D 0 (upd H D (.lst []))) (hl : ∀ D i H1, H D = none → i ≤ xs.length → Pv D i H1 → SqT K H1 a xs)
    (hs : ∀ D i x H1, H D = none → xs[i]? = some x → Pv D i H1 → g x (wipe σ vs) H1 fun σ2 H2 => wipe σ2 vs = wipe σ vs ∧ tt σ2 H2 fun b H3 =>
      if b = true then te σ2 H3 fun y H4 => ∃ acc, H4 D = some (.lst acc) ∧ acc.length < sizeLine ∧ Pv D (i + 1) (upd H4 D (.lst (acc ++ [y]))) else Pv D (i + 1) H3)
    (hd : ∀ D H1, H D = none → Pv D xs.length H1 → Q (.ref D) H1) : LcK (Itt K a) g tt te vs σ H Q := fun D hD =>
  lc_tup (xs := xs) (Pv D) (h0 D hD) (fun i H1 hi hp => hl D i H1 hD hi hp) (fun i x H1 hi hp => hs D i x H1 hD hi hp) (fun H1 hp => hd D H1 hD hp)
end

/-! ### the head's facts: any that a program decides over the written part -/
abbrev Fx : Type := PySem.W.Frag → Bool
/-- a def: where it stands, its name, qualified name, parameters, body, scope, defaults -/
structure DefX where
  adr : PySem.W.Frag → Addr
  name : Str
  qual : Str
  params : Arguments
  body : List Stmt
  scope : Scope
  dfl : List He.Dv := []
def dX (adr : PySem.W.Frag → Addr) (name qual : Str) (st : Stmt) (dfl : List He.Dv := []) : DefX := ⟨adr, name, qual, defArgs st, defBody st, defScope st, dfl⟩
def fnX (K : PySem.W.Frag) (a : Addr) : He.FnW := match K.lookup a with
  | some ⟨_, _, .func fd, _⟩ => some (fd.name, fd.qualname, fd.params, fd.body, fd.scope, fd.globals, fd.closure, fd.builtins)
  | _ => none
def DefX.val (d : DefX) : He.FnW := some (d.name, d.qual, d.params, .stmts d.body, d.scope, mainGlobals, [], builtinsNs)
def DefX.dvs (K : PySem.W.Frag) (d : DefX) : List V := d.dfl.map (He.Dv.v K)
def DefX.ok (K : PySem.W.Frag) (d : DefX) : Bool := PySem.W.keepIn K (.ref (d.adr K)) && (match K.lookup (d.adr K) with
  | some ⟨_, _, .func fd, _⟩ => PySem.W.codeIn K fd.code d.qual && He.dflB K fd.defaults (d.dvs K)
  | _ => false)
theorem DefX.funD {K : PySem.W.Frag} {d : DefX} (e : fnX K (d.adr K) = d.val) (c : d.ok K = true) : ∃ fd, FunD K d.name d.qual d.params d.body d.scope (d.dvs K) [] (d.adr K) fd := by
  obtain ⟨kp, c2⟩ := He.ba c
  unfold fnX at e
  cases q : K.lookup (d.adr K) with
  | none =>
    rw [q] at c2
    cases c2
  | some o =>
    obtain ⟨oc, od, dt, osl⟩ := o
    rw [q] at c2 e
    cases dt with
    | func fd =>
      obtain ⟨n1, n2, n3, n4, n5, n6, n7, n8, n9, n10, n11, n12, n13, n14, n15⟩ := fd
      have e2 : (some (n1, n2, n3, n4, n5, n6, n7, n15) : He.FnW) = some (d.name, d.qual, d.params, .stmts d.body, d.scope, mainGlobals, [], builtinsNs) := e
      simp only [Option.some.injEq, Prod.mk.injEq] at e2
      obtain ⟨h1, h2, h3, h4, h5, h6, h7, h8⟩ := e2
      subst h1 h2 h3 h4 h5 h6 h7 h8
      obtain ⟨k1, k2⟩ := He.ba (show (PySem.W.codeIn K n13 d.qual && He.dflB K n8 (d.dvs K)) = true from c2)
      exact ⟨_, ⟨oc, od, n8, n9, n10, n11, n12, n13, n14, osl, rfl, q, k1, He.dflB_ok k2, .inl rfl⟩, kp⟩
    | _ => cases c2
abbrev AlX : Type := Bool × List He.FnW
def obsX (fs : List Fx) (fn : List DefX) (K : PySem.W.Frag) : AlX := ((fs.all fun f => f K) && fn.all fun d => d.ok K, fn.map fun d => fnX K (d.adr K))
def valX (fn : List DefX) : AlX := (true, fn.map DefX.val)
def SaysX (fs : List Fx) (fn : List DefX) (K : PySem.W.Frag) : Prop := obsX fs fn K = valX fn
/-- what the module's names reach, and the statics -/
def asX (n : Nat) (g : Addr → Option Obj) : List Addr := He.asD g n ++ [cStatics]
def obsXG (n : Nat) (fs : List Fx) (fn : List DefX) (g : Addr → Option Obj) : AlX := obsX fs fn (He.frG g (asX n g))
def hookX (n : Nat) (fs : List Fx) (fn : List DefX) : PySem.W.Hook where
  α := AlX
  obs := fun s => obsXG n fs fn s.heap.get?
  val := fun _ => valX fn
  says := fun _ h => ∃ K : PySem.W.Frag, K.In h ∧ SaysX fs fn K
  of := fun _ _ e => ⟨_, He.frG_in, e⟩
  keeps := fun _ _ _ ⟨K, hK, c⟩ k => ⟨K, PySem.W.Frag.In.keeps hK k, c⟩
theorem obsXG_eq {n : Nat} {fs : List Fx} {fn : List DefX} {g : Addr → Option Obj} {s : Shared} (h : ∀ a, g a = s.heap.get? a) : obsXG n fs fn g = (hookX n fs fn).obs s := by
  have e : g = s.heap.get? := funext h
  rw [e] <;> rfl
section
variable {fs : List Fx} {fn : List DefX} {K : PySem.W.Frag}
theorem SaysX.fact (c : SaysX fs fn K) (i : Nat) {f : Fx} (h : fs[i]? = some f := by rfl) : f K = true := by
  have c1 := (He.ba (show ((fs.all fun f => f K) && fn.all fun d => d.ok K) = true from congrArg (fun z : AlX => z.1) c)).1
  exact List.all_eq_true.mp c1 f (List.mem_of_getElem? h)
theorem SaysX.def_ (c : SaysX fs fn K) (i : Nat) {d : DefX} (h : fn[i]? = some d := by rfl) : ∃ fd, FunD K d.name d.qual d.params d.body d.scope (d.dvs K) [] (d.adr K) fd := by
  have c2 := (He.ba (show ((fs.all fun f => f K) && fn.all fun d => d.ok K) = true from congrArg (fun z : AlX => z.1) c)).2
  have e : fn.map (fun d => fnX K (d.adr K)) = fn.map DefX.val := congrArg (fun z : AlX => z.2) c
  have e2 : (fn.map fun d => fnX K (d.adr K))[i]? = (fn.map DefX.val)[i]? := by rw [e]
  rw [List.getElem?_map, List.getElem?_map, h] at e2
  exact DefX.funD (Option.some.inj e2) (List.all_eq_true.mp c2 d (List.mem_of_getElem? h))
end
/-! ### facts -/
def fFa (f : He.Fa) : Fx := fun K => f.ok K
def gA (x : Str) : PySem.W.Frag → Addr := fun K => He.ga K x
def mA (C m : Str) : PySem.W.Frag → Addr := fun K => He.ma K (He.ga K C) m
/-- the getter of a property -/
def pA (C m : Str) : PySem.W.Frag → Addr := fun K => match PySem.W.recIn K (mA C m K) "property" with
  | some (.ref g :: _) => g
  | _ => 0
def propB (C m : Str) : Fx := fun K => decide (PySem.W.findIn K (.ref (gA C K)) m = some (some (.ref (mA C m K)))) && (decide (PySem.W.specialIn K (.ref (mA C m K)) "__get__" = some (some (.builtin "property.__get__"))) && (decide (PySem.W.takesIn K (.ref (mA C m K)) = some true) &&
  (match PySem.W.recIn K (mA C m K) "property" with
  | some (.ref _ :: _) => true
  | _ => false)))
theorem propB_ok {K : PySem.W.Frag} {C m : Str} (h : propB C m K = true) : PropOf K (gA C K) m (mA C m K) (pA C m K) := by
  obtain ⟨h1, h⟩ := He.ba h
  obtain ⟨h2, h⟩ := He.ba h
  obtain ⟨h3, h4⟩ := He.ba h
  refine ⟨of_decide_eq_true h1, of_decide_eq_true h2, of_decide_eq_true h3, ?_⟩
  unfold pA
  cases q : PySem.W.recIn K (mA C m K) "property" with
  | none =>
    rw [q] at h4
    cases h4
  | some l =>
    rw [q] at h4
    match l, h4 with
    | .ref g :: r, _ => exact ⟨r, rfl⟩
/-! ### written constants: tuples at any depth -/
inductive Lit where
  | non | bl (b : Bool) | int (i : Int) | str (x : Str) | tup (ls : List Lit)
mutual
def litB (K : PySem.W.Frag) : Value → Lit → Bool
  | .none, .non => true
  | .bool b, .bl c => b == c
  | .int i _, .int j => decide (i = j)
  | .str x _, .str y => decide (x = y)
  | .ref a, .tup ls => (match K.lookup a with
    | some ⟨.type c, _, .seq its _, _⟩ => decide (c = "tuple") && (decide (its.size ≤ sizeLine) && litsB K its.toList ls)
    | _ => false)
  | _, _ => false
def litsB (K : PySem.W.Frag) : List Value → List Lit → Bool
  | [], [] => true
  | v :: vs, l :: ls => litB K v l && litsB K vs ls
  | _, _ => false
end
mutual
/-- v is, in the written part, the constant -/
def LitIs (K : PySem.W.Frag) : V → Lit → Prop
  | v, .non => v = .non
  | v, .bl b => v = .bl b
  | v, .int i => v = .int i
  | v, .str x => v = .str x
  | v, .tup ls => ∃ a xs, v = .ref a ∧ (∀ H, SqT K H a xs) ∧ LitsAre K xs ls
def LitsAre (K : PySem.W.Frag) : List V → List Lit → Prop
  | xs, [] => xs = []
  | xs, l :: ls => ∃ y ys, xs = y :: ys ∧ LitIs K y l ∧ LitsAre K ys ls
end
mutual
theorem litB_ok {K : PySem.W.Frag} : ∀ {l : Lit} {u : Value}, litB K u l = true → ∃ v, RelV v u ∧ LitIs K v l
  | .non, u, h => by
    cases u <;> first | exact ⟨.non, rfl, rfl⟩ | (simp [litB] at h)
  | .bl b, u, h => by
    cases u with
    | bool c =>
      have e : c = b := by simpa [litB] using h
      subst e
      exact ⟨.bl c, rfl, rfl⟩
    | _ => simp [litB] at h
  | .int i, u, h => by
    cases u with
    | int c t =>
      have e : c = i := by simpa [litB] using h
      subst e
      exact ⟨.int c, ⟨t, rfl⟩, rfl⟩
    | _ => simp [litB] at h
  | .str i, u, h => by
    cases u with
    | str c t =>
      have e : c = i := by simpa [litB] using h
      subst e
      exact ⟨.str c, ⟨t, rfl⟩, rfl⟩
    | _ => simp [litB] at h
  | .tup ls, u, h => by
    cases u with
    | ref a =>
      unfold litB at h
      cases q : K.lookup a with
      | none =>
        rw [q] at h
        cases h
      | some o =>
        obtain ⟨oc, od, dt, osl⟩ := o
        rw [q] at h
        cases oc with
        | type c =>
          cases dt with
          | seq its n =>
            obtain ⟨h1, h2⟩ := He.ba (show (decide (c = "tuple") && (decide (its.size ≤ sizeLine) && litsB K its.toList ls)) = true from h)
            obtain ⟨h3, h4⟩ := He.ba h2
            obtain ⟨xs, hv, hl⟩ := litsB_ok h4
            refine ⟨.ref a, rfl, a, xs, rfl, fun H => .inr ⟨_, its, n, q, congrArg Value.type (of_decide_eq_true h1), rfl, ?_⟩, hl⟩
            first | exact ⟨of_decide_eq_true h3, hv⟩ | exact ⟨rfl, of_decide_eq_true h3, hv⟩
          | _ => cases h
        | _ => cases dt <;> cases h
    | _ => simp [litB] at h
theorem litsB_ok {K : PySem.W.Frag} : ∀ {ls : List Lit} {us : List Value}, litsB K us ls = true → ∃ vs, Vals vs us ∧ LitsAre K vs ls
  | [], us, h => by
    cases us with
    | nil => exact ⟨[], .nil, rfl⟩
    | cons => simp [litsB] at h
  | l :: ls, us, h => by
    cases us with
    | nil => simp [litsB] at h
    | cons u us =>
      obtain ⟨h1, h2⟩ := He.ba (show (litB K u l && litsB K us ls) = true by simpa [litsB] using h)
      obtain ⟨v, r, i⟩ := litB_ok h1
      obtain ⟨vs, rs, is⟩ := litsB_ok h2
      exact ⟨v :: vs, .cons r rs, v, vs, rfl, i, is⟩
end
/-- the module's name x stands for the constant -/
def constB (x : Str) (l : Lit) : Fx := fun K => match PySem.W.nsIn K mainGlobals x with
  | some (some u) => litB K u l
  | _ => false
theorem const_ok {K : PySem.W.Frag} {h : Heap} {mg : Str → Option Value} (X : K.In h) (G : h.Ns mainGlobals mg) {x : Str} {l : Lit} (c : constB x l K = true) : ∃ v u, mg x = some u ∧ RelV v u ∧ LitIs K v l := by
  unfold constB at c
  cases q : PySem.W.nsIn K mainGlobals x with
  | none =>
    rw [q] at c
    cases c
  | some o =>
    rw [q] at c
    cases o with
    | none => cases c
    | some u =>
      obtain ⟨v, r, i⟩ := litB_ok (show litB K u l = true from c)
      exact ⟨v, u, PySem.W.mg_of X G q, r, i⟩

/-! ### enumerate over a tuple; a list or a tuple walked -/
set_option maxHeartbeats 2000000 in
theorem meets_enum1 {v : Value} {ob : Obj} {Hc : Heap → Prop} (B : Begins v ob Hc) :
    Meets (Builtin.«enumerate.__new__» ⟨[.type "enumerate", v], []⟩) (fun _ R s => Hc s.heap ∧
      R (.ok (.ret (.ref (s.heap.push ob).objs.size))) { s with heap := (s.heap.push ob).push { cls := .type "enumerate", data := .fields #[.none, .bool false, .ref s.heap.objs.size, rawInt 0, .none, .none] } }) :=
  .of_wp fun pr wd A R s hh => by
    obtain ⟨hp, g, d, tk, os⟩ := s
    obtain ⟨hc, hh⟩ := hh
    have hsub := sub_enumerate
    have go : ∀ {A' : Around} {E : Value → Shared → Prop} {Q : Value → Shared → Prop}, Q (.ref hp.objs.size) ⟨hp.push ob, g, d, tk, os⟩ → wpAny (model pr wd) A' (pyIter v) Q E ⟨hp, g, d, tk, os⟩ := fun q => B.iter pr wd _ _ ⟨hp, g, d, tk, os⟩ _ hc q
    wp_walk using go
    refine wpAny_stack_any fun st => wpAny_pure ?_
    split
    · rename_i cc _ _ _ _ _
      cases (cc == Value.type "enumerate") <;> (wp_walk using go; exact ⟨_, rfl, hh⟩)
    · (wp_walk using go; exact ⟨_, rfl, hh⟩)
theorem call_enum1 {prog : Program} {w : World} {A : Around} {E : Value → Shared → Prop} {s : Shared} {v : Value} {ob : Obj} {Hc : Heap → Prop} {Q : Value → Shared → Prop} (B : Begins v ob Hc) (hc : Hc s.heap)
    (k : ∀ h', IsEnum h' (s.heap.objs.size + 1) s.heap.objs.size 0 .none → h'.get? s.heap.objs.size = some ob → (∀ b u, s.heap.get? b = some u → h'.get? b = some u) → Q (.ref (s.heap.objs.size + 1)) { s with heap := h' }) :
    wpAny (model prog w) A (call (.type "enumerate") [v]) Q E s := by
  refine callType_new F.called_enumerate (by decide) (F.typeCall_enumerate_1 _) (F.newCall_enumerate_1 _) (fun z => F.args_object_init_2 z _) F.entry_enumerate_new (meets_enum1 B) ⟨hc, ?_⟩
  have sz : (s.heap.push ob).objs.size = s.heap.objs.size + 1 := Heap.size_push ..
  show _ ∧ _
  rw [sz]
  have en : IsEnum ((s.heap.push ob).push { cls := .type "enumerate", data := .fields #[.none, .bool false, .ref s.heap.objs.size, rawInt 0, .none, .none] }) (s.heap.objs.size + 1) s.heap.objs.size 0 .none := by
    have z := Heap.get?_push_size (s.heap.push ob) (o := { cls := .type "enumerate", data := .fields #[.none, .bool false, .ref s.heap.objs.size, rawInt 0, .none, .none] }) rfl
    rw [sz] at z
    exact z
  exact ⟨⟨_, en, rfl⟩, k _ en (Heap.get?_push_of_some _ (Heap.get?_push_size _ B.free)) fun b u x => Heap.get?_push_of_some _ (Heap.get?_push_of_some _ x)⟩
theorem enum_endT {prog : Program} {w : World} {A : Around} {E : Value → Shared → Prop} {s : Shared} {e it a : Addr} {c : Int} {i : Nat} {its : Array Value} {old : Value} {Q : Option Value → Shared → Prop} (hh : A.handled = none) (he : IsEnum s.heap e it c old)
    (hit : s.heap.IsTupleIter it a i) (ht : s.heap.IsTuple a its) (hx : its[i]? = none) (k : ∀ h', Heap.ExtBut it s.heap h' → Q none { s with heap := h' }) : wpAny (model prog w) A (pyNext (.ref e)) Q E s := by
  have ty : s.TypeIs (.ref e) "enumerate" := ⟨_, he, rfl⟩
  unfold pyNext
  refine wpAny_bind (wpAny_attempt (wpAny_callSpecial?_slot (name := Str.ofString "__next__") ty F.slot_enumerate_next (wpAny_call_entry F.slot_enumerate_next ty F.entry_enumerate_next ?_ (F.args_enumerate_next_1 _))))
  show wpAny _ _ (field (.ref e) 2 >>= _) _ _ _
  refine wpAny_bind (wpAny_field he rfl (x := .ref it) rfl (wpAny_bind (wpAny_nextOf_tuple_end hh hit ht hx fun h' z ex st => ?_)))
  obtain ⟨o, ho, hc⟩ := st
  exact wpAny_bind (wpAny_isInstance (T := "StopIteration") (b := true) ⟨o, ho, hc⟩ isSubtype_stop (wpAny_pure (k _ ex)))
/-- the tuple at a as it stands at each turn, each item in a new pair -/
def IteT (K : PySem.W.Frag) (a : Addr) : It :=
  ⟨fun i H => ∃ (xs : List V) (x : V), SqT K H a xs ∧ xs[i]? = some x, fun i H v H' => ∃ T x, v = .ref T ∧ H T = none ∧ H' = upd H T (.tup [.int (i : Nat), x]) ∧ ∀ xs, SqT K H a xs → xs[i]? = some x, fun i H => ∃ xs : List V, SqT K H a xs ∧ xs.length ≤ i⟩
theorem turn_enumT {P : Program} {w : World} {K : PySem.W.Frag} {elts : List Expr} {kk : Nat} {tpos : Pos} (a e it : Addr) (hae : a ≠ e) (hai : a ≠ it) :
    Turn P w K (.Tuple elts kk tpos) (IteT K a) [e, it] e (fun i h => (∃ old, IsEnum h e it ((i : Nat) : Int) old) ∧ h.IsTupleIter it a i ∧ e ≠ it) where
  mem := by simp
  obj := fun i h st b hb => by
    obtain ⟨⟨old, he⟩, ⟨o, ho, hc, hd⟩, _⟩ := st
    rcases (show b = e ∨ b = it by simpa using hb) with rfl | rfl
    · exact ⟨_, he, fun v q => nomatch q⟩
    · exact ⟨o, ho, fun v q => by rw [hd] at q; cases q⟩
  keep := fun i h h' st k => by
    obtain ⟨⟨old, he⟩, hi, hne⟩ := st
    exact ⟨⟨old, k e (by simp) _ he⟩, hi.at fun o q => k it (by simp) o q, hne⟩
  item := by
    intro X hP hw hK hc i pins s σ H E I hf st hg
    subst hP hw hK
    obtain ⟨⟨old, he⟩, hit, hne⟩ := st
    obtain ⟨xs, x, hq, hx⟩ := hg
    obtain ⟨its, rv, p, hz⟩ := I.tuple hq
    obtain ⟨u, hu, ru⟩ := rv.get hx
    have tup : s.heap.IsTuple a its.toArray := p
    have lte : e < s.heap.objs.size := Heap.lt_size he
    have lti : it < s.heap.objs.size := by obtain ⟨_, q, _⟩ := hit; exact Heap.lt_size q
    have hlt : i < its.toArray.size := by
      have z := (List.getElem?_eq_some_iff.mp hu).1
      simpa using z
    refine wpAny_pyNext_enum_itemD (Draws.tuple (A := X.A.in1) (I.ok.hd hc) it a hai its.toArray) he ⟨hit, tup⟩ hlt hne (by simp [hne, hae.symm]) fun x' h' tk hx' ho st' hT hsz hk => ?_
    obtain rfl : x' = u := by
      have z : its[i]? = some x' := by simpa using hx'
      rw [hu] at z
      exact (Option.some.inj z).symm
    refine ⟨_, rfl, wpAny_letOwnedTupleGo_enum (s := { s with heap := h', toks := tk + 1 }) ho fun h'' he' sb => ?_⟩
    have hT2 := (sb.2 _ (Nat.ne_of_gt lte)).trans hT
    have new : ObjOk X.prog X.w (upd H s.heap.objs.size (.tup [.int (i : Nat), x])) h'' s.heap.objs.size (.tup [.int (i : Nat), x]) :=
      ⟨small_of (by show 2 ≤ 1000000; decide), _, .cons ⟨_, rfl⟩ (.cons ru .nil), ⟨_, hT2, rfl, _, rfl⟩⟩
    have far : ∀ b, b ∈ [e, it] → b < s.heap.objs.size := fun b hb => by
      rcases (show b = e ∨ b = it by simpa using hb) with rfl | rfl
      · exact lte
      · exact lti
    have I1 : Inv X pins σ (upd H s.heap.objs.size (.tup [.int (i : Nat), x])) { s with heap := h'', toks := tk + 1 } :=
      I.turnedNew (ch := [e, it]) (fun b ob hb q => (sb.2 b (fun z => hb (by simp [z]))).trans (hk b ob (fun z => hb (by simp [z])) (fun z => hb (by simp [z])) q)) hf (Nat.le_refl _) new
    refine ⟨.ref s.heap.objs.size, _, I1, rfl, ⟨_, x, rfl, I.hok.fresh (Nat.le_refl _), rfl, fun ys hy => by rw [I.tuple_inj hy hq]; exact hx⟩, ⟨⟨x', ?_⟩, st'.1.at fun o q => (sb.2 it (Ne.symm hne)).trans q, hne⟩, fun b hb => ?_⟩
    · have z : ((i + 1 : Nat) : Int) = (i : Int) + 1 := by omega
      rw [z]
      exact he'
    · rw [upd_ne (Nat.ne_of_lt (far b hb))]
      exact (hf b hb).1
  done := by
    intro X hP hw hK hc i pins s σ H E I hf st hg
    subst hP hw hK
    obtain ⟨⟨old, he⟩, hit, hne⟩ := st
    obtain ⟨xs, hq, hx⟩ := hg
    obtain ⟨its, rv, p, hz⟩ := I.tuple hq
    have tup : s.heap.IsTuple a its.toArray := p
    obtain ⟨f0, f1, f2, f3, f4, f5⟩ := hf it (by simp)
    have hl := rv.length
    exact enum_endT (I.ok.hd hc) he hit tup (by simp; omega) fun h' eb => ⟨rfl, I.turned (t' := s.toks) (fun b o hb q => eb b o hb q) f0 f1 f3 f4 f5⟩
  self := fun A i s Q E st h => let ⟨⟨_, he⟩, _⟩ := st; wpAny_pyIter_enum he h
/-- what a for walks: one way or another -/
theorem PI.or {X : Cx} {tg e : Expr} {wi wj : TI} (h1 : PI X tg e wi) (h2 : PI X tg e wj) : PI X tg e (fun σ H R => wi σ H R ∨ wj σ H R) := ⟨fun pins s σ H R I h => by
  rcases h with h | h
  · exact h1.run pins s σ H R I h
  · exact h2.run pins s σ H R I h⟩
def iSeq (K : PySem.W.Frag) (tl : TE) : TI := fun σ H R => iList K tl σ H R ∨ iTup K tl σ H R
theorem pi_seq {X : Cx} {tg l : Expr} {tl : TE} (hl : PE X l tl) : PI X tg l (iSeq X.K tl) := PI.or (pi_list hl) (pi_tup hl)
def iEnumT (K : PySem.W.Frag) (ta : TA) : TI := fun σ H R => ta σ H fun vs H1 => ∃ a xs, vs = [.ref a] ∧ SqT K H1 a xs ∧ R (IteT K a) H1
theorem pi_enumT {X : Cx} {e : Expr} {ta : TA} {p pos tpos : Pos} {elts : List Expr} {kk : Nat} (hg : Gl X "enumerate") (hm : X.mg "enumerate" = none) (ha : PA X [e] ta) (hs : starEach [e] X.env = [(false, eval e X.env)] := by rfl) :
    PI X (.Tuple elts kk tpos) (.Call (.Name "enumerate" p) [e] [] pos) (iEnumT X.K ta) := by
  refine ⟨fun pins s σ H R I h => ?_⟩
  refine Call_ (ld_blt I hg hm boot_enumerate (PyProof.Rows.callWith_type1 (thn (ha.run pos pins s σ H _ I h) fun us s1 ⟨vs, H1, I1, r1, a, xs, ex, hq, q⟩ => ?_) hs rfl))
  subst ex
  cases r1 with
  | cons r rr =>
    cases rr
    cases r
    obtain ⟨its, rv, p', hz⟩ := I1.tuple hq
    have tup : s1.heap.IsTuple a its.toArray := p'
    have lta : a < s1.heap.objs.size := by obtain ⟨_, q, _⟩ := tup; exact Heap.lt_size q
    refine call_enum1 (begins_tuple a its.toArray) tup fun h' he hit hk => wpAny_pyIter_enum he ?_
    have I2 : Inv X pins σ H1 { s1 with heap := h' } := I1.kept (t' := s1.toks) hk
    refine ⟨s1.heap.objs.size + 1, [s1.heap.objs.size + 1, s1.heap.objs.size], _, _, H1, rfl, I2, turn_enumT a (s1.heap.objs.size + 1) s1.heap.objs.size (Nat.ne_of_lt (Nat.lt_succ_of_lt lta)) (Nat.ne_of_lt lta), ⟨⟨.none, he⟩, ⟨_, hit, rfl, rfl⟩, Nat.succ_ne_self _⟩, fun b hb => ?_, q⟩
    have le : s1.heap.objs.size ≤ b := by
      rcases (show b = s1.heap.objs.size + 1 ∨ b = s1.heap.objs.size by simpa using hb) with z | z
      · rw [z]; exact Nat.le_add_right _ _
      · rw [z]; exact Nat.le_refl _
    exact I1.fpOk le (I1.hok.fresh le)
def iEnumQ (K : PySem.W.Frag) (ta : TA) : TI := fun σ H R => iEnum K ta σ H R ∨ iEnumT K ta σ H R
theorem pi_enumQ {X : Cx} {e : Expr} {ta : TA} {p pos tpos : Pos} {elts : List Expr} {kk : Nat} (hg : Gl X "enumerate") (hm : X.mg "enumerate" = none) (ha : PA X [e] ta) (hs : starEach [e] X.env = [(false, eval e X.env)] := by rfl) :
    PI X (.Tuple elts kk tpos) (.Call (.Name "enumerate" p) [e] [] pos) (iEnumQ X.K ta) := PI.or (pi_enum hg hm ha hs) (pi_enumT hg hm ha hs)
section
variable {K : PySem.W.Frag} {σ : L2.St} {H H0 : Hp} {D : Ends} {g : TG} {tb : TS} {a : Addr} {xs : List V} {S : List Addr} {n : Nat}
/-- a walk of a list or a tuple that stays -/
theorem i_seqFor (e : σ[n]? = some (some (.ref a))) (hq : SqL K H0 a xs ∨ SqT K H0 a xs) (na : a ∉ S) (Pv : Nat → L2.St → Hp → Prop) (hk : ∀ i σ H1, Pv i σ H1 → Keep S H0 H1) (h0 : Pv 0 σ H)
    (hs : ∀ i x σ H1, xs[i]? = some x → Pv i σ H1 → g x σ H1 fun σ2 H2 => tb { D with nx := Pv (i + 1), ct := Pv (i + 1), bk := D.nx } σ2 H2) (hd : ∀ σ H1, Pv xs.length σ H1 → D.nx σ H1) : tFor (iSeq K (tVar n)) g tb D σ H := by
  rcases hq with h | h
  · exact .inl ⟨_, e, a, rfl, ⟨xs, (hk 0 σ H h0).sqL na h⟩, for_list Pv h0 (fun i σ H1 _ hp => (hk i σ H1 hp).sqL na h) hs hd⟩
  · exact .inr ⟨_, e, a, rfl, ⟨xs, (hk 0 σ H h0).sqT na h⟩, for_tup Pv h0 (fun i σ H1 _ hp => (hk i σ H1 hp).sqT na h) hs hd⟩
theorem i_enumFor (e : σ[n]? = some (some (.ref a))) (hq : SqL K H0 a xs ∨ SqT K H0 a xs) (na : a ∉ S) (Pv : Nat → L2.St → Hp → Prop) (hk : ∀ i σ H1, Pv i σ H1 → Keep S H0 H1) (h0 : Pv 0 σ H)
    (hs : ∀ i x σ H1 T H2, xs[i]? = some x → Pv i σ H1 → NewAt H1 T (.tup [.int (i : Nat), x]) H2 → g (.ref T) σ H2 fun σ2 H3 => tb { D with nx := Pv (i + 1), ct := Pv (i + 1), bk := D.nx } σ2 H3) (hd : ∀ σ H1, Pv xs.length σ H1 → D.nx σ H1) : tFor (iEnumQ K (tCons (tVar n) tNil)) g tb D σ H := by
  rcases hq with h | h
  · refine .inl ⟨_, e, a, xs, rfl, (hk 0 σ H h0).sqL na h, ?_⟩
    refine ⟨fun i m σ H1 => m = xs.length - i ∧ i ≤ xs.length ∧ Pv i σ H1, ⟨xs.length, by simp, Nat.zero_le _, h0⟩, ?_⟩
    rintro i m σ H1 ⟨rfl, hi, p⟩
    have q := (hk i σ H1 p).sqL na h
    by_cases hlt : i < xs.length
    · refine .inr ⟨⟨xs, xs[i], q, by simp [hlt]⟩, Pv (i + 1), fun σ' H' p' => ⟨xs.length - (i + 1), by omega, rfl, hlt, p'⟩, fun x H' y => ?_⟩
      obtain ⟨T, z, rfl, hT, rfl, hz⟩ := y
      exact hs i z σ H1 T _ (hz xs q) p (.mk' hT)
    · obtain rfl : i = xs.length := by omega
      exact .inl ⟨⟨xs, q, Nat.le_refl _⟩, hd σ H1 p⟩
  · refine .inr ⟨_, e, a, xs, rfl, (hk 0 σ H h0).sqT na h, ?_⟩
    refine ⟨fun i m σ H1 => m = xs.length - i ∧ i ≤ xs.length ∧ Pv i σ H1, ⟨xs.length, by simp, Nat.zero_le _, h0⟩, ?_⟩
    rintro i m σ H1 ⟨rfl, hi, p⟩
    have q := (hk i σ H1 p).sqT na h
    by_cases hlt : i < xs.length
    · refine .inr ⟨⟨xs, xs[i], q, by simp [hlt]⟩, Pv (i + 1), fun σ' H' p' => ⟨xs.length - (i + 1), by omega, rfl, hlt, p'⟩, fun x H' y => ?_⟩
      obtain ⟨T, z, rfl, hT, rfl, hz⟩ := y
      exact hs i z σ H1 T _ (hz xs q) p (.mk' hT)
    · obtain rfl : i = xs.length := by omega
      exact .inl ⟨⟨xs, q, Nat.le_refl _⟩, hd σ H1 p⟩
end

/-! ### classes: the attributes' names in order, a row of values -/
structure Kls (K : PySem.W.Frag) (x : Str) (ns : List Str) : Prop where
  cl : Cls K (gA x K)
  na : ∀ f ∈ ns, NoAttr K (gA x K) f
  nd : ns.Nodup
def klsB (x : Str) (ns : List Str) : Fx := fun K => (He.Fa.cls x).ok K && ((ns.all fun f => (He.Fa.noat x f).ok K) && decide ns.Nodup)
theorem klsB_ok {K : PySem.W.Frag} {x : Str} {ns : List Str} (h : klsB x ns K = true) : Kls K x ns := by
  obtain ⟨h1, h⟩ := He.ba h
  obtain ⟨h2, h3⟩ := He.ba h
  exact ⟨He.cls_ok h1, fun f hf => He.noat_ok (List.all_eq_true.mp h2 f hf), of_decide_eq_true h3⟩
structure CalA (P : Program) (w : World) (K : PySem.W.Frag) (mg : Str → Option Value) (base : Heap) (k : Nat) (a : Addr) (sp : Sp) : Prop where
  ex : ∃ (fd : FuncData) (ps : List Str), FnOk P w K mg base CX0 k a fd ps sp ∧ Binds K fd ps []
theorem zip_lookup {x : Str} {v : V} : ∀ {ns : List Str} {vs : List V} {i : Nat}, ns.Nodup → ns[i]? = some x → vs[i]? = some v → (ns.zip vs).lookup x = some v
  | [], _, _, _, h, _ => by simp at h
  | n :: ns, [], i, _, _, h => by simp at h
  | n :: ns, u :: vs, 0, hn, h, e => by
    obtain rfl : n = x := by simpa using h
    obtain rfl : u = v := by simpa using e
    simp [List.lookup]
  | n :: ns, u :: vs, i + 1, hn, h, e => by
    obtain ⟨h1, h2⟩ := List.nodup_cons.mp hn
    have h' : ns[i]? = some x := by simpa using h
    have ne : (x == n) = false := beq_eq_false_iff_ne.mpr fun z => h1 (z ▸ List.mem_of_getElem? h')
    show (match x == n with
      | true => some u
      | false => (ns.zip vs).lookup x) = some v
    rw [ne]
    exact zip_lookup h2 h' (by simpa using e)
theorem zip_none {x : Str} : ∀ {ns : List Str} {vs : List V}, x ∉ ns → (ns.zip vs).lookup x = none
  | [], _, _ => by simp
  | n :: ns, [], _ => by simp
  | n :: ns, u :: vs, h => by
    have ne : (x == n) = false := beq_eq_false_iff_ne.mpr fun z => h (by simp [z])
    show (match x == n with
      | true => some u
      | false => (ns.zip vs).lookup x) = none
    rw [ne]
    exact zip_none fun z => h (by simp [z])
theorem zip_put {x : Str} {v : V} : ∀ {ns : List Str} {vs : List V} {i : Nat}, ns.Nodup → ns[i]? = some x → i < vs.length → putF x v (ns.zip vs) = ns.zip (vs.set i v)
  | [], _, _, _, h, _ => by simp at h
  | n :: ns, [], i, _, _, h => by simp at h
  | n :: ns, u :: vs, 0, hn, h, e => by
    obtain rfl : n = x := by simpa using h
    simp [putF]
  | n :: ns, u :: vs, i + 1, hn, h, e => by
    obtain ⟨h1, h2⟩ := List.nodup_cons.mp hn
    have h' : ns[i]? = some x := by simpa using h
    have ne : ¬ n = x := fun z => h1 (by rw [z]; exact List.mem_of_getElem? h')
    show (if n = x then (n, v) :: ns.zip vs else (n, u) :: putF x v (ns.zip vs)) = _
    rw [if_neg ne, zip_put h2 h' (by simpa using e)]
    rfl
theorem zip_add {x : Str} {v : V} : ∀ {ns : List Str} {vs : List V}, ns.Nodup → ns[vs.length]? = some x → putF x v (ns.zip vs) = ns.zip (vs ++ [v])
  | [], _, _, h => by simp at h
  | n :: ns, [], hn, h => by
    obtain rfl : n = x := by simpa using h
    simp [putF]
  | n :: ns, u :: vs, hn, h => by
    obtain ⟨h1, h2⟩ := List.nodup_cons.mp hn
    have h' : ns[vs.length]? = some x := by simpa using h
    have ne : ¬ n = x := fun z => h1 (by rw [z]; exact List.mem_of_getElem? h')
    show (if n = x then (n, v) :: ns.zip vs else (n, u) :: putF x v (ns.zip vs)) = _
    rw [if_neg ne, zip_add h2 h']
    rfl
section
variable {K : PySem.W.Frag} {σ : L2.St} {H : Hp} {Q : VK} {D : Ends} {ta tv : TE} {ar : TA} {x f m : Str} {ns : List Str} {vs : List V} {v y : V} {p dx C : Addr} {sp : Sp}
def FldK (K : PySem.W.Frag) (x : V) (f : Str) (H1 : Hp) (Q : VK) : Prop := ∃ a C dx fs v, x = .ref a ∧ H1 a = some (.ins C dx fs) ∧ Cls K C ∧ NoAttr K C f ∧ fs.lookup f = some v ∧ Q v H1
theorem i_fld (h : ta σ H fun x H1 => FldK K x f H1 Q) : tFld K ta f σ H Q := h
theorem i_fldK (k : Kls K x ns) (e : H p = some (.ins (gA x K) dx (ns.zip vs))) (i : Nat) (hf : ns[i]? = some f) (hv : vs[i]? = some v) (h : Q v H) : FldK K (.ref p) f H Q :=
  ⟨p, _, dx, _, v, rfl, e, k.cl, k.na f (List.mem_of_getElem? hf), zip_lookup k.nd hf hv, h⟩
def PutK (K : PySem.W.Frag) (x y : V) (f : Str) (H2 : Hp) (R : Hp → Prop) : Prop := ∃ a C dx fs, x = .ref a ∧ H2 a = some (.ins C dx fs) ∧ Cls K C ∧ NoAttr K C f ∧ fs.length < 1000 ∧ R (upd H2 a (.ins C dx (putF f y fs)))
theorem i_sfld (h : tv σ H fun y H1 => ta σ H1 fun x H2 => PutK K x y f H2 fun H3 => D.nx σ H3) : sFld K ta tv f D σ H := h
theorem i_putK {R : Hp → Prop} (k : Kls K x ns) (e : H p = some (.ins (gA x K) dx (ns.zip vs))) (i : Nat) (hf : ns[i]? = some f) (hi : i < vs.length) (hl : ns.length ≤ 900) (h : R (upd H p (.ins (gA x K) dx (ns.zip (vs.set i y))))) : PutK K (.ref p) y f H R := by
  refine ⟨p, _, dx, _, rfl, e, k.cl, k.na f (List.mem_of_getElem? hf), ?_, ?_⟩
  · rw [List.length_zip]; omega
  · rw [zip_put k.nd hf hi]; exact h
theorem i_putN {R : Hp → Prop} (k : Kls K x ns) (e : H p = some (.ins (gA x K) dx (ns.zip vs))) (hf : ns[vs.length]? = some f) (hl : ns.length ≤ 900) (h : R (upd H p (.ins (gA x K) dx (ns.zip (vs ++ [y]))))) : PutK K (.ref p) y f H R := by
  refine ⟨p, _, dx, _, rfl, e, k.cl, k.na f (List.mem_of_getElem? hf), ?_, ?_⟩
  · rw [List.length_zip]; omega
  · rw [zip_add k.nd hf]; exact h
def MethK (C : Addr) (m : Str) (sp : Sp) (x : V) (ar : TA) (σ : L2.St) (H1 : Hp) (Q : VK) : Prop := ∃ a dx fs, x = .ref a ∧ H1 a = some (.ins C dx fs) ∧ fs.lookup m = none ∧ ar σ H1 fun vs H2 => sp (x :: (vs ++ [])) H2 Q E0
theorem i_meth (h : ta σ H fun x H1 => MethK C m sp x ar σ H1 Q) : tMeth C m sp [] E0 ta ar σ H Q := h
theorem i_methK (e : H p = some (.ins C dx (ns.zip vs))) (hm : m ∉ ns) (h : ar σ H fun vs H2 => sp (.ref p :: vs) H2 Q E0) : MethK C m sp (.ref p) ar σ H Q :=
  ⟨p, dx, _, rfl, e, zip_none hm, by simpa only [List.append_nil] using h⟩
theorem i_prop (h : ta σ H fun x H1 => ∃ a dx fs, x = .ref a ∧ H1 a = some (.ins C dx fs) ∧ sp [.ref a] H1 Q E0) : tProp C sp [] E0 ta σ H Q := h
theorem i_propK {fs : List (Str × V)} (e : H p = some (.ins C dx fs)) (h : sp [.ref p] H Q E0) : ∃ a dx fs, V.ref p = .ref a ∧ H a = some (.ins C dx fs) ∧ sp [.ref a] H Q E0 := ⟨p, dx, fs, rfl, e, h⟩
def MakeK (C : Addr) (sp : Sp) (vs : List V) (H1 : Hp) (Q : VK) : Prop := ∀ x dx, H1 x = none → H1 dx = none → dx ≠ x → sp (.ref x :: vs) (upd (upd H1 dx (.own x)) x (.ins C dx [])) (fun v H2 => v = .non ∧ Q (.ref x) H2) E0
theorem i_make (h : ar σ H fun vs H1 => MakeK C sp vs H1 Q) : tMake C sp [] E0 ar σ H Q := by
  show ar σ H fun vs H1 => MakeK C sp (vs ++ []) H1 Q
  simpa only [List.append_nil] using h
/-- a new instance: what was stands -/
theorem i_makeK {us : List V} (ns : List Str) (h : ∀ p dx H1, H p = none → H1 p = some (.ins C dx (ns.zip [])) → (∀ S, Keep S H H1) → sp (.ref p :: us) H1 (fun v H2 => v = .non ∧ Q (.ref p) H2) E0) : MakeK C sp us H Q := fun p dx hp hdx ne => by
  refine h p dx _ hp (by rw [upd_same, List.zip_nil_right]) fun S => ?_
  exact ((Keep.refl H).put (.inr hdx)).put (.inr hp)
/-! targets of several names -/
theorem i_gTup {n : Nat} {t : TGs} {QS : L2.St → Hp → Prop} (c : SqT K H p vs) (hl : vs.length = n) (h : t vs σ H QS) : gTup K n t (.ref p) σ H QS := ⟨p, vs, rfl, c, hl, h⟩
theorem i_gCons {t : TG} {u : TGs} {QS : L2.St → Hp → Prop} (h : t v σ H fun σ' H' => u vs σ' H' QS) : gCons t u (v :: vs) σ H QS := ⟨v, vs, rfl, h⟩
theorem i_gNil {QS : L2.St → Hp → Prop} (h : QS σ H) : gNil [] σ H QS := ⟨rfl, h⟩
theorem i_isB {a b : Bool} (h : Q (.bl (decide (a = b))) H) : rIsB (.bl a) (.bl b) H Q := ⟨a, b, rfl, rfl, h⟩
theorem i_notB {a b : Bool} (h : Q (.bl (!decide (a = b))) H) : rNotB (.bl a) (.bl b) H Q := ⟨a, b, rfl, rfl, h⟩
end
theorem const_tup {K : PySem.W.Frag} {h : Heap} {mg : Str → Option Value} (X : K.In h) (G : h.Ns mainGlobals mg) {x : Str} {ls : List Lit} (c : constB x (.tup ls) K = true) : mg x = some (.ref (He.ga K x)) ∧ LitIs K (.ref (He.ga K x)) (.tup ls) := by
  unfold constB at c
  cases q : PySem.W.nsIn K mainGlobals x with
  | none =>
    rw [q] at c
    cases c
  | some o =>
    rw [q] at c
    cases o with
    | none => cases c
    | some u =>
      obtain ⟨v, r, i⟩ := litB_ok (show litB K u (.tup ls) = true from c)
      obtain ⟨a, xs, e, h1, h2⟩ := id i
      subst e
      obtain rfl : u = Value.ref a := r
      have e : He.ga K x = a := by unfold He.ga; rw [q]
      rw [e]
      exact ⟨PySem.W.mg_of X G q, i⟩

/-! ### sorted of entries: tuples that begin with a tuple of ints, no two of these alike -/
theorem lex_refl : ∀ xs : List Int, HT.lexLt xs xs = false
  | [] => rfl
  | x :: xs => by rw [HT.lexLt_cons, if_pos rfl, lex_refl xs]
theorem lex_asym : ∀ xs ys : List Int, HT.lexLt xs ys = true → HT.lexLt ys xs = false
  | [], [], h => by cases h
  | [], _ :: _, _ => rfl
  | _ :: _, [], h => by cases h
  | x :: xs, y :: ys, h => by
    rw [HT.lexLt_cons] at h ⊢
    by_cases e : x = y
    · rw [if_pos e] at h
      rw [if_pos e.symm]
      exact lex_asym xs ys h
    · rw [if_neg e] at h
      have h := of_decide_eq_true h
      rw [if_neg (fun z => e z.symm), decide_eq_false (by omega)]
theorem lex_ntr : ∀ xs ys zs : List Int, HT.lexLt ys xs = false → HT.lexLt zs ys = false → HT.lexLt zs xs = false
  | [], _, [], _, _ => rfl
  | [], _, _ :: _, _, _ => rfl
  | _ :: _, [], _, h, _ => by cases h
  | _ :: _, _ :: _, [], _, h => by cases h
  | x :: xs, y :: ys, z :: zs, h, h2 => by
    rw [HT.lexLt_cons] at h h2 ⊢
    by_cases e : y = x
    · rw [if_pos e] at h
      by_cases e2 : z = y
      · rw [if_pos e2] at h2
        rw [if_pos (e2.trans e)]
        exact lex_ntr xs ys zs h h2
      · rw [if_neg e2] at h2
        have h2 := of_decide_eq_false h2
        rw [if_neg (by omega), decide_eq_false (by omega)]
    · rw [if_neg e] at h
      have h := of_decide_eq_false h
      by_cases e2 : z = y
      · rw [if_neg (by omega), decide_eq_false (by omega)]
      · rw [if_neg e2] at h2
        have h2 := of_decide_eq_false h2
        rw [if_neg (by omega), decide_eq_false (by omega)]
theorem lex_tot : ∀ xs ys : List Int, HT.lexLt xs ys = false → HT.lexLt ys xs = false → xs = ys
  | [], [], _, _ => rfl
  | [], _ :: _, h, _ => by cases h
  | _ :: _, [], _, h => by cases h
  | x :: xs, y :: ys, h, h2 => by
    rw [HT.lexLt_cons] at h h2
    by_cases e : x = y
    · rw [if_pos e] at h
      rw [if_pos e.symm] at h2
      rw [e, lex_tot xs ys h h2]
    · rw [if_neg e] at h
      rw [if_neg (fun z => e z.symm)] at h2
      have h := of_decide_eq_false h
      have h2 := of_decide_eq_false h2
      omega
/-- an entry stands at v: a pair whose first is a tuple of these ints -/
def IsEnt (h : Heap) (v : Value) (ns : List Int) : Prop := ∃ t o q y n, v = Value.ref t ∧ h.get? t = some o ∧ o.cls = .type "tuple" ∧ o.data = .seq #[.ref q, y] n ∧ TS.TupInts h (.ref q) ns
theorem IsEnt.keeps {h h' : Heap} {v : Value} {ns : List Int} (x : IsEnt h v ns) (k : ∀ b o, h.get? b = some o → o.cls = .type "tuple" → h'.get? b = some o) : IsEnt h' v ns := by
  obtain ⟨t, o, q, y, n, e, ho, hc, hd, hi⟩ := x
  exact ⟨t, o, q, y, n, e, k _ _ ho hc, hc, hd, hi.keeps k⟩
section
variable {prog : Program} {w : World} {A : Around} {E : Value → Shared → Prop} {s : Shared}
theorem eq_tups {l b : Addr} {ns ms : List Int} (hl : TS.TupInts s.heap (.ref l) ns) (hb : TS.TupInts s.heap (.ref b) ms) (hne : ns ≠ ms) (hu : A.units < cLine) : SeqAt.EqAt A s (.ref l) (.ref b) false := by
  have hlb : l ≠ b := fun z => by
    subst z
    exact hne (hl.ints.symm.trans hb.ints)
  obtain ⟨_, xs, e, t1, i1⟩ := hl
  cases e
  obtain ⟨_, ys, e, t2, i2⟩ := hb
  cases e
  have l1 := i1.length
  have l2 := i2.length
  rw [Array.length_toList] at l1 l2
  have r := SeqAt.RcAt.tuples (e := fun j => ns.getD j 0 == ms.getD j 0) t1 t2 hu fun j h1 h2 => by
    obtain ⟨n, t, e1, e2⟩ := i1.at j xs[j] (by rw [Array.getElem?_toList]; exact Array.getElem?_eq_getElem h1)
    obtain ⟨m, u, e3, e4⟩ := i2.at j ys[j] (by rw [Array.getElem?_toList]; exact Array.getElem?_eq_getElem h2)
    rw [e1, e3, List.getD_eq_getElem?_getD, List.getD_eq_getElem?_getD, e2, e4]
    exact SeqAt.EqAt.int_int n t m u
  have z : ((List.range (min xs.size ys.size)).all (fun j => ns.getD j 0 == ms.getD j 0) && xs.size == ys.size) = false := by
    rw [Bool.eq_false_iff]
    intro q
    obtain ⟨q1, q2⟩ := Bool.and_eq_true_iff.mp q
    have q2 := eq_of_beq q2
    refine hne (List.ext_getElem (by omega) fun j h1 h2 => ?_)
    have q3 := List.all_eq_true.mp q1 j (List.mem_range.mpr (by omega))
    have q3 := eq_of_beq q3
    rw [List.getD_eq_getElem?_getD, List.getD_eq_getElem?_getD, List.getElem?_eq_getElem h1, List.getElem?_eq_getElem h2] at q3
    exact q3
  rw [z] at r
  exact SeqAt.EqAt.of_refs hlb r
theorem swo_ents (k : Value → List Int) : SrtO.Swo fun v u => HT.lexLt (k v) (k u) := ⟨fun x y h => lex_asym _ _ h, fun x y z h1 h2 => lex_ntr _ _ _ h1 h2⟩
theorem ent_cmp {vs : List Value} {k : Value → List Int} (hp : ∀ v ∈ vs, IsEnt s.heap v (k v)) (hd : ∀ v ∈ vs, ∀ u ∈ vs, k v = k u → v = u) (hu : A.units < cLine) : SrtO.Cmp prog w A s (tuples' false) (fun p => p.1 ∈ vs) (SrtO.lt2 fun v u => HT.lexLt (k v) (k u)) := by
  intro p q hm hm'
  have h1 := hp _ hm
  have h2 := hp _ hm'
  show wpAny (model prog w) A (keyLt' (tuples' false) p.1 q.1) (fun r s' => s' = s ∧ r = HT.lexLt (k p.1) (k q.1)) (fun _ _ => False) s
  by_cases e : p.1 = q.1
  · rw [e]
    obtain ⟨t, o, a, y, n, et, ho, hc, hdt, hi⟩ := h2
    rw [et]
    refine PySem.W.kat_lt ho hdt ho hdt ?_
    show PySem.W.KatLex prog w A false (decide (2 < 2)) _ [(.ref a, .ref a), (y, y)] 0 s
    refine PySem.W.kat_cons (SeqAt.EqAt.same _ prog w _ _ ?_)
    refine PySem.W.kat_yes (PySem.W.kat_cons (SeqAt.EqAt.same _ prog w _ _ ?_))
    exact PySem.W.kat_yes (PySem.W.kat_nil ⟨rfl, (lex_refl _).symm⟩)
  · have hne : k p.1 ≠ k q.1 := fun z => e (hd _ hm _ hm' z)
    obtain ⟨t, o, a, y, n, et, ho, hc, hdt, hi⟩ := h1
    obtain ⟨t', o', a', y', n', et', ho', hc', hdt', hi'⟩ := h2
    rw [et, et'] at hne ⊢
    rw [et] at hi
    rw [et'] at hi'
    refine PySem.W.kat_lt ho hdt ho' hdt' ?_
    show PySem.W.KatLex prog w A false (decide (2 < 2)) _ [(.ref a, .ref a'), (y, y')] 0 s
    refine PySem.W.kat_cons (eq_tups hi hi' hne hu prog w _ _ ?_)
    refine PySem.W.kat_no ?_
    obtain ⟨_, xs, e1, t1, i1⟩ := hi
    cases e1
    obtain ⟨_, ys, e2, t2, i2⟩ := hi'
    cases e2
    refine PySem.W.kat_one _ _ ?_
    refine HT.lt_tupInts t1 t2 i1 i2 hu ?_
    exact ⟨rfl, rfl⟩
theorem ent_firsts {h : Heap} : ∀ {vs : List Value}, (∀ v ∈ vs, ∃ ns, IsEnt h v ns) → ∃ fs : List Value, PySem.W.KatTups h vs fs ∧ fs.length = vs.length ∧ ∀ f ∈ fs, ∃ q o, f = Value.ref q ∧ h.get? q = some o ∧ o.cls = .type "tuple"
  | [], _ => ⟨[], PySem.W.KatTups.nil, rfl, fun _ hm => by simp at hm⟩
  | v :: vs, hp => by
    obtain ⟨fs, h1, h2, h3⟩ := ent_firsts (vs := vs) fun v' hm => hp v' (List.mem_cons_of_mem _ hm)
    obtain ⟨ns, t, o, q, y, n, e, ho, hc, hd, hi⟩ := hp v (List.mem_cons_self ..)
    subst e
    refine ⟨.ref q :: fs, PySem.W.KatTups.cons ho hc hd rfl h1, by rw [List.length_cons, List.length_cons, h2], fun f hm => ?_⟩
    rcases List.mem_cons.mp hm with rfl | hm
    · obtain ⟨_, xs, e1, ⟨o2, ho2, hc2, _⟩, _⟩ := hi
      cases e1
      exact ⟨q, o2, rfl, ho2, hc2⟩
    · exact h3 f hm
theorem ents_sortable {a : Addr} {vs : List Value} {k : Value → List Int} (h0 : 0 < vs.length) (hp : ∀ v ∈ vs, IsEnt s.heap v (k v)) (hd : ∀ v ∈ vs, ∀ u ∈ vs, k v = k u → v = u) (ha : ∀ o, s.heap.get? a = some o → o.cls ≠ .type "tuple") (hu : A.units < cLine) :
    SrtO.SortableO prog w A s a vs fun v u => HT.lexLt (k v) (k u) := by
  intro h' keep
  have hp' : ∀ v ∈ vs, IsEnt h' v (k v) := fun v hm => (hp v hm).keeps fun b o e c => keep b o (fun z => by subst z; exact ha o e c) e
  obtain ⟨fs, h1, h2, h3⟩ := ent_firsts fun v hm => ⟨_, hp' v hm⟩
  refine ⟨tuples' false, fun Q E hq => ?_, ent_cmp hp' hd hu⟩
  refine PySem.W.kat_kind (T := .type "tuple") h1 (by omega) (fun f hm => ?_) (by rfl) ?_
  · obtain ⟨q, o, rfl, ho, hc⟩ := h3 f hm
    rw [← hc]
    exact (PySem.W.Looks.ld (part := none) ho).andThen .now
  · have e : (Value.type "tuple" != Value.type "tuple") = false := by first | decide +kernel | rfl | decide
    rw [e]
    exact hq
end
theorem IsEnt.uniq {h : Heap} {v : Value} {ns ms : List Int} (a : IsEnt h v ns) (b : IsEnt h v ms) : ns = ms := by
  obtain ⟨t, o, q, y, n, e, ho, hc, hd, hi⟩ := a
  obtain ⟨t', o', q', y', n', e', ho', hc', hd', hi'⟩ := b
  rw [e] at e'
  cases e'
  rw [ho] at ho'
  cases ho'
  rw [hd] at hd'
  cases hd'
  exact hi.ints.symm.trans hi'.ints
section
variable {X : Cx}
/-- sorted(xs), xs a list of entries, their keys (beside them) all different: a new list of them, the keys rising -/
def rSortedE (K : PySem.W.Frag) : List V → Hp → VK → Prop := fun vs H Q => ∃ (a : Addr) (ps : List (V × List Int)), vs = [V.ref a] ∧ SqL K H a (ps.map (·.1)) ∧ (∀ x ∈ ps, ∃ t q y, x.1 = V.ref t ∧ SqT K H t [.ref q, y] ∧ SqT K H q (x.2.map V.int)) ∧ (ps.map (·.2)).Nodup ∧
  ∀ ps' p, List.Perm ps' ps → ps'.Pairwise (fun x y => HT.lexLt y.2 x.2 = false) → H p = none → Q (.ref p) (upd H p (.lst (ps'.map (·.1))))
theorem vals_at : ∀ {vs : List V} {us : List Value} {j : Nat} {v : V}, Vals vs us → vs[j]? = some v → ∃ u, us[j]? = some u ∧ RelV v u
  | _, _, 0, _, .cons r _, e => by simp at e; subst e; exact ⟨_, rfl, r⟩
  | _, _, j + 1, _, .cons _ t, e => by
    obtain ⟨u, h1, h2⟩ := vals_at (j := j) t (by simpa using e)
    exact ⟨u, by simpa using h1, h2⟩
  | _, _, _, _, .nil, e => by simp at e
open Classical in
theorem cr_sortedE (hu64 : X.A.units + 64 < cLine) : CallR X (.builtin "sorted") (rSortedE X.K) := by
  intro pins s σ H vs us Q I r h
  obtain ⟨a, ps, rfl, hs, hx, hd, q⟩ := h
  obtain ⟨its, rv, hl, hz⟩ := I.list hs
  obtain ⟨u, rfl, ru⟩ := vals1 r
  obtain rfl : u = Value.ref a := ru
  obtain ⟨e1, e2⟩ := refs_back rv fun x m => by
    obtain ⟨p, hp, rfl⟩ := List.mem_map.mp m
    obtain ⟨t, _, _, e, _⟩ := hx p hp
    exact ⟨t, e⟩
  let k : Value → List Int := fun v => if h : ∃ ns, IsEnt s.heap v ns then h.choose else []
  have hk : ∀ v ns, IsEnt s.heap v ns → k v = ns := fun v ns hv => by
    show (if h : ∃ ns, IsEnt s.heap v ns then h.choose else []) = ns
    rw [dif_pos ⟨ns, hv⟩]
    exact IsEnt.uniq (Exists.choose_spec (⟨ns, hv⟩ : ∃ ns, IsEnt s.heap v ns)) hv
  have len : its.length = ps.length := by rw [← rv.length, List.length_map]
  -- the entry at each place
  have at_ : ∀ (j : Nat) (p : V × List Int), ps[j]? = some p → ∃ v, its[j]? = some v ∧ backV v = p.1 ∧ IsEnt s.heap v p.2 := fun j p hp => by
    obtain ⟨t, q, y, e, ht, hq⟩ := hx p (List.mem_of_getElem? hp)
    obtain ⟨v, hv, rv1⟩ := vals_at (j := j) (v := p.1) rv (by rw [List.getElem?_map, hp]; rfl)
    rw [e] at rv1
    obtain rfl : v = Value.ref t := rv1
    refine ⟨_, hv, e.symm, ?_⟩
    obtain ⟨its2, r2, ⟨o, ho, hc, n, hdt⟩, _⟩ := I.tuple ht
    obtain ⟨u1, u2, rfl, ri, rj⟩ := vals2 r2
    obtain rfl : u1 = Value.ref q := ri
    obtain ⟨its3, r3, p3, _⟩ := I.tuple hq
    exact ⟨t, o, q, u2, n, rfl, ho, hc, hdt, q, its3.toArray, rfl, p3, L2.intsAre_of r3⟩
  have all : its.map (fun v => (backV v, k v)) = ps := by
    refine List.ext_getElem? fun j => ?_
    rw [List.getElem?_map]
    by_cases hj : j < ps.length
    · obtain ⟨v, h1, h2, h3⟩ := at_ j ps[j] (List.getElem?_eq_getElem hj)
      rw [h1, List.getElem?_eq_getElem hj]
      show some (backV v, k v) = some ps[j]
      rw [h2, hk v _ h3]
    · rw [List.getElem?_eq_none (by omega), List.getElem?_eq_none (by omega)]
      rfl
  have hp : ∀ v ∈ its, IsEnt s.heap v (k v) := fun v hv => by
    obtain ⟨j, hj⟩ := List.getElem?_of_mem hv
    have hj2 : j < ps.length := by rw [← len]; exact (List.getElem?_eq_some_iff.mp hj).1
    obtain ⟨v', h1, h2, h3⟩ := at_ j ps[j] (List.getElem?_eq_getElem hj2)
    rw [hj] at h1
    obtain rfl : v = v' := by simpa using h1
    rw [hk v _ h3]
    exact h3
  have keys : its.map k = ps.map (·.2) := by
    rw [← all, List.map_map]
    rfl
  have inj : ∀ v ∈ its, ∀ u ∈ its, k v = k u → v = u := fun v hv u hu e => by
    obtain ⟨i, hi, ei⟩ := List.getElem_of_mem hv
    obtain ⟨j, hj, ej⟩ := List.getElem_of_mem hu
    have nd : (its.map k).Nodup := by rw [keys]; exact hd
    have : i = j := by
      refine (List.getElem_inj (h₀ := by simpa using hi) (h₁ := by simpa using hj) nd).mp ?_
      simp [ei, ej, e]
    subst this
    rw [← ei, ← ej]
  refine SrtO.sorted_ord (swo_ents k) hl.isList (by rw [← rv.length]; exact hz) (fun h2 h₁ a' ha' kk => ?_) fun out h1 h2 => ?_
  · refine ents_sortable (s := { s with heap := h₁ }) (k := k) (by omega) (fun v hm => (hp v hm).keeps fun b o e _ => (kk b o e).2) (fun v hv u hu' z => inj v hv u hu' z) (fun o e => ?_) (show X.A.units + 1 + 1 < cLine by omega)
    have e' : some o = some (seqObj "list" its.toArray 0) := e.symm.trans ha'
    cases e'
    intro c
    exact absurd (Value.type.inj c) (by decide)
  · have h3 : ∀ u ∈ out, ∃ a, u = Value.ref a := fun u hu => e2 u (h2.perm.mem_iff.mp hu)
    have hperm : List.Perm (out.map fun v => (backV v, k v)) ps := by rw [← all]; exact h2.perm.map _
    obtain ⟨ep, he'⟩ := PyProof.Rows.sortedAll_at s.heap its out.toArray
    have em : (out.map fun v => (backV v, k v)).map (·.1) = out.map backV := by rw [List.map_map]; rfl
    have hlen : (out.map backV).length ≤ sizeLine := by
      rw [List.length_map, h2.perm.length_eq, len]
      rw [List.length_map] at hz
      exact hz
    have q' := q _ (s.heap.objs.size + 1) hperm (List.pairwise_map.mpr h1) (I.hok.fresh (Nat.le_succ _))
    rw [em] at q'
    exact ⟨.ref _, upd H (s.heap.objs.size + 1) (.lst (out.map backV)), I.laid (t' := s.toks) (fun _ _ => PyProof.Rows.sortedAll_old) (Nat.le_succ _) ⟨hlen, out, ep, vals_back h3, he'⟩, rfl, q'⟩
end
/-! ### what is walked, of whatever kind -/
def iU (K : PySem.W.Frag) (te : TE) : TI := fun σ H R => te σ H fun x H1 => (∃ a, x = .ref a ∧ (∃ xs, SqL K H1 a xs) ∧ R (Itl K a) H1) ∨ (∃ a, x = .ref a ∧ (∃ xs, SqT K H1 a xs) ∧ R (Itt K a) H1) ∨ ∃ z, x = .str z ∧ R (Its z) H1
theorem pi_U {X : Cx} {tg l : Expr} {tl : TE} (hl : PE X l tl) : PI X tg l (iU X.K tl) := by
  refine ⟨fun pins s σ H R I h => ?_⟩
  refine thn (hl.run pins s σ H _ I h) fun v s1 ⟨x, H1, I1, r1, q1⟩ => ?_
  rcases q1 with ⟨a, e, ⟨xs, hq⟩, q⟩ | ⟨a, e, ⟨xs, hq⟩, q⟩ | ⟨x, ex, q⟩
  · subst e
    cases r1
    obtain ⟨its, rv, p, hz⟩ := I1.list hq
    refine wpAny_pyIter_list p.isList ?_
    refine ⟨s1.heap.objs.size, [s1.heap.objs.size], _, _, H1, rfl, I1.kept (t' := s1.toks) fun b o e => Heap.get?_push_of_some _ e, turn_list a _, ⟨_, Heap.get?_push_size _ rfl, rfl, rfl⟩, fun b hb => ?_, q⟩
    have e : b = s1.heap.objs.size := by simpa using hb
    subst e
    exact I1.fpOk (Nat.le_refl _) (I1.hok.fresh (Nat.le_refl _))
  · subst e
    cases r1
    obtain ⟨its, rv, p, hz⟩ := I1.tuple hq
    refine wpAny_pyIter_tuple (show s1.heap.IsTuple a its.toArray from p) ?_
    refine ⟨s1.heap.objs.size, [s1.heap.objs.size], _, _, H1, rfl, I1.kept (t' := s1.toks) fun b o e => Heap.get?_push_of_some _ e, turn_tuple a _, ⟨_, Heap.get?_push_size _ rfl, rfl, rfl⟩, fun b hb => ?_, q⟩
    have e : b = s1.heap.objs.size := by simpa using hb
    subst e
    exact I1.fpOk (Nat.le_refl _) (I1.hok.fresh (Nat.le_refl _))
  · subst ex
    obtain ⟨t, rfl⟩ := r1
    cases ha : x.cps.all (· < 128)
    · exact wpAny_pyIter_wide ha (pi_one (tk := s1.toks) I1 _ (turn_str _ x t "str_iterator" (.inr rfl)) ⟨_, Heap.get?_push_size _ rfl, rfl, rfl⟩ q)
    · exact wpAny_pyIter_ascii ha (pi_one (tk := s1.toks) I1 _ (turn_str _ x t "str_ascii_iterator" (.inl rfl)) ⟨_, Heap.get?_push_size _ rfl, rfl, rfl⟩ q)
def iEnU (K : PySem.W.Frag) (ta : TA) : TI := fun σ H R => ta σ H fun vs H1 => (∃ a xs, vs = [.ref a] ∧ SqL K H1 a xs ∧ R (Ite K a) H1) ∨ ∃ a xs, vs = [.ref a] ∧ SqT K H1 a xs ∧ R (IteT K a) H1
theorem pi_enU {X : Cx} {e : Expr} {ta : TA} {p pos tpos : Pos} {elts : List Expr} {kk : Nat} (hg : Gl X "enumerate") (hm : X.mg "enumerate" = none) (ha : PA X [e] ta) (hs : starEach [e] X.env = [(false, eval e X.env)] := by rfl) :
    PI X (.Tuple elts kk tpos) (.Call (.Name "enumerate" p) [e] [] pos) (iEnU X.K ta) := by
  refine ⟨fun pins s σ H R I h => ?_⟩
  refine Call_ (ld_blt I hg hm boot_enumerate (PyProof.Rows.callWith_type1 (thn (ha.run pos pins s σ H _ I h) fun us s1 ⟨vs, H1, I1, r1, q1⟩ => ?_) hs rfl))
  rcases q1 with ⟨a, xs, ex, hq, q⟩ | ⟨a, xs, ex, hq, q⟩
  · subst ex
    cases r1 with
    | cons r rr =>
      cases rr
      cases r
      obtain ⟨its, rv, p', hz⟩ := I1.list hq
      refine call_enumerate_list p'.isList fun h' he hit hsz hk => wpAny_pyIter_enum he ?_
      have I2 : Inv X pins σ H1 { s1 with heap := h' } := I1.kept (t' := s1.toks) hk
      refine ⟨s1.heap.objs.size + 1, [s1.heap.objs.size + 1, s1.heap.objs.size], _, _, H1, rfl, I2, turn_enum a (s1.heap.objs.size + 1) s1.heap.objs.size, ⟨⟨.none, he⟩, hit, Nat.succ_ne_self _⟩, fun b hb => ?_, q⟩
      have e' : b = s1.heap.objs.size + 1 ∨ b = s1.heap.objs.size := by simpa using hb
      have hle : s1.heap.objs.size ≤ b := by
        rcases e' with z | z
        · rw [z]; exact Nat.le_add_right _ _
        · rw [z]; exact Nat.le_refl _
      exact I1.fpOk hle (I1.hok.fresh hle)
  · subst ex
    cases r1 with
    | cons r rr =>
      cases rr
      cases r
      obtain ⟨its, rv, p', hz⟩ := I1.tuple hq
      have tup : s1.heap.IsTuple a its.toArray := p'
      have lta : a < s1.heap.objs.size := by obtain ⟨_, q, _⟩ := tup; exact Heap.lt_size q
      refine call_enum1 (begins_tuple a its.toArray) tup fun h' he hit hk => wpAny_pyIter_enum he ?_
      have I2 : Inv X pins σ H1 { s1 with heap := h' } := I1.kept (t' := s1.toks) hk
      refine ⟨s1.heap.objs.size + 1, [s1.heap.objs.size + 1, s1.heap.objs.size], _, _, H1, rfl, I2, turn_enumT a (s1.heap.objs.size + 1) s1.heap.objs.size (Nat.ne_of_lt (Nat.lt_succ_of_lt lta)) (Nat.ne_of_lt lta), ⟨⟨.none, he⟩, ⟨_, hit, rfl, rfl⟩, Nat.succ_ne_self _⟩, fun b hb => ?_, q⟩
      have le : s1.heap.objs.size ≤ b := by
        rcases (show b = s1.heap.objs.size + 1 ∨ b = s1.heap.objs.size by simpa using hb) with z | z
        · rw [z]; exact Nat.le_add_right _ _
        · rw [z]; exact Nat.le_refl _
      exact I1.fpOk le (I1.hok.fresh le)
/-! ### operations of whatever kind -/
theorem OpR.or {X : Cx} {f : Value → Value → Sem Value} {r1 r2 : R2} (h1 : OpR X f r1) (h2 : OpR X f r2) : OpR X f fun x y H Q => r1 x y H Q ∨ r2 x y H Q := fun pins s σ H x y v u Q I rx ry h => by
  rcases h with h | h
  · exact h1 pins s σ H x y v u Q I rx ry h
  · exact h2 pins s σ H x y v u Q I rx ry h
theorem CallR.or {X : Cx} {f : Value} {r1 r2 : List V → Hp → VK → Prop} (h1 : CallR X f r1) (h2 : CallR X f r2) : CallR X f fun x H Q => r1 x H Q ∨ r2 x H Q := fun pins s σ H x v Q I rx h => by
  rcases h with h | h
  · exact h1 pins s σ H x v Q I rx h
  · exact h2 pins s σ H x v Q I rx h
/-! == of data at any depth up to 190 -/
def rEqW (K : PySem.W.Frag) : R2 := fun x y H Q => ∃ d e, Dp K H x d ∧ Dp K H y e ∧ d.canLay0 = true ∧ e.canLay0 = true ∧ d.depth ≤ 190 ∧ Q (.bl (PyData.eqv d e)) H
def rNeW (K : PySem.W.Frag) : R2 := fun x y H Q => ∃ d e, Dp K H x d ∧ Dp K H y e ∧ d.canLay0 = true ∧ e.canLay0 = true ∧ d.depth ≤ 190 ∧ Q (.bl (!PyData.eqv d e)) H
section
variable {X : Cx}
theorem op_eqW (hu : X.A.units + 200 < cLine) : OpR X (compareOp .Eq) (rEqW X.K) := by
  intro pins s σ H x y v u Q I rx ry h
  obtain ⟨d, e, hd, he, sd, se, hc, q⟩ := h
  obtain ⟨as, r1⟩ := Dp.reads I d x v hd rx
  obtain ⟨bs, r2⟩ := Dp.reads I e y u he ry
  exact SeqAt.compareEq_reads r1 r2 sd se (by have := Nat.min_le_left d.depth e.depth; omega) ⟨.bl _, H, I, rfl, q⟩
theorem op_neW (hu : X.A.units + 200 < cLine) : OpR X (compareOp .NotEq) (rNeW X.K) := by
  intro pins s σ H x y v u Q I rx ry h
  obtain ⟨d, e, hd, he, sd, se, hc, q⟩ := h
  obtain ⟨as, r1⟩ := Dp.reads I d x v hd rx
  obtain ⟨bs, r2⟩ := Dp.reads I e y u he ry
  exact SeqAt.compareNe_reads r1 r2 sd se (by have := Nat.min_le_left d.depth e.depth; omega) ⟨.bl _, H, I, rfl, q⟩
end
section
variable (K : PySem.W.Frag)
def rAddU : R2 := fun x y H Q => (rAddI x y H Q ∨ rAddS x y H Q) ∨ (rCat x y H Q ∨ rCatA K x y H Q)
def rMulU : R2 := fun x y H Q => (rMulI x y H Q ∨ rMulW x y H Q) ∨ rRep x y H Q
def rDivU : R2 := fun x y H Q => rDivI x y H Q ∨ rDivW x y H Q
def rEqU : R2 := fun x y H Q => rEq x y H Q ∨ rEqW K x y H Q
def rNeU : R2 := fun x y H Q => rNe x y H Q ∨ rNeW K x y H Q
def rLtU : R2 := fun x y H Q => (rLtI x y H Q ∨ rLtS x y H Q) ∨ rLtT K x y H Q
def rInU (neg : Bool) : R2 := fun x y H Q => rIn K neg x y H Q ∨ (if neg then rNotInD K else rInD K) x y H Q
def rIxU : R2 := fun x y H Q => rIxL K x y H Q ∨ rIxT K x y H Q ∨ rIxS x y H Q
def rSlU : V → Option Int → Option Int → Hp → VK → Prop := fun x lo hi H Q => rSlL K x lo hi H Q ∨ (rSlA K x lo hi H Q ∨ rSlS x lo hi H Q)
end
section
variable {X : Cx}
theorem op_addU : OpR X (binaryOp .Add) (rAddU X.K) := OpR.or (OpR.or op_add op_add_str) (OpR.or op_cat op_catA)
theorem op_mulU : OpR X (binaryOp .Mult) rMulU := OpR.or (OpR.or op_mul op_mulW) op_rep
theorem op_divU : OpR X (binaryOp .FloorDiv) rDivU := OpR.or op_fdiv op_fdivW
theorem op_eqU (hu : X.A.units + 200 < cLine) : OpR X (compareOp .Eq) (rEqU X.K) := OpR.or op_eq (op_eqW hu)
theorem op_neU (hu : X.A.units + 200 < cLine) : OpR X (compareOp .NotEq) (rNeU X.K) := OpR.or op_ne (op_neW hu)
theorem op_ltU (hu : X.A.units + 64 < cLine) : OpR X (compareOp .Lt) (rLtU X.K) := OpR.or (OpR.or op_lt op_lt_str) (op_ltT (by omega))
theorem op_inU (hu : X.A.units + 65 < cLine) : OpR X (compareOp .In) (rInU X.K false) := OpR.or op_in_seq (op_inD hu)
theorem op_notInU (hu : X.A.units + 65 < cLine) : OpR X (compareOp .NotIn) (rInU X.K true) := OpR.or op_notIn_seq (op_notInD hu)
theorem ix_U : IxR X (rIxU X.K) := IxR.or ix_list (IxR.or ix_tup ix_str)
theorem sl_U : SlR X (rSlU X.K) := SlR.or sl_list (SlR.or sl_tupA sl_str)
theorem call_lenU : CallR X (.builtin "len") (rLen X.K) := call_len
end
/-! ### data by value: what is owned, what stands -/
inductive D where
  | non | bl (b : Bool) | int (i : Int) | str (s : Str) | tup (xs : List D) | key (ns : List Int) | lst (xs : List D) | rol (xs : List D) | ins (c : Str) (ns : List Str) (xs : List D) | dic (ks : List (List Int)) (xs : List D)
/-- the pairs of a dict whose keys are rows of ints -/
def kz (ks : List (List Int)) (xs : List V) : List (List Key × V) := (ks.zip xs).map fun p => (p.1.map Sum.inl, p.2)
abbrev Rho := List (Option D)
mutual
inductive Rep (K : PySem.W.Frag) (H : Hp) : V → D → List Addr → Prop
  | non : Rep K H .non .non []
  | bl (b : Bool) : Rep K H (.bl b) (.bl b) []
  | int (i : Int) : Rep K H (.int i) (.int i) []
  | str (s : Str) : Rep K H (.str s) (.str s) []
  | tup {a : Addr} {xs : List V} {ds : List D} {S : List Addr} : SqT K H a xs → RepA K H xs ds S → Rep K H (.ref a) (.tup ds) S
  | key {a : Addr} {ns : List Int} : H a = some (.tup (ns.map V.int)) → Rep K H (.ref a) (.key ns) []
  | dic {a : Addr} {ks : List (List Int)} {xs : List V} {ds : List D} {S : List Addr} : H a = some (.dT (kz ks xs)) → xs.length = ks.length → RepA K H xs ds S → Rep K H (.ref a) (.dic ks ds) (a :: S)
  | lst {a : Addr} {xs : List V} {ds : List D} {S : List Addr} : H a = some (.lst xs) → RepA K H xs ds S → Rep K H (.ref a) (.lst ds) (a :: S)
  | rol {a : Addr} {xs : List V} {ds : List D} : ((∃ o, H a = some (.frz o (.lst xs))) ∨ ∀ H', SqL K H' a xs) → RepA K H xs ds [] → Rep K H (.ref a) (.rol ds) []
  | ins {a dx : Addr} {c : Str} {ns : List Str} {xs : List V} {ds : List D} {S : List Addr} : H a = some (.ins (gA c K) dx (ns.zip xs)) → RepA K H xs ds S → Rep K H (.ref a) (.ins c ns ds) (a :: S)
inductive RepA (K : PySem.W.Frag) (H : Hp) : List V → List D → List Addr → Prop
  | nil : RepA K H [] [] []
  | cons {v : V} {vs : List V} {d : D} {ds : List D} {S T : List Addr} : Rep K H v d S → RepA K H vs ds T → RepA K H (v :: vs) (d :: ds) (S ++ T)
end
def Mu : Option HO → Prop
  | some (.lst _) => True
  | some (.ins _ _ _) => True
  | some (.dT _) => True
  | _ => False
mutual
def D.imm : D → Bool
  | .non | .bl _ | .int _ | .str _ | .rol _ | .key _ => true
  | .tup xs => immA xs
  | .lst _ | .ins _ _ _ | .dic _ _ => false
def immA : List D → Bool
  | [] => true
  | x :: xs => x.imm && immA xs
end
section
variable {K : PySem.W.Frag} {H H' : Hp} {F S T : List Addr}
mutual
theorem Rep.mut : ∀ (d : D) (v : V) (S : List Addr), Rep K H v d S → ∀ a ∈ S, Mu (H a)
  | .non, _, _, h, a, ha => by cases h; cases ha
  | .bl _, _, _, h, a, ha => by cases h; cases ha
  | .int _, _, _, h, a, ha => by cases h; cases ha
  | .str _, _, _, h, a, ha => by cases h; cases ha
  | .rol _, _, _, h, a, ha => by cases h; cases ha
  | .key _, _, _, h, a, ha => by cases h; cases ha
  | .dic _ ds, _, _, h, a, ha => by
    cases h with
    | dic h1 h3 h2 =>
      rcases List.mem_cons.mp ha with rfl | ha
      · rw [h1]; trivial
      · exact RepA.mut ds _ _ h2 a ha
  | .tup ds, _, _, h, a, ha => by
    cases h with
    | tup h1 h2 => exact RepA.mut ds _ _ h2 a ha
  | .lst ds, _, _, h, a, ha => by
    cases h with
    | lst h1 h2 =>
      rcases List.mem_cons.mp ha with rfl | ha
      · rw [h1]; trivial
      · exact RepA.mut ds _ _ h2 a ha
  | .ins _ _ ds, _, _, h, a, ha => by
    cases h with
    | ins h1 h2 =>
      rcases List.mem_cons.mp ha with rfl | ha
      · rw [h1]; trivial
      · exact RepA.mut ds _ _ h2 a ha
theorem RepA.mut : ∀ (ds : List D) (vs : List V) (S : List Addr), RepA K H vs ds S → ∀ a ∈ S, Mu (H a)
  | [], _, _, h, a, ha => by cases h; cases ha
  | d :: ds, _, _, h, a, ha => by
    cases h with
    | cons h1 h2 =>
      rcases List.mem_append.mp ha with ha | ha
      · exact Rep.mut d _ _ h1 a ha
      · exact RepA.mut ds _ _ h2 a ha
end
theorem rd_far {u : HO} {a : Addr} (h : Rd H a u) (hu : ¬ Mu (some u)) : ¬ Mu (H a) := by
  rcases h with h | ⟨o, h⟩
  · rw [h]; exact hu
  · rw [h]; exact fun z => z
mutual
theorem Rep.mono (k : Keep F H H') (hF : ∀ a ∈ F, Mu (H a)) : ∀ (d : D) (v : V) (S : List Addr), Rep K H v d S → (∀ a ∈ S, a ∉ F) → Rep K H' v d S
  | .non, _, _, h, n => by cases h; exact .non
  | .bl _, _, _, h, n => by cases h; exact .bl _
  | .int _, _, _, h, n => by cases h; exact .int _
  | .str _, _, _, h, n => by cases h; exact .str _
  | .key _, _, _, h, n => by
    cases h with
    | key h1 => exact .key (k _ _ (fun z => by have := hF _ z; rw [h1] at this; exact this) h1)
  | .dic _ ds, _, _, h, n => by
    cases h with
    | dic h1 h3 h2 => exact .dic (k _ _ (n _ (List.mem_cons_self ..)) h1) h3 (RepA.mono k hF ds _ _ h2 fun a ha => n a (List.mem_cons_of_mem _ ha))
  | .rol ds, _, _, h, n => by
    cases h with
    | rol h1 h2 =>
      refine .rol ?_ (RepA.mono k hF ds _ _ h2 n)
      rcases h1 with ⟨o, h1⟩ | h1
      · exact .inl ⟨o, k _ _ (fun z => by have := hF _ z; rw [h1] at this; exact this) h1⟩
      · exact .inr h1
  | .tup ds, _, _, h, n => by
    cases h with
    | tup h1 h2 =>
      refine .tup ?_ (RepA.mono k hF ds _ _ h2 n)
      rcases h1 with h1 | h1
      · exact .inl (k.rd (fun z => rd_far h1 (fun q => q) (hF _ z)) h1)
      · exact .inr h1
  | .lst ds, _, _, h, n => by
    cases h with
    | lst h1 h2 => exact .lst (k _ _ (n _ (List.mem_cons_self ..)) h1) (RepA.mono k hF ds _ _ h2 fun a ha => n a (List.mem_cons_of_mem _ ha))
  | .ins _ _ ds, _, _, h, n => by
    cases h with
    | ins h1 h2 => exact .ins (k _ _ (n _ (List.mem_cons_self ..)) h1) (RepA.mono k hF ds _ _ h2 fun a ha => n a (List.mem_cons_of_mem _ ha))
theorem RepA.mono (k : Keep F H H') (hF : ∀ a ∈ F, Mu (H a)) : ∀ (ds : List D) (vs : List V) (S : List Addr), RepA K H vs ds S → (∀ a ∈ S, a ∉ F) → RepA K H' vs ds S
  | [], _, _, h, n => by cases h; exact .nil
  | d :: ds, _, _, h, n => by
    cases h with
    | cons h1 h2 => exact .cons (Rep.mono k hF d _ _ h1 fun a ha => n a (List.mem_append_left _ ha)) (RepA.mono k hF ds _ _ h2 fun a ha => n a (List.mem_append_right _ ha))
end
mutual
theorem Rep.imm_nil : ∀ (d : D) (v : V) (S : List Addr), Rep K H v d S → d.imm = true → S = []
  | .non, _, _, h, n => by cases h; rfl
  | .bl _, _, _, h, n => by cases h; rfl
  | .int _, _, _, h, n => by cases h; rfl
  | .str _, _, _, h, n => by cases h; rfl
  | .rol ds, _, _, h, n => by cases h; rfl
  | .key _, _, _, h, n => by cases h; rfl
  | .dic _ _, _, _, h, n => by simp [D.imm] at n
  | .tup ds, _, _, h, n => by
    cases h with
    | tup h1 h2 => exact RepA.imm_nil ds _ _ h2 (by simpa [D.imm] using n)
  | .lst ds, _, _, h, n => by simp [D.imm] at n
  | .ins _ _ ds, _, _, h, n => by simp [D.imm] at n
theorem RepA.imm_nil : ∀ (ds : List D) (vs : List V) (S : List Addr), RepA K H vs ds S → immA ds = true → S = []
  | [], _, _, h, n => by cases h; rfl
  | d :: ds, _, _, h, n => by
    cases h with
    | cons h1 h2 =>
      simp only [immA, Bool.and_eq_true] at n
      rw [Rep.imm_nil d _ _ h1 n.1, RepA.imm_nil ds _ _ h2 n.2]
      rfl
end
theorem RepA.length : ∀ {ds : List D} {vs : List V} {S : List Addr}, RepA K H vs ds S → vs.length = ds.length
  | [], _, _, h => by cases h; rfl
  | d :: ds, _, _, h => by
    cases h with
    | cons h1 h2 => simp [RepA.length h2]
theorem RepA.append : ∀ {ds es : List D} {vs us : List V} {S T : List Addr}, RepA K H vs ds S → RepA K H us es T → RepA K H (vs ++ us) (ds ++ es) (S ++ T)
  | [], _, _, _, _, _, h, g => by cases h; exact g
  | d :: ds, _, _, _, _, _, h, g => by
    cases h with
    | cons h1 h2 =>
      rw [List.append_assoc]
      exact .cons h1 (RepA.append h2 g)
/-- one item out of a row, and back -/
theorem RepA.at_ : ∀ {ds : List D} {vs : List V} {S : List Addr} {j : Nat} {d : D}, RepA K H vs ds S → ds[j]? = some d → ∃ v T A, vs[j]? = some v ∧ Rep K H v d T ∧ S.Perm (T ++ A) ∧
    ∀ (H' : Hp) (v' : V) (d' : D) (T' : List Addr), (∀ (e : D) (u : V) (U : List Addr), Rep K H u e U → (∀ a ∈ U, a ∈ A) → Rep K H' u e U) → Rep K H' v' d' T' → ∃ S', RepA K H' (vs.set j v') (ds.set j d') S' ∧ S'.Perm (T' ++ A)
  | [], _, _, _, _, _, e => by simp at e
  | d :: ds, _, _, 0, _, h, e => by
    cases h with
    | @cons v vs _ _ S T h1 h2 =>
      obtain rfl : d = _ := by simpa using e
      refine ⟨v, S, T, rfl, h1, .refl _, fun H' v' d' T' k r => ⟨T' ++ T, .cons r ?_, .refl _⟩⟩
      have go : ∀ {ds : List D} {vs : List V} {T0 : List Addr}, RepA K H vs ds T0 → (∀ a ∈ T0, a ∈ T) → RepA K H' vs ds T0 := by
        intro ds
        induction ds with
        | nil => intro vs T0 h _; cases h; exact .nil
        | cons d ds ih =>
          intro vs T0 h hs
          cases h with
          | cons a b => exact .cons (k _ _ _ a fun x hx => hs x (List.mem_append_left _ hx)) (ih b fun x hx => hs x (List.mem_append_right _ hx))
      exact go h2 fun _ h => h
  | d :: ds, _, _, j + 1, _, h, e => by
    cases h with
    | @cons v vs _ _ S T h1 h2 =>
      obtain ⟨u, T1, A, e1, r1, p1, back⟩ := RepA.at_ (j := j) h2 (by simpa using e)
      refine ⟨u, T1, S ++ A, by simpa using e1, r1, ?_, fun H' v' d' T' k r => ?_⟩
      · refine (p1.append_left S).trans ?_
        rw [← List.append_assoc, ← List.append_assoc]
        exact (List.perm_append_comm).append_right A
      · obtain ⟨S', q1, q2⟩ := back H' v' d' T' (fun e u U r hU => k e u U r fun a ha => List.mem_append_right _ (hU a ha)) r
        refine ⟨S ++ S', .cons (k _ _ _ h1 fun a ha => List.mem_append_left _ ha) q1, ?_⟩
        refine (q2.append_left S).trans ?_
        rw [← List.append_assoc, ← List.append_assoc]
        exact (List.perm_append_comm).append_right A
theorem repA_ints : ∀ {ns : List Int} {vs : List V} {S : List Addr}, RepA K H vs (ns.map D.int) S → vs = ns.map V.int ∧ S = []
  | [], _, _, h => by cases h; exact ⟨rfl, rfl⟩
  | n :: ns, _, _, h => by
    cases h with
    | cons h1 h2 =>
      cases h1
      obtain ⟨e1, e2⟩ := repA_ints h2
      exact ⟨by rw [e1]; rfl, by rw [e2]; rfl⟩
theorem mk_ints : ∀ ns : List Int, RepA K H (ns.map V.int) (ns.map D.int) []
  | [] => .nil
  | n :: ns => .cons (S := []) (.int n) (mk_ints ns)
theorem imm_ints : ∀ ns : List Int, immA (ns.map D.int) = true
  | [] => rfl
  | n :: ns => by simp [immA, D.imm, imm_ints ns]
end
/-! ### the slots by value -/
inductive Sl (K : PySem.W.Frag) (H : Hp) : L2.St → Rho → List Addr → Prop
  | nil : Sl K H [] [] []
  | no {s : Option V} {σ : L2.St} {ρ : Rho} {F : List Addr} : Sl K H σ ρ F → Sl K H (s :: σ) (none :: ρ) F
  | so {v : V} {σ : L2.St} {d : D} {ρ : Rho} {S F : List Addr} : Rep K H v d S → Sl K H σ ρ F → Sl K H (some v :: σ) (some d :: ρ) (S ++ F)
section
variable {K : PySem.W.Frag} {H H' H1 H2 : Hp} {F F1 F2 S T A G G1 G2 : List Addr} {σ : L2.St} {ρ ρ1 ρ2 : Rho} {d e : D} {v : V} {i j : Nat}
theorem Sl.mut (h : Sl K H σ ρ F) : ∀ a ∈ F, Mu (H a) := by
  induction h with
  | nil => intro a h; cases h
  | no _ ih => exact ih
  | so r _ ih =>
    intro a ha
    rcases List.mem_append.mp ha with ha | ha
    · exact Rep.mut _ _ _ r a ha
    · exact ih a ha
theorem Sl.mono (k : Keep G H H') (hG : ∀ a ∈ G, Mu (H a)) (h : Sl K H σ ρ F) : (∀ a ∈ F, a ∉ G) → Sl K H' σ ρ F := by
  induction h with
  | nil => intro _; exact .nil
  | no _ ih => intro n; exact .no (ih n)
  | so r _ ih =>
    intro n
    exact .so (Rep.mono k hG _ _ _ r fun a ha => n a (List.mem_append_left _ ha)) (ih fun a ha => n a (List.mem_append_right _ ha))
theorem Sl.length (h : Sl K H σ ρ F) : σ.length = ρ.length := by
  induction h with
  | nil => rfl
  | no _ ih => simp [ih]
  | so _ _ ih => simp [ih]
/-- one slot out -/
theorem Sl.out (h : Sl K H σ ρ F) : ∀ {i : Nat} {d : D}, ρ[i]? = some (some d) → ∃ v S A, σ[i]? = some (some v) ∧ Rep K H v d S ∧ Sl K H σ (ρ.set i none) A ∧ F.Perm (S ++ A) := by
  induction h with
  | nil => intro i d e; simp at e
  | no h ih =>
    intro i d e
    cases i with
    | zero => simp at e
    | succ i =>
      obtain ⟨v, S, A, h1, h2, h3, h4⟩ := ih (i := i) (d := d) (by simpa using e)
      exact ⟨v, S, A, by simpa using h1, h2, .no h3, h4⟩
  | @so v σ d ρ S F r h ih =>
    intro i d' e
    cases i with
    | zero =>
      obtain rfl : d = d' := by simpa using e
      exact ⟨v, S, F, rfl, r, .no h, .refl _⟩
    | succ i =>
      obtain ⟨u, T, A, h1, h2, h3, h4⟩ := ih (i := i) (d := d') (by simpa using e)
      refine ⟨u, T, S ++ A, by simpa using h1, h2, .so r h3, ?_⟩
      refine (h4.append_left S).trans ?_
      rw [← List.append_assoc, ← List.append_assoc]
      exact List.perm_append_comm.append_right A
/-- one slot in -/
theorem Sl.inn (h : Sl K H σ ρ F) : ∀ {i : Nat} {d : D} {v : V} {S : List Addr}, ρ[i]? = some none → σ[i]? = some (some v) → Rep K H v d S → ∃ A, Sl K H σ (ρ.set i (some d)) A ∧ A.Perm (S ++ F) := by
  induction h with
  | nil => intro i d v S e; simp at e
  | @no s σ ρ F h ih =>
    intro i d v S e e2 r
    cases i with
    | zero =>
      obtain rfl : s = some v := by simpa using e2
      exact ⟨_, .so r h, .refl _⟩
    | succ i =>
      obtain ⟨A, h1, h2⟩ := ih (i := i) (by simpa using e) (by simpa using e2) r
      exact ⟨A, .no h1, h2⟩
  | @so v0 σ d0 ρ S0 F r0 h ih =>
    intro i d v S e e2 r
    cases i with
    | zero => simp at e
    | succ i =>
      obtain ⟨A, h1, h2⟩ := ih (i := i) (by simpa using e) (by simpa using e2) r
      refine ⟨_, .so r0 h1, ?_⟩
      refine (h2.append_left S0).trans ?_
      rw [← List.append_assoc, ← List.append_assoc]
      exact List.perm_append_comm.append_right F
theorem Sl.drop (h : Sl K H σ ρ F) : ∀ (i : Nat) (v : V), ∃ A, Sl K H (σ.set i (some v)) (ρ.set i none) A ∧ A.Sublist F := by
  induction h with
  | nil => intro i v; exact ⟨[], .nil, .refl _⟩
  | @no s σ ρ F h ih =>
    intro i v
    cases i with
    | zero => exact ⟨F, .no h, .refl _⟩
    | succ i =>
      obtain ⟨A, h1, h2⟩ := ih i v
      exact ⟨A, .no h1, h2⟩
  | @so v0 σ d0 ρ S0 F r0 h ih =>
    intro i v
    cases i with
    | zero => exact ⟨F, .no h, List.sublist_append_right ..⟩
    | succ i =>
      obtain ⟨A, h1, h2⟩ := ih i v
      exact ⟨S0 ++ A, .so r0 h1, h2.append_left S0⟩
theorem Sl.forget (h : Sl K H σ ρ F) : ∀ (i : Nat), ∃ A, Sl K H σ (ρ.set i none) A ∧ A.Sublist F := by
  induction h with
  | nil => intro i; exact ⟨[], .nil, .refl _⟩
  | @no s σ ρ F h ih =>
    intro i
    cases i with
    | zero => exact ⟨F, .no h, .refl _⟩
    | succ i =>
      obtain ⟨A, h1, h2⟩ := ih i
      exact ⟨A, .no h1, h2⟩
  | @so v0 σ d0 ρ S0 F r0 h ih =>
    intro i
    cases i with
    | zero => exact ⟨F, .no h, List.sublist_append_right ..⟩
    | succ i =>
      obtain ⟨A, h1, h2⟩ := ih i
      exact ⟨S0 ++ A, .so r0 h1, h2.append_left S0⟩
/-- from the heap H with F owned to H' with G owned -/
structure Step (F : List Addr) (H : Hp) (G : List Addr) (H' : Hp) : Prop where
  keep : Keep F H H'
  nd : G.Nodup
  sub : ∀ a ∈ G, a ∈ F ∨ H a = none
theorem Step.refl (n : F.Nodup) : Step F H F H := ⟨.refl _, n, fun _ h => .inl h⟩
theorem Step.perm (s : Step F H G H') (p : G.Perm G1) : Step F H G1 H' := ⟨s.keep, p.nodup_iff.mp s.nd, fun a h => s.sub a (p.mem_iff.mpr h)⟩
theorem Step.permL (s : Step F H G H') (p : F.Perm F1) : Step F1 H G H' := ⟨s.keep.mono fun a h => p.mem_iff.mp h, s.nd, fun a h => (s.sub a h).imp (fun z => p.mem_iff.mp z) id⟩
theorem Step.subl (s : Step F H G H') (p : G1.Sublist G) : Step F H G1 H' := ⟨s.keep, p.nodup s.nd, fun a h => s.sub a (p.subset h)⟩
theorem Step.trans (s : Step F H G H1) (t : Step G H1 G2 H2) : Step F H G2 H2 where
  keep := fun a o n e => t.keep a o (fun z => (s.sub a z).elim n fun y => by rw [e] at y; cases y) (s.keep a o n e)
  nd := t.nd
  sub := fun a h => by
    rcases t.sub a h with z | z
    · exact s.sub a z
    · by_cases q : a ∈ F
      · exact .inl q
      · refine .inr ?_
        cases e : H a with
        | none => rfl
        | some o => rw [s.keep a o q e] at z; cases z
/-- what stands aside (S) while the rest (F1) moves -/
theorem Step.aside (s : Step F H (S ++ F1) H1) (hS : ∀ a ∈ S, Mu (H1 a)) (t : Step F1 H1 G2 H2) : Step F H (S ++ G2) H2 where
  keep := fun a o n e => by
    have h1 := s.keep a o n e
    refine t.keep a o (fun z => ?_) h1
    rcases s.sub a (List.mem_append_right _ z) with z | z
    · exact n z
    · rw [e] at z; cases z
  nd := by
    obtain ⟨n1, n2, n3⟩ := List.nodup_append.mp s.nd
    refine List.nodup_append.mpr ⟨n1, t.nd, fun a ha b hb => ?_⟩
    rintro rfl
    rcases t.sub a hb with z | z
    · exact n3 a ha a z rfl
    · have := hS a ha
      rw [z] at this
      exact this
  sub := fun a h => by
    rcases List.mem_append.mp h with h | h
    · exact s.sub a (List.mem_append_left _ h)
    · rcases t.sub a h with z | z
      · exact s.sub a (List.mem_append_right _ z)
      · by_cases q : a ∈ F
        · exact .inl q
        · refine .inr ?_
          cases e : H a with
          | none => rfl
          | some o => rw [s.keep a o q e] at z; cases z
theorem Step.far (s : Step F H (S ++ F1) H1) : ∀ a ∈ S, a ∉ F1 := fun a ha hb => (List.nodup_append.mp s.nd).2.2 a ha a hb rfl
theorem Step.new (n : F.Nodup) {p : Addr} {o : HO} (hF : ∀ a ∈ F, Mu (H a)) (hp : H p = none) : Step F H (p :: F) (upd H p o) := ⟨.new hp, List.nodup_cons.mpr ⟨fun z => by have := hF p z; rw [hp] at this; exact this, n⟩, fun a h => by
  rcases List.mem_cons.mp h with rfl | h
  · exact .inr hp
  · exact .inl h⟩
theorem Step.newI (n : F.Nodup) {p : Addr} {o : HO} (hp : H p = none) : Step F H F (upd H p o) := ⟨.new hp, n, fun _ h => .inl h⟩
/-! ### the judgements -/
def DE (K : PySem.W.Frag) (t : TE) (ρ : Rho) (Qd : D → Rho → Prop) : Prop := ∀ (σ : L2.St) (H : Hp) (F : List Addr) (Q : VK), Sl K H σ ρ F → F.Nodup →
  (∀ v d ρ' H' S F', Qd d ρ' → Rep K H' v d S → Sl K H' σ ρ' F' → Step F H (S ++ F') H' → Q v H') → t σ H Q
def DT (K : PySem.W.Frag) (t : TT) (ρ : Rho) (Qd : Bool → Rho → Prop) : Prop := ∀ (σ : L2.St) (H : Hp) (F : List Addr) (Q : Bool → Hp → Prop), Sl K H σ ρ F → F.Nodup →
  (∀ b ρ' H' F', Qd b ρ' → Sl K H' σ ρ' F' → Step F H F' H' → Q b H') → t σ H Q
def DA (K : PySem.W.Frag) (t : TA) (ρ : Rho) (Qd : List D → Rho → Prop) : Prop := ∀ (σ : L2.St) (H : Hp) (F : List Addr) (Q : List V → Hp → Prop), Sl K H σ ρ F → F.Nodup →
  (∀ vs ds ρ' H' S F', Qd ds ρ' → RepA K H' vs ds S → Sl K H' σ ρ' F' → Step F H (S ++ F') H' → Q vs H') → t σ H Q
/-- read in place: nothing changes -/
def DB (K : PySem.W.Frag) (t : TE) (ρ : Rho) (Qd : D → Prop) : Prop := ∀ (σ : L2.St) (H : Hp) (F : List Addr) (Q : VK), Sl K H σ ρ F → F.Nodup →
  (∀ v d S, Qd d → Rep K H v d S → (∀ a ∈ S, a ∈ F) → Q v H) → t σ H Q
/-- an operation by values: its result is new, or holds nothing that is owned -/
def OpG (K : PySem.W.Frag) (r : R2) (d e : D) (Qd : D → Prop) : Prop := ∀ (x y : V) (S T : List Addr) (H : Hp) (Q : VK), Rep K H x d S → Rep K H y e T →
  (∀ v z H' U, Qd z → Rep K H' v z U → Step [] H U H' → Q v H') → r x y H Q
/-- the same, nothing new -/
def OpP (K : PySem.W.Frag) (r : R2) (d e : D) (Qd : D → Prop) : Prop := ∀ (x y : V) (S T : List Addr) (H : Hp) (Q : VK), Rep K H x d S → Rep K H y e T →
  (∀ v z, Qd z → Rep K H v z [] → Q v H) → r x y H Q
theorem OpP.g {r : R2} {Qd : D → Prop} (h : OpP K r d e Qd) : OpG K r d e Qd := fun x y S T H Q hx hy k => h x y S T H Q hx hy fun v z q rp => k v z H [] q rp ⟨.refl _, List.nodup_nil, fun _ h => by cases h⟩
theorem OpP.ma {r : R2} {Qd Qd' : D → Prop} (h : OpP K r d e Qd) (m : ∀ z, Qd z → Qd' z) : OpP K r d e Qd' := fun x y S T H Q hx hy k => h x y S T H Q hx hy fun v z q rp => k v z (m z q) rp
theorem DE.ma {t : TE} {Qd Qd' : D → Rho → Prop} (h : DE K t ρ Qd) (m : ∀ z r, Qd z r → Qd' z r) : DE K t ρ Qd' := fun σ H F Q s n k => h σ H F Q s n fun v d ρ' H' S F' q => k v d ρ' H' S F' (m _ _ q)
theorem DB.ma {t : TE} {Qd Qd' : D → Prop} (h : DB K t ρ Qd) (m : ∀ z, Qd z → Qd' z) : DB K t ρ Qd' := fun σ H F Q s n k => h σ H F Q s n fun v d S q => k v d S (m _ q)
theorem DA.ma {t : TA} {Qd Qd' : List D → Rho → Prop} (h : DA K t ρ Qd) (m : ∀ z r, Qd z r → Qd' z r) : DA K t ρ Qd' := fun σ H F Q s n k => h σ H F Q s n fun v d ρ' H' S F' q => k v d ρ' H' S F' (m _ _ q)
theorem DT.ma {t : TT} {Qd Qd' : Bool → Rho → Prop} (h : DT K t ρ Qd) (m : ∀ z r, Qd z r → Qd' z r) : DT K t ρ Qd' := fun σ H F Q s n k => h σ H F Q s n fun b ρ' H' F' q => k b ρ' H' F' (m _ _ q)
theorem DB.toE {t : TE} {Qd : D → Rho → Prop} (h : DB K t ρ fun d => d.imm = true ∧ Qd d ρ) : DE K t ρ Qd := fun σ H F Q s n k => h σ H F Q s n fun v d S q r hS => by
  obtain rfl := Rep.imm_nil _ _ _ r q.1
  exact k v d ρ H [] F q.2 r s (.refl n)
/-! ### expressions -/
section
variable {Qd : D → Rho → Prop} {Qb : D → Prop} {QB : Bool → Rho → Prop} {QA : List D → Rho → Prop} {ta tb te tc : TE} {tt tt2 : TT} {ar : TA} {r r2 : R2}
theorem b_var (e : ρ[i]? = some (some d)) (h : Qb d) : DB K (tVar i) ρ Qb := fun σ H F Q s n k => by
  obtain ⟨v, S, A, h1, h2, h3, h4⟩ := s.out e
  exact ⟨v, h1, k v d S h h2 fun a ha => h4.mem_iff.mpr (List.mem_append_left _ ha)⟩
theorem b_int {z : Int} (h : Qb (.int z)) : DB K (tC (.int z)) ρ Qb := fun σ H F Q s n k => k _ _ [] h (.int z) (by simp)
theorem b_str {z : Str} (h : Qb (.str z)) : DB K (tC (.str z)) ρ Qb := fun σ H F Q s n k => k _ _ [] h (.str z) (by simp)
theorem b_bl {z : Bool} (h : Qb (.bl z)) : DB K (tC (.bl z)) ρ Qb := fun σ H F Q s n k => k _ _ [] h (.bl z) (by simp)
theorem b_non (h : Qb .non) : DB K (tC .non) ρ Qb := fun σ H F Q s n k => k _ _ [] h .non (by simp)
theorem b_op (h : DB K ta ρ fun x => DB K tb ρ fun y => OpP K r x y Qb) : DB K (tOp r ta tb) ρ Qb := fun σ H F Q s n k => h σ H F _ s n fun v x S q rx hS =>
  q σ H F _ s n fun u y T q ry hT => q v u S T H Q rx ry fun w z q rz => k w z [] q rz (by simp)
theorem d_var (e : ρ[i]? = some (some d)) (m : d.imm = true) (h : Qd d ρ) : DE K (tVar i) ρ Qd := DB.toE (b_var e ⟨m, h⟩)
theorem d_mov (e : ρ[i]? = some (some d)) (h : Qd d (ρ.set i none)) : DE K (tVar i) ρ Qd := fun σ H F Q s n k => by
  obtain ⟨v, S, A, h1, h2, h3, h4⟩ := s.out e
  exact ⟨v, h1, k v d _ H S A h h2 h3 ((Step.refl n).perm h4)⟩
theorem d_int {z : Int} (h : Qd (.int z) ρ) : DE K (tC (.int z)) ρ Qd := DB.toE (b_int ⟨rfl, h⟩)
theorem d_str {z : Str} (h : Qd (.str z) ρ) : DE K (tC (.str z)) ρ Qd := DB.toE (b_str ⟨rfl, h⟩)
theorem d_bl {z : Bool} (h : Qd (.bl z) ρ) : DE K (tC (.bl z)) ρ Qd := DB.toE (b_bl ⟨rfl, h⟩)
theorem d_non (h : Qd .non ρ) : DE K (tC .non) ρ Qd := DB.toE (b_non ⟨rfl, h⟩)
theorem d_op (h : DE K ta ρ fun x ρ1 => DE K tb ρ1 fun y ρ2 => OpG K r x y fun z => Qd z ρ2) : DE K (tOp r ta tb) ρ Qd := fun σ H F Q s n k => h σ H F _ s n fun v x ρ1 H1 S F1 q rx s1 st =>
  q σ H1 F1 _ s1 (List.nodup_append.mp st.nd).2.1 fun u y ρ2 H2 T F2 q ry s2 st2 => by
    have rx2 := Rep.mono st2.keep s1.mut _ _ _ rx st.far
    refine q v u S T H2 Q rx2 ry fun w z H3 U q rz st3 => ?_
    have a1 := st.aside (Rep.mut _ _ _ rx) st2
    have a2 : Step F H F2 H2 := a1.subl ((List.sublist_append_right T F2).trans (List.sublist_append_right S _))
    have s3 := s2.mono st3.keep (by simp) (by simp)
    refine k w z ρ2 H3 U F2 q rz s3 ?_
    have x1 : Step F2 H2 (U ++ F2) H3 := by
      refine ⟨st3.keep.mono (by simp), List.nodup_append.mpr ⟨st3.nd, a2.nd, fun a ha b hb => ?_⟩, fun a ha => ?_⟩
      · rintro rfl
        have z1 := s2.mut a hb
        rcases st3.sub a ha with z | z
        · cases z
        · rw [z] at z1; exact z1
      · rcases List.mem_append.mp ha with z | z
        · exact (st3.sub a z).elim (by simp) .inr
        · exact .inl z
    exact a2.trans x1
theorem a_nil (h : QA [] ρ) : DA K tNil ρ QA := fun σ H F Q s n k => k [] [] ρ H [] F h .nil s (.refl n)
theorem a_cons (h : DE K ta ρ fun x ρ1 => DA K ar ρ1 fun xs ρ2 => QA (x :: xs) ρ2) : DA K (tCons ta ar) ρ QA := fun σ H F Q s n k => h σ H F _ s n fun v x ρ1 H1 S F1 q rx s1 st =>
  q σ H1 F1 _ s1 (List.nodup_append.mp st.nd).2.1 fun vs xs ρ2 H2 T F2 q rxs s2 st2 => by
    have rx2 := Rep.mono st2.keep s1.mut _ _ _ rx st.far
    have a1 := st.aside (Rep.mut _ _ _ rx) st2
    exact k (v :: vs) (x :: xs) ρ2 H2 (S ++ T) F2 q (.cons rx2 rxs) s2 (by rw [List.append_assoc]; exact a1)
/-- tests -/
theorem d_test (h : DE K ta ρ fun x ρ1 => ∃ k, x = .bl k ∧ QB k ρ1) : DT K (tTest ta) ρ QB := fun σ H F Q s n k => h σ H F _ s n fun v x ρ1 H1 S F1 q rx s1 st => by
  obtain ⟨b, rfl, q⟩ := q
  cases rx
  exact ⟨b, rfl, k b ρ1 H1 F1 q s1 st⟩
theorem d_tB (h : DE K ta ρ fun x ρ1 => ∃ k, x = .bl k ∧ QB k ρ1) : DT K (tB ta) ρ QB := d_test (ta := ta) h
theorem d_bk {b : Bool} {P : Bool → Prop} (h : P b) : ∃ k, D.bl b = .bl k ∧ P k := ⟨b, rfl, h⟩
theorem d_and (h : DT K tt ρ fun c ρ1 => if c = true then DT K tt2 ρ1 QB else QB false ρ1) : DT K (tAnd tt tt2) ρ QB := fun σ H F Q s n k => h σ H F _ s n fun b ρ1 H1 F1 q s1 st => by
  cases b with
  | true => exact q σ H1 F1 _ s1 st.nd fun b ρ2 H2 F2 q s2 st2 => k b ρ2 H2 F2 q s2 (st.trans st2)
  | false => exact k false ρ1 H1 F1 q s1 st
theorem d_or (h : DT K tt ρ fun c ρ1 => if c = true then QB true ρ1 else DT K tt2 ρ1 QB) : DT K (tOr tt tt2) ρ QB := fun σ H F Q s n k => h σ H F _ s n fun b ρ1 H1 F1 q s1 st => by
  cases b with
  | false => exact q σ H1 F1 _ s1 st.nd fun b ρ2 H2 F2 q s2 st2 => k b ρ2 H2 F2 q s2 (st.trans st2)
  | true => exact k true ρ1 H1 F1 q s1 st
theorem d_not (h : DT K tt ρ fun c ρ1 => QB (!c) ρ1) : DT K (tNot tt) ρ QB := fun σ H F Q s n k => h σ H F _ s n fun b ρ1 H1 F1 q s1 st => k (!b) ρ1 H1 F1 q s1 st
theorem d_if (h : DT K tt ρ fun c ρ1 => if c = true then DE K ta ρ1 Qd else DE K tb ρ1 Qd) : DE K (tIf tt ta tb) ρ Qd := fun σ H F Q s n k => h σ H F _ s n fun b ρ1 H1 F1 q s1 st => by
  cases b with
  | true => exact q σ H1 F1 _ s1 st.nd fun v d ρ2 H2 S F2 q r s2 st2 => k v d ρ2 H2 S F2 q r s2 (st.trans st2)
  | false => exact q σ H1 F1 _ s1 st.nd fun v d ρ2 H2 S F2 q r s2 st2 => k v d ρ2 H2 S F2 q r s2 (st.trans st2)
theorem d_andV (h : DE K ta ρ fun x ρ1 => ∃ c, x = .bl c ∧ if c = true then DE K tb ρ1 Qd else Qd (.bl false) ρ1) : DE K (tAndV ta tb) ρ Qd := fun σ H F Q s n k => h σ H F _ s n fun v x ρ1 H1 S F1 q rx s1 st => by
  obtain ⟨b, rfl, q⟩ := q
  cases rx
  refine ⟨b, rfl, ?_⟩
  cases b with
  | true => exact q σ H1 F1 _ s1 st.nd fun v d ρ2 H2 S F2 q r s2 st2 => k v d ρ2 H2 S F2 q r s2 (st.trans st2)
  | false => exact k _ _ ρ1 H1 [] F1 q (.bl false) s1 st
theorem d_orV (h : DE K ta ρ fun x ρ1 => ∃ c, x = .bl c ∧ if c = true then Qd (.bl true) ρ1 else DE K tb ρ1 Qd) : DE K (tOrV ta tb) ρ Qd := fun σ H F Q s n k => h σ H F _ s n fun v x ρ1 H1 S F1 q rx s1 st => by
  obtain ⟨b, rfl, q⟩ := q
  cases rx
  refine ⟨b, rfl, ?_⟩
  cases b with
  | false => exact q σ H1 F1 _ s1 st.nd fun v d ρ2 H2 S F2 q r s2 st2 => k v d ρ2 H2 S F2 q r s2 (st.trans st2)
  | true => exact k _ _ ρ1 H1 [] F1 q (.bl true) s1 st
theorem d_notV (h : DE K ta ρ fun x ρ1 => ∃ c, x = .bl c ∧ Qd (.bl (!c)) ρ1) : DE K (tNotV ta) ρ Qd := fun σ H F Q s n k => h σ H F _ s n fun v x ρ1 H1 S F1 q rx s1 st => by
  obtain ⟨b, rfl, q⟩ := q
  cases rx
  exact ⟨b, rfl, k _ _ ρ1 H1 [] F1 q (.bl _) s1 st⟩
end
end
/-! ### statements -/
structure DEnds where
  nx : Rho → Prop
  rt : D → Rho → Prop
  bk : Rho → Prop
  ct : Rho → Prop
abbrev DEnds.sq (De : DEnds) (f : Rho → Prop) : DEnds := ⟨f, De.rt, De.bk, De.ct⟩
abbrev DEnds.lp (De : DEnds) (f : Rho → Prop) : DEnds := ⟨f, De.rt, De.nx, f⟩
def Pin (M : List Nat) (w : Nat → V) (σ : L2.St) : Prop := ∀ i ∈ M, σ[i]? = some (some (w i))
structure Cn (K : PySem.W.Frag) (M : List Nat) (w : Nat → V) (F : List Addr) (H : Hp) (De : DEnds) (D : Ends) : Prop where
  nx : ∀ σ' ρ' H' F', De.nx ρ' → Sl K H' σ' ρ' F' → Step F H F' H' → Pin M w σ' → D.nx σ' H'
  rt : ∀ v d σ' ρ' H' S F', De.rt d ρ' → Rep K H' v d S → Sl K H' σ' ρ' F' → Step F H (S ++ F') H' → Pin M w σ' → D.rt v H'
  bk : ∀ σ' ρ' H' F', De.bk ρ' → Sl K H' σ' ρ' F' → Step F H F' H' → Pin M w σ' → D.bk σ' H'
  ct : ∀ σ' ρ' H' F', De.ct ρ' → Sl K H' σ' ρ' F' → Step F H F' H' → Pin M w σ' → D.ct σ' H'
def DS (K : PySem.W.Frag) (M : List Nat) (t : TS) (ρ : Rho) (De : DEnds) : Prop := ∀ (w : Nat → V) (σ : L2.St) (H : Hp) (F : List Addr) (D : Ends), Sl K H σ ρ F → F.Nodup → Pin M w σ → Cn K M w F H De D → t D σ H
def DG (K : PySem.W.Frag) (M : List Nat) (g : TG) (d : D) (ρ : Rho) (R : Rho → Prop) : Prop := ∀ (w : Nat → V) (σ : L2.St) (H : Hp) (F : List Addr) (v : V) (S : List Addr) (Q : L2.St → Hp → Prop), Rep K H v d S → Sl K H σ ρ F → (S ++ F).Nodup → Pin M w σ →
  (∀ σ' ρ' F', R ρ' → Sl K H σ' ρ' F' → F'.Nodup → (∀ a ∈ F', a ∈ S ++ F) → Pin M w σ' → Q σ' H) → g v σ H Q
section
variable {K : PySem.W.Frag} {H H' H1 H2 : Hp} {F F1 F2 S T A G G1 G2 : List Addr} {σ : L2.St} {ρ ρ1 ρ2 : Rho} {d e : D} {v : V} {i j n : Nat} {M : List Nat} {w : Nat → V} {De : DEnds} {D0 : Ends} {t u tb : TS} {te ta tv : TE} {tt : TT} {g : TG} {ar : TA}
theorem Cn.step (s : Step F H F1 H1) (c : Cn K M w F H De D0) : Cn K M w F1 H1 De D0 where
  nx := fun σ' ρ' H' F' q sl st p => c.nx σ' ρ' H' F' q sl (s.trans st) p
  rt := fun v d σ' ρ' H' S F' q r sl st p => c.rt v d σ' ρ' H' S F' q r sl (s.trans st) p
  bk := fun σ' ρ' H' F' q sl st p => c.bk σ' ρ' H' F' q sl (s.trans st) p
  ct := fun σ' ρ' H' F' q sl st p => c.ct σ' ρ' H' F' q sl (s.trans st) p
theorem Pin.set {x : Option V} (p : Pin M w σ) (h : n ∉ M) : Pin M w (σ.set n x) := fun i hi => by
  have z : n ≠ i := fun z => h (by rw [z]; exact hi)
  rw [List.getElem?_set_ne z]
  exact p i hi
/-- a value into a slot -/
theorem Sl.put (s : Sl K H σ ρ F) (r : Rep K H v d S) (nd : (S ++ F).Nodup) (n : Nat) : ∃ A, Sl K H (σ.set n (some v)) (ρ.set n (some d)) A ∧ A.Nodup ∧ ∀ a ∈ A, a ∈ S ++ F := by
  by_cases h : n < ρ.length
  · obtain ⟨A, s1, h1⟩ := s.drop n v
    obtain ⟨B, s2, p⟩ := s1.inn (i := n) (d := d) (v := v) (S := S) (by rw [List.getElem?_set_self h]) (by rw [List.getElem?_set_self (by rw [s.length]; exact h)]) r
    rw [List.set_set] at s2
    refine ⟨B, s2, p.nodup_iff.mpr ((h1.append_left S).nodup nd), fun a ha => ?_⟩
    exact (h1.append_left S).subset (p.mem_iff.mp ha)
  · have l1 : σ.set n (some v) = σ := List.set_eq_of_length_le (by have := s.length; omega)
    have l2 : ρ.set n (some d) = ρ := List.set_eq_of_length_le (by omega)
    rw [l1, l2]
    exact ⟨F, s, (List.nodup_append.mp nd).2.1, fun a ha => List.mem_append_right _ ha⟩
theorem Step.within (s : Step F H G H1) (n : A.Nodup) (h : ∀ a ∈ A, a ∈ G) : Step F H A H1 := ⟨s.keep, n, fun a ha => s.sub a (h a ha)⟩
theorem s_seq (h : DS K M t ρ (De.sq fun ρ1 => DS K M u ρ1 De)) : DS K M (tSeq t u) ρ De := fun w σ H F D s n p c => h w σ H F _ s n p
  { nx := fun σ' ρ' H' F' q sl st p' => q w σ' H' F' D sl st.nd p' (c.step st), rt := c.rt, bk := c.bk, ct := c.ct }
theorem g_name {R : Rho → Prop} (hn : n ∉ M) (h : R (ρ.set n (some d))) : DG K M (gName n) d ρ R := fun w σ H F v S Q r s nd p k => by
  obtain ⟨A, s1, n1, h1⟩ := s.put r nd n
  exact k _ _ A h s1 n1 h1 (p.set hn)
theorem s_asgG (h : DE K te ρ fun x ρ1 => DG K M g x ρ1 De.nx) : DS K M (tAsg te g) ρ De := fun w σ H F D s n p c => h σ H F _ s n fun v x ρ1 H1 S F1 q rx s1 st =>
  q w σ H1 F1 v S _ rx s1 st.nd p fun σ' ρ' F' q s2 n2 h2 p2 => c.nx σ' ρ' H1 F' q s2 (st.within n2 h2) p2
theorem s_asg (hn : n ∉ M) (h : DE K te ρ fun x ρ1 => De.nx (ρ1.set n (some x))) : DS K M (tAsg te (gName n)) ρ De := s_asgG (h.ma fun _ _ q => g_name hn q)
theorem s_ret (h : DE K te ρ De.rt) : DS K M (tRet te) ρ De := fun w σ H F D s n p c => h σ H F _ s n fun v x ρ1 H1 S F1 q rx s1 st => c.rt v x σ ρ1 H1 S F1 q rx s1 st p
theorem s_retN (h : De.rt .non ρ) : DS K M tRetN ρ De := fun w σ H F D s n p c => c.rt .non .non σ ρ H [] F h .non s (.refl n) p
theorem s_drop (h : DE K te ρ fun _ ρ1 => De.nx ρ1) : DS K M (tDrop te) ρ De := fun w σ H F D s n p c => h σ H F _ s n fun v x ρ1 H1 S F1 q rx s1 st => c.nx σ ρ1 H1 F1 q s1 (st.subl (List.sublist_append_right ..)) p
theorem s_if (h : DT K tt ρ fun b ρ1 => if b = true then DS K M t ρ1 De else DS K M u ρ1 De) : DS K M (tIfS tt t u) ρ De := fun w σ H F D s n p c => h σ H F _ s n fun b ρ1 H1 F1 q s1 st => by
  cases b with
  | true => exact q w σ H1 F1 D s1 st.nd p (c.step st)
  | false => exact q w σ H1 F1 D s1 st.nd p (c.step st)
theorem s_next (h : De.nx ρ) : DS K M tNext ρ De := fun w σ H F D s n p c => c.nx σ ρ H F h s (.refl n) p
theorem s_cont (h : De.ct ρ) : DS K M tCont ρ De := fun w σ H F D s n p c => c.ct σ ρ H F h s (.refl n) p
theorem s_break (h : De.bk ρ) : DS K M tBreak ρ De := fun w σ H F D s n p c => c.bk σ ρ H F h s (.refl n) p
/-! loops -/
/-- a walk over N items, by an invariant -/
def Lp (K : PySem.W.Frag) (M : List Nat) (N : Nat) (it : Nat → D) (g : TG) (tb : TS) (ρ : Rho) (De : DEnds) : Prop := ∃ Pv : Nat → Rho → Prop, Pv 0 ρ ∧
  (∀ i ρ, i < N → Pv i ρ → DG K M g (it i) ρ fun ρ2 => DS K M tb ρ2 (De.lp (Pv (i + 1)))) ∧ (∀ ρ, Pv N ρ → De.nx ρ)
/-- what stands at a turn -/
def Tn (K : PySem.W.Frag) (M : List Nat) (w : Nat → V) (F0 : List Addr) (H0 : Hp) (Pv : Nat → Rho → Prop) (i : Nat) (σ : L2.St) (H : Hp) : Prop := ∃ ρ F, Pv i ρ ∧ Sl K H σ ρ F ∧ Step F0 H0 F H ∧ Pin M w σ
theorem turn_of {Pv : Nat → Rho → Prop} {N : Nat} {it : Nat → D} (hs : ∀ i ρ, i < N → Pv i ρ → DG K M g (it i) ρ fun ρ2 => DS K M tb ρ2 (De.lp (Pv (i + 1))))
    (c : Cn K M w F H De D0) {k : Nat} {σ1 : L2.St} {x : V} (hk : k < N) (hT : Tn K M w F H Pv k σ1 H1) (rx : Rep K H1 x (it k) []) :
    g x σ1 H1 fun σ2 H2 => tb { D0 with nx := Tn K M w F H Pv (k + 1), ct := Tn K M w F H Pv (k + 1), bk := D0.nx } σ2 H2 := by
  obtain ⟨ρ1, F1, hp, s1, st1, p1⟩ := hT
  refine hs k ρ1 hk hp w σ1 H1 F1 x [] _ rx s1 st1.nd p1 fun σ2 ρ2 F2 q s2 n2 h2 p2 => ?_
  have st2 : Step F H F2 H1 := st1.within n2 h2
  refine q w σ2 H1 F2 _ s2 n2 p2 ?_
  exact { nx := fun σ' ρ' H' F' q sl st p => ⟨ρ', F', q, sl, st2.trans st, p⟩
          rt := fun v d σ' ρ' H' S F' q r sl st p => c.rt v d σ' ρ' H' S F' q r sl (st2.trans st) p
          bk := fun σ' ρ' H' F' q sl st p => c.nx σ' ρ' H' F' q sl (st2.trans st) p
          ct := fun σ' ρ' H' F' q sl st p => ⟨ρ', F', q, sl, st2.trans st, p⟩ }
theorem RepA.item : ∀ {ds : List D} {vs : List V} {S : List Addr} {j : Nat} {x : V}, RepA K H vs ds S → immA ds = true → vs[j]? = some x → ∃ d, ds[j]? = some d ∧ Rep K H x d [] ∧ d.imm = true
  | [], _, _, _, _, h, _, e => by cases h; simp at e
  | d :: ds, _, _, j, x, h, m, e => by
    cases h with
    | cons h1 h2 =>
      simp only [immA, Bool.and_eq_true] at m
      cases j with
      | zero =>
        obtain rfl : _ = x := by simpa using e
        obtain rfl := Rep.imm_nil _ _ _ h1 m.1
        exact ⟨d, rfl, h1, m.1⟩
      | succ j => exact RepA.item (j := j) h2 m.2 (by simpa using e)
end
/-! ### what is walked -/
/-- the walk J over (F1, H1): N items -/
def Wkr (K : PySem.W.Frag) (J : It) (N : Nat) (it : Nat → D) (F1 : List Addr) (H1 : Hp) : Prop := ∀ i H2 F2, Step F1 H1 F2 H2 → (∀ a ∈ F2, Mu (H2 a)) →
  (i < N → J.go i H2 ∧ ∀ x H', J.yld i H2 x H' → Keep [] H2 H' ∧ Rep K H' x (it i) []) ∧ (N ≤ i → J.stop i H2)
def DI (K : PySem.W.Frag) (wi : TI) (ρ : Rho) (Qi : Nat → (Nat → D) → Rho → Prop) : Prop := ∀ (σ : L2.St) (H : Hp) (F : List Addr) (R : It → Hp → Prop), Sl K H σ ρ F → F.Nodup →
  (∀ J N it ρ' H' F', Qi N it ρ' → Wkr K J N it F' H' → Sl K H' σ ρ' F' → Step F H F' H' → R J H') → wi σ H R
/-- a list, a locked list, a tuple, a row of ints: its items -/
inductive SqD : D → List D → Prop
  | lst (ds : List D) : SqD (.lst ds) ds
  | rol (ds : List D) : SqD (.rol ds) ds
  | tup (ds : List D) : SqD (.tup ds) ds
  | key (ns : List Int) : SqD (.key ns) (ns.map .int)
/-- a list -/
inductive LsD : D → List D → Prop
  | lst (ds : List D) : LsD (.lst ds) ds
  | rol (ds : List D) : LsD (.rol ds) ds
/-- a tuple -/
inductive TpD : D → List D → Prop
  | tup (ds : List D) : TpD (.tup ds) ds
  | key (ns : List Int) : TpD (.key ns) (ns.map .int)
theorem SqD.or {d : D} {ds : List D} (h : SqD d ds) : LsD d ds ∨ TpD d ds := by
  cases h
  · exact .inl (.lst _)
  · exact .inl (.rol _)
  · exact .inr (.tup _)
  · exact .inr (.key _)
def atD (ds : List D) (i : Nat) : D := ds.getD i .non
section
variable {K : PySem.W.Frag} {H H' H1 H2 : Hp} {F F1 F2 S T A G G1 G2 : List Addr} {σ : L2.St} {ρ ρ1 ρ2 : Rho} {d e : D} {v : V} {i j n : Nat} {M : List Nat} {w : Nat → V} {De : DEnds} {t u tb : TS} {te ta tv : TE} {tt : TT} {g : TG} {ar : TA} {wi : TI} {Qi : Nat → (Nat → D) → Rho → Prop} {vs : List Nat} {Qd : D → Rho → Prop}
theorem di_rng1 (h : DA K ar ρ fun ds ρ1 => ∃ z : Int, ds = [.int z] ∧ (-(2 ^ 62) ≤ z ∧ z < 2 ^ 62) ∧ Qi z.toNat (fun i => .int (i : Int)) ρ1) : DI K (iRng1 ar) ρ Qi := fun σ H F R s n k => by
  refine i_rng1 (h σ H F _ s n fun vs ds ρ1 H1 S F1 q rx s1 st => ?_)
  obtain ⟨z, rfl, hz, q⟩ := q
  cases rx with
  | cons r1 r2 =>
    cases r1
    cases r2
    refine i_rngK1 hz (k _ _ _ ρ1 H1 F1 q (fun i H2 F2 st _ => ⟨fun hi => ⟨hi, fun x H' y => ?_⟩, fun hi => hi⟩) s1 st)
    obtain ⟨rfl, rfl⟩ := y
    refine ⟨.refl _, ?_⟩
    have e : (0 : Int) + (i : Int) = i := by omega
    rw [e]
    exact .int _
theorem di_rng2 (h : DA K ar ρ fun ds ρ1 => ∃ y z : Int, ds = [.int y, .int z] ∧ (-(2 ^ 62) ≤ y ∧ y < 2 ^ 62 ∧ -(2 ^ 62) ≤ z ∧ z < 2 ^ 62) ∧ Qi (z - y).toNat (fun i => .int (y + i)) ρ1) : DI K (iRng2 ar) ρ Qi := fun σ H F R s n k => by
  refine i_rng2 (h σ H F _ s n fun vs ds ρ1 H1 S F1 q rx s1 st => ?_)
  obtain ⟨y, z, rfl, hz, q⟩ := q
  cases rx with
  | cons r1 r2 =>
    cases r1
    cases r2 with
    | cons r3 r4 =>
      cases r3
      cases r4
      refine i_rngK2 hz (k _ _ _ ρ1 H1 F1 q (fun i H2 F2 st _ => ⟨fun hi => ⟨hi, fun x H' y => ?_⟩, fun hi => hi⟩) s1 st)
      obtain ⟨rfl, rfl⟩ := y
      exact ⟨.refl _, .int _⟩
theorem sqT_step {a : Addr} {xs : List V} (h : SqT K H a xs) (k : Keep F H H') (m : ∀ a ∈ F, Mu (H a)) : SqT K H' a xs := by
  rcases h with z | z
  · exact .inl (k.rd (fun y => rd_far z (fun q => q) (m a y)) z)
  · exact .inr z
/-- a tuple, a list or a locked list by its items -/
theorem rep_tup {ds : List D} (rx : Rep K H v d S) (hd : TpD d ds) (im : immA ds = true) : S = [] ∧ ∃ a xs, v = .ref a ∧ xs.length = ds.length ∧ ∀ F1 F2 H2, (∀ b ∈ F1, Mu (H b)) → Step F1 H F2 H2 → RepA K H2 xs ds [] ∧ SqT K H2 a xs := by
  cases hd with
  | tup =>
    cases rx with
    | @tup a xs _ _ hq ha =>
      obtain rfl := RepA.imm_nil _ _ _ ha im
      exact ⟨rfl, a, xs, rfl, ha.length, fun F1 F2 H2 m st => ⟨RepA.mono st.keep m _ _ _ ha (by simp), sqT_step hq st.keep m⟩⟩
  | key ns =>
    cases rx with
    | @key a _ hq => exact ⟨rfl, a, _, rfl, by simp, fun F1 F2 H2 m st => ⟨mk_ints ns, sqT_step (SqT.of hq) st.keep m⟩⟩
theorem rep_lst {ds : List D} (rx : Rep K H v d S) (hx0 : LsD d ds) (im : immA ds = true) : ∃ a xs, v = .ref a ∧ xs.length = ds.length ∧ ∀ F1 F2 H2, (∀ b ∈ F1, Mu (H b)) → (∀ b ∈ S, b ∉ F1) → Step F1 H F2 H2 → RepA K H2 xs ds [] ∧ SqL K H2 a xs := by
  cases hx0 with
  | lst =>
    cases rx with
    | @lst a xs _ S hq ha =>
      obtain rfl := RepA.imm_nil _ _ _ ha im
      exact ⟨a, xs, rfl, ha.length, fun F1 F2 H2 m far st => ⟨RepA.mono st.keep m _ _ _ ha (by simp), SqL.of (st.keep a _ (far a (by simp)) hq)⟩⟩
  | rol =>
    cases rx with
    | @rol a xs _ hq ha =>
      refine ⟨a, xs, rfl, ha.length, fun F1 F2 H2 m far st => ⟨RepA.mono st.keep m _ _ _ ha (by simp), ?_⟩⟩
      rcases hq with ⟨o, z⟩ | z
      · exact .inl (st.keep.rd (fun y => by have := m a y; rw [z] at this; exact this) (.inr ⟨o, z⟩))
      · exact z H2
def chr1 (x : Str) (i : Nat) : D := .str ⟨#[x.cps.getD i 0]⟩
theorem di_str (h : DE K te ρ fun y ρ1 => ∃ x : Str, y = .str x ∧ Qi x.cps.size (chr1 x) ρ1) : DI K (iStr te) ρ Qi := fun σ H F R s n k => by
  refine h σ H F _ s n fun v y ρ1 H1 S F1 q rx s1 st => ?_
  obtain ⟨x, rfl, q⟩ := q
  cases rx
  refine ⟨x, rfl, k _ _ _ ρ1 H1 F1 q (fun i H2 F2 st2 _ => ⟨fun hi => ⟨hi, fun z H' y => ?_⟩, fun hi => hi⟩) s1 st⟩
  obtain ⟨rfl, c, hc, rfl⟩ := y
  refine ⟨.refl _, ?_⟩
  have e : chr1 x i = .str ⟨#[c]⟩ := by unfold chr1; simp [Array.getD_eq_getD_getElem?, hc]
  rw [e]
  exact .str _
def enD (it : Nat → D) (i : Nat) : D := .tup [.int (i : Nat), it i]
/-- a value that may be walked -/
def ItD (x : D) (Q : Nat → (Nat → D) → Prop) : Prop := (∃ ds, SqD x ds ∧ immA ds = true ∧ Q ds.length (atD ds)) ∨ ∃ z, x = .str z ∧ Q z.cps.size (chr1 z)
theorem it_lst {ds : List D} {Q : Nat → (Nat → D) → Prop} (m : immA ds = true) (h : Q ds.length (atD ds)) : ItD (.lst ds) Q := .inl ⟨ds, .lst _, m, h⟩
theorem it_rol {ds : List D} {Q : Nat → (Nat → D) → Prop} (m : immA ds = true) (h : Q ds.length (atD ds)) : ItD (.rol ds) Q := .inl ⟨ds, .rol _, m, h⟩
theorem it_tup {ds : List D} {Q : Nat → (Nat → D) → Prop} (m : immA ds = true) (h : Q ds.length (atD ds)) : ItD (.tup ds) Q := .inl ⟨ds, .tup _, m, h⟩
theorem it_key {ns : List Int} {Q : Nat → (Nat → D) → Prop} (h : Q (ns.map D.int).length (atD (ns.map .int))) : ItD (.key ns) Q := .inl ⟨_, .key _, imm_ints ns, h⟩
theorem it_str {z : Str} {Q : Nat → (Nat → D) → Prop} (h : Q z.cps.size (chr1 z)) : ItD (.str z) Q := .inr ⟨z, rfl, h⟩
theorem item_at {xs : List V} {ds : List D} {i : Nat} {x : V} (ra : RepA K H xs ds []) (im : immA ds = true) (hx : xs[i]? = some x) : Rep K H x (atD ds i) [] := by
  obtain ⟨d, e1, r1, m1⟩ := ra.item im hx
  have e2 : atD ds i = d := by unfold atD; rw [List.getD_eq_getElem?_getD, e1]; rfl
  rw [e2]
  exact r1
theorem di_U (h : DE K te ρ fun x ρ1 => ItD x fun N it => Qi N it ρ1) : DI K (iU K te) ρ Qi := fun σ H F R s n k => by
  refine h σ H F _ s n fun v x ρ1 H1 S F1 q rx s1 st => ?_
  have st1 : Step F H F1 H1 := st.subl (List.sublist_append_right ..)
  rcases q with ⟨ds, hx, im, q⟩ | ⟨z, rfl, q⟩
  · rcases hx.or with hx | ht
    rotate_left
    · obtain ⟨rfl, a, xs, rfl, el, hst⟩ := rep_tup rx ht im
      refine .inr (.inl ⟨a, rfl, ⟨xs, (hst F1 F1 H1 s1.mut (.refl st1.nd)).2⟩, k _ _ _ ρ1 H1 F1 q (fun i H2 F2 st2 _ => ?_) s1 st1⟩)
      obtain ⟨ra, sq⟩ := hst F1 F2 H2 s1.mut st2
      refine ⟨fun hi => ⟨⟨xs, xs[i]'(by omega), sq, by simp⟩, fun x H' y => ?_⟩, fun hi => ⟨xs, sq, by omega⟩⟩
      obtain ⟨rfl, y⟩ := y
      exact ⟨.refl _, item_at ra im (y xs sq)⟩
    · obtain ⟨a, xs, rfl, el, hst⟩ := rep_lst rx hx im
      refine .inl ⟨a, rfl, ⟨xs, (hst F1 F1 H1 s1.mut st.far (.refl st1.nd)).2⟩, k _ _ _ ρ1 H1 F1 q (fun i H2 F2 st2 _ => ?_) s1 st1⟩
      obtain ⟨ra, sq⟩ := hst F1 F2 H2 s1.mut st.far st2
      refine ⟨fun hi => ⟨⟨xs, xs[i]'(by omega), sq, by simp⟩, fun x H' y => ?_⟩, fun hi => ⟨xs, sq, by omega⟩⟩
      obtain ⟨rfl, y⟩ := y
      exact ⟨.refl _, item_at ra im (y xs sq)⟩
  · cases rx
    refine .inr (.inr ⟨z, rfl, k _ _ _ ρ1 H1 F1 q (fun i H2 F2 st2 _ => ⟨fun hi => ⟨hi, fun x H' y => ?_⟩, fun hi => hi⟩) s1 st1⟩)
    obtain ⟨rfl, c, hc, rfl⟩ := y
    refine ⟨.refl _, ?_⟩
    have e : chr1 z i = .str ⟨#[c]⟩ := by unfold chr1; simp [Array.getD_eq_getD_getElem?, hc]
    rw [e]
    exact .str _
theorem di_enU (h : DE K te ρ fun x ρ1 => ∃ ds : List D, SqD x ds ∧ immA ds = true ∧ Qi ds.length (enD (atD ds)) ρ1) : DI K (iEnU K (tCons te tNil)) ρ Qi := fun σ H F R s n k => by
  have fin : ∀ {xs : List V} {ds : List D} {i : Nat} {x : V} {T : Addr} {H2 : Hp}, RepA K H2 xs ds [] → immA ds = true → xs[i]? = some x → H2 T = none → Keep [] H2 (upd H2 T (.tup [.int (i : Nat), x])) ∧ Rep K (upd H2 T (.tup [.int (i : Nat), x])) (.ref T) (enD (atD ds) i) [] := fun {xs ds i x T H2} ra im hx hT => by
    refine ⟨.new hT, .tup (SqT.of upd_same) ?_⟩
    exact .cons (.int _) (.cons (Rep.mono (.new hT : Keep [] H2 _) (by simp) _ _ _ (item_at ra im hx) (by simp)) .nil)
  refine h σ H F _ s n fun v x ρ1 H1 S F1 q rx s1 st => ?_
  have st1 : Step F H F1 H1 := st.subl (List.sublist_append_right ..)
  obtain ⟨ds, hx, im, q⟩ := q
  rcases hx.or with hx | ht
  rotate_left
  · obtain ⟨rfl, a, xs, rfl, el, hst⟩ := rep_tup rx ht im
    refine .inr ⟨a, xs, rfl, (hst F1 F1 H1 s1.mut (.refl st1.nd)).2, k _ _ _ ρ1 H1 F1 q (fun i H2 F2 st2 _ => ?_) s1 st1⟩
    obtain ⟨ra, sq⟩ := hst F1 F2 H2 s1.mut st2
    refine ⟨fun hi => ⟨⟨xs, xs[i]'(by omega), sq, by simp⟩, fun x H' y => ?_⟩, fun hi => ⟨xs, sq, by omega⟩⟩
    obtain ⟨T, z, rfl, hT, rfl, y⟩ := y
    exact fin ra im (y xs sq) hT
  · obtain ⟨a, xs, rfl, el, hst⟩ := rep_lst rx hx im
    refine .inl ⟨a, xs, rfl, (hst F1 F1 H1 s1.mut st.far (.refl st1.nd)).2, k _ _ _ ρ1 H1 F1 q (fun i H2 F2 st2 _ => ?_) s1 st1⟩
    obtain ⟨ra, sq⟩ := hst F1 F2 H2 s1.mut st.far st2
    refine ⟨fun hi => ⟨⟨xs, xs[i]'(by omega), sq, by simp⟩, fun x H' y => ?_⟩, fun hi => ⟨xs, sq, by omega⟩⟩
    obtain ⟨T, z, rfl, hT, rfl, y⟩ := y
    exact fin ra im (y xs sq) hT
/-- a for over it -/
theorem s_for (h : DI K wi ρ fun N it ρ1 => Lp K M N it g tb ρ1 De) : DS K M (tFor wi g tb) ρ De := fun w σ H F D s n p c => by
  refine h σ H F _ s n fun J N it ρ1 H1 F1 q wk s1 st => ?_
  obtain ⟨Pv, h0, hs, hd⟩ := q
  have c1 := c.step st
  refine ⟨fun i m σ1 H2 => m = N - i ∧ i ≤ N ∧ Tn K M w F1 H1 Pv i σ1 H2, ⟨_, rfl, Nat.zero_le _, ⟨ρ1, F1, h0, s1, .refl st.nd, p⟩⟩, ?_⟩
  rintro i m σ1 H2 ⟨rfl, hi, hT⟩
  obtain ⟨ρ2, F2, hp, s2, st2, p2⟩ := id hT
  obtain ⟨w1, w2⟩ := wk i H2 F2 st2 s2.mut
  by_cases hlt : i < N
  · obtain ⟨go, yl⟩ := w1 hlt
    refine .inr ⟨go, Tn K M w F1 H1 Pv (i + 1), fun σ' H' q => ⟨_, by omega, rfl, hlt, q⟩, fun x H' y => ?_⟩
    obtain ⟨kk, rx⟩ := yl x H' y
    have hT' : Tn K M w F1 H1 Pv i σ1 H' := ⟨ρ2, F2, hp, s2.mono kk (by simp) (by simp), ⟨fun a o na e => kk a o (by simp) (st2.keep a o na e), st2.nd, st2.sub⟩, p2⟩
    exact turn_of hs c1 hlt hT' rx
  · obtain rfl : i = N := by omega
    exact .inl ⟨w2 (Nat.le_refl _), c1.nx σ1 ρ2 H2 F2 (hd ρ2 hp) s2 st2 p2⟩
/-- a comprehension -/
def wipeR (ρ : Rho) : List Nat → Rho
  | [] => ρ
  | v :: vs => (wipeR ρ vs).set v none
theorem Sl.unset (h : Sl K H σ ρ F) : ∀ (i : Nat), ∃ A, Sl K H (σ.set i none) (ρ.set i none) A ∧ A.Sublist F := by
  induction h with
  | nil => intro i; exact ⟨[], .nil, .refl _⟩
  | @no s σ ρ F h ih =>
    intro i
    cases i with
    | zero => exact ⟨F, .no h, .refl _⟩
    | succ i =>
      obtain ⟨A, h1, h2⟩ := ih i
      exact ⟨A, .no h1, h2⟩
  | @so v0 σ d0 ρ S0 F r0 h ih =>
    intro i
    cases i with
    | zero => exact ⟨F, .no h, List.sublist_append_right ..⟩
    | succ i =>
      obtain ⟨A, h1, h2⟩ := ih i
      exact ⟨S0 ++ A, .so r0 h1, h2.append_left S0⟩
theorem Sl.wipe (h : Sl K H σ ρ F) : ∀ vs : List Nat, ∃ A, Sl K H (wipe σ vs) (wipeR ρ vs) A ∧ A.Sublist F
  | [] => ⟨F, h, .refl _⟩
  | i :: vs => by
    obtain ⟨A, h1, h2⟩ := Sl.wipe h vs
    obtain ⟨B, h3, h4⟩ := h1.unset i
    exact ⟨B, h3, h4.trans h2⟩
/-- back from the wiped slots -/
theorem Sl.reset {x : Option V} : ∀ {σ : L2.St} {ρ : Rho} {F : List Addr} {i : Nat}, Sl K H (σ.set i x) ρ F → ∃ A, Sl K H σ (ρ.set i none) A ∧ A.Sublist F := by
  intro σ
  induction σ with
  | nil => intro ρ F i h; cases h; exact ⟨[], .nil, .refl _⟩
  | cons s σ ih =>
    intro ρ F i h
    cases i with
    | zero =>
      cases h with
      | no h => exact ⟨_, .no h, .refl _⟩
      | so r h => exact ⟨_, .no h, List.sublist_append_right ..⟩
    | succ i =>
      cases h with
      | no h =>
        obtain ⟨A, h1, h2⟩ := ih h
        exact ⟨A, .no h1, h2⟩
      | so r h =>
        obtain ⟨A, h1, h2⟩ := ih h
        exact ⟨_, .so r h1, h2.append_left _⟩
def wipeB (ρ : Rho) : List Nat → Rho
  | [] => ρ
  | v :: vs => wipeB (ρ.set v none) vs
theorem Sl.unwipe : ∀ {vs : List Nat} {ρ : Rho} {F : List Addr}, Sl K H (L2.wipe σ vs) ρ F → ∃ A, Sl K H σ (wipeB ρ vs) A ∧ A.Sublist F
  | [], _, F, h => ⟨F, h, .refl _⟩
  | i :: vs, ρ, F, h => by
    obtain ⟨A, h1, h2⟩ := Sl.reset (σ := L2.wipe σ vs) h
    obtain ⟨B, h3, h4⟩ := Sl.unwipe h1
    exact ⟨B, h3, h4.trans h2⟩
def CW (g : TG) (vs : List Nat) : Prop := ∀ (σ : L2.St) (H : Hp) (v : V) (Q : L2.St → Hp → Prop), (g v (wipe σ vs) H fun σ2 H2 => wipe σ2 vs = wipe σ vs → Q σ2 H2) → g v (wipe σ vs) H fun σ2 H2 => wipe σ2 vs = wipe σ vs ∧ Q σ2 H2
theorem cw_name : CW (gName n) [n] := fun σ H v Q h => by
  have e : wipe ((wipe σ [n]).set n (some v)) [n] = wipe σ [n] := by
    show (((σ.set n none).set n (some v)).set n none) = σ.set n none
    rw [List.set_set, List.set_set]
  exact ⟨e, h e⟩
def Lc (K : PySem.W.Frag) (N : Nat) (it : Nat → D) (g : TG) (tt : TT) (te : TE) (vs : List Nat) (ρ : Rho) (Qd : D → Rho → Prop) : Prop := ∃ Pv : Nat → List D → Rho → Prop, Pv 0 [] (wipeR ρ vs) ∧
  (∀ i acc ρ1, i < N → Pv i acc ρ1 → DG K [] g (it i) ρ1 fun ρ2 => DT K tt ρ2 fun b ρ3 => if b = true then DE K te ρ3 fun x ρ4 => acc.length < sizeLine ∧ Pv (i + 1) (acc ++ [x]) (wipeR ρ4 vs) else Pv (i + 1) acc (wipeR ρ3 vs)) ∧
  (∀ acc ρ1, Pv N acc ρ1 → Qd (.lst acc) (wipeB ρ1 vs))
theorem e_lc (hw : CW g vs) (h : DI K wi ρ fun N it ρ1 => Lc K N it g tt te vs ρ1 Qd) : DE K (tLc wi g tt te vs) ρ Qd := fun σ H F Q s n k => by
  refine h σ H F _ s n fun J N it ρ1 H1 F1 q wk s1 st => ?_
  obtain ⟨Pv, h0, hs, hd⟩ := q
  intro Dd hD
  have mD : ∀ a ∈ F1, Mu (H1 a) := s1.mut
  -- at turn i: the list at Dd, the rest aside
  refine ⟨fun i m H2 => m = N - i ∧ i ≤ N ∧ ∃ acc xs Sa ρ2 F2, Pv i acc ρ2 ∧ H2 Dd = some (.lst xs) ∧ RepA K H2 xs acc Sa ∧ Sl K H2 (wipe σ vs) ρ2 F2 ∧ Step F1 H1 ((Dd :: Sa) ++ F2) H2, ?_, ?_⟩
  · obtain ⟨A, s2, h2⟩ := s1.wipe vs
    have k0 : Keep [] H1 (upd H1 Dd (.lst [])) := .new hD
    refine ⟨_, rfl, Nat.zero_le _, [], [], [], _, A, h0, upd_same, .nil, s2.mono k0 (by simp) (by simp), ?_⟩
    have := Step.new (o := .lst []) st.nd mD hD
    exact this.subl (h2.cons_cons Dd)
  · rintro i m H2 ⟨rfl, hi, acc, xs, Sa, ρ2, F2, hp, hx, ra, s2, st2⟩
    have stw : Step F1 H1 F2 H2 := st2.subl (List.sublist_append_right ..)
    have rD : Rep K H2 (.ref Dd) (.lst acc) (Dd :: Sa) := .lst hx ra
    by_cases hlt : i < N
    · obtain ⟨go, yl⟩ := (wk i H2 F2 stw s2.mut).1 hlt
      refine .inr ⟨go, fun H' => ∃ m', m' = N - (i + 1) ∧ i + 1 ≤ N ∧ ∃ acc xs Sa ρ2 F2, Pv (i + 1) acc ρ2 ∧ H' Dd = some (.lst xs) ∧ RepA K H' xs acc Sa ∧ Sl K H' (wipe σ vs) ρ2 F2 ∧ Step F1 H1 ((Dd :: Sa) ++ F2) H', fun H' ⟨m', e1, e2⟩ => ⟨m', by omega, e1, e2⟩, fun x H' y => ?_⟩
      obtain ⟨kk, rx⟩ := yl x H' y
      have s3 := s2.mono kk (by simp) (by simp)
      have rD3 := Rep.mono kk (by simp) _ _ _ rD (by simp)
      have st3 : Step F1 H1 ((Dd :: Sa) ++ F2) H' := ⟨fun a o na e => kk a o (by simp) (st2.keep a o na e), st2.nd, st2.sub⟩
      refine hw _ _ _ _ (hs i acc ρ2 hlt hp (fun _ => .non) _ H' F2 x [] _ rx s3 stw.nd (fun _ h => by cases h) fun σ4 ρ4 F4 q4 s4 n4 h4 p4 hwp => ?_)
      have h4 : ∀ a ∈ F4, a ∈ F2 := by simpa using h4
      have st4 : Step F1 H1 ((Dd :: Sa) ++ F4) H' := st3.within (by
        obtain ⟨z1, z2, z3⟩ := List.nodup_append.mp st3.nd
        exact List.nodup_append.mpr ⟨z1, n4, fun a ha b hb => z3 a ha b (h4 b hb)⟩) fun a ha => by
          rcases List.mem_append.mp ha with z | z
          · exact List.mem_append_left _ z
          · exact List.mem_append_right _ (h4 a z)
      refine q4 σ4 H' F4 _ s4 n4 fun b ρ5 H5 F5 q5 s5 st5 => ?_
      have rD5 := Rep.mono st5.keep s4.mut _ _ _ rD3 st4.far
      have st5' := st4.aside (Rep.mut _ _ _ rD3) st5
      have again : ∀ {acc xs Sa ρ6 F6 H6}, Pv (i + 1) acc (wipeR ρ6 vs) → H6 Dd = some (.lst xs) → RepA K H6 xs acc Sa → Sl K H6 σ4 ρ6 F6 → Step F1 H1 ((Dd :: Sa) ++ F6) H6 → ∃ m', m' = N - (i + 1) ∧ i + 1 ≤ N ∧ ∃ acc xs Sa ρ2 F2, Pv (i + 1) acc ρ2 ∧ H6 Dd = some (.lst xs) ∧ RepA K H6 xs acc Sa ∧ Sl K H6 (wipe σ vs) ρ2 F2 ∧ Step F1 H1 ((Dd :: Sa) ++ F2) H6 := fun {acc xs Sa ρ6 F6 H6} hp hx ra s6 st6 => by
        obtain ⟨A, s7, h7⟩ := s6.wipe vs
        rw [hwp] at s7
        exact ⟨_, rfl, hlt, acc, xs, Sa, _, A, hp, hx, ra, s7, st6.subl (h7.append_left _)⟩
      cases b with
      | false =>
        cases rD5 with
        | lst hx5 ra5 => exact again q5 hx5 ra5 s5 st5'
      | true =>
        refine q5 σ4 H5 F5 _ s5 st5.nd fun v ρd ρ6 H6 S6 F6 q6 r6 s6 st6 => ?_
        have rD6 := Rep.mono st6.keep s5.mut _ _ _ rD5 st5'.far
        have st6' := st5'.aside (Rep.mut _ _ _ rD5) st6
        cases rD6 with
        | @lst _ xs6 _ _ hx6 ra6 =>
          obtain ⟨ql, q6⟩ := q6
          refine ⟨xs6, hx6, by rw [ra6.length]; exact ql, ?_⟩
          -- the item behind
          have nd6 := st6'.nd
          have farD : ∀ a ∈ Sa ++ (S6 ++ F6), a ∉ [Dd] := fun a ha hb => by
            obtain rfl : a = Dd := by simpa using hb
            exact (List.nodup_cons.mp (show (a :: (Sa ++ (S6 ++ F6))).Nodup by simpa using nd6)).1 ha
          have k7 : Keep [Dd] H6 (upd H6 Dd (.lst (xs6 ++ [v]))) := (Keep.refl _).put (.inl (by simp))
          have m7 : ∀ a ∈ [Dd], Mu (H6 a) := fun a ha => by
            obtain rfl : a = Dd := by simpa using ha
            rw [hx6]
            trivial
          have ra7 := RepA.mono k7 m7 _ _ _ ra6 fun a ha => farD a (List.mem_append_left _ ha)
          have r7 := Rep.mono k7 m7 _ _ _ r6 fun a ha => farD a (List.mem_append_right _ (List.mem_append_left _ ha))
          have s7 := s6.mono k7 m7 fun a ha => farD a (List.mem_append_right _ (List.mem_append_right _ ha))
          have ra8 := ra7.append (.cons r7 .nil)
          rw [List.append_nil] at ra8
          refine again q6 upd_same ra8 s7 ⟨fun a o na e => ?_, ?_, fun a ha => st6'.sub a ?_⟩
          · refine k7 a o ?_ (st6'.keep a o na e)
            intro z
            obtain rfl : a = Dd := by simpa using z
            rcases st6'.sub a (by simp) with y | y
            · exact na y
            · rw [e] at y; cases y
          · simpa using nd6
          · simpa using ha
    · obtain rfl : i = N := by omega
      refine .inl ⟨(wk i H2 F2 stw s2.mut).2 (Nat.le_refl _), ?_⟩
      obtain ⟨A, s3, h3⟩ := s2.unwipe
      exact k (.ref Dd) (.lst acc) _ H2 (Dd :: Sa) A (hd acc ρ2 hp) rD s3 (st.trans (st2.subl (h3.append_left _)))
end
/-! ### promises by data -/
abbrev SpD := List D → (D → List D → Prop) → Prop
/-- M: the places of the arguments that are lent and come back -/
def spD (K : PySem.W.Frag) (M : List Nat) (P : SpD) : Sp := fun vs H Q _ => ∃ (ds : List D) (S : List Addr) (Qd : D → List D → Prop), RepA K H vs ds S ∧ S.Nodup ∧ P ds Qd ∧
  ∀ (v : V) (d : D) (ds' : List D) (ws : List V) (H' : Hp) (S1 S2 : List Addr), Qd d ds' → Rep K H' v d S1 → ws.length = M.length → (∀ j, j < M.length → ws[j]? = vs[M.getD j 0]?) → RepA K H' ws ds' S2 → Step S H (S1 ++ S2) H' → Q v H'
/-- what stands in the lent places at the end -/
def Outs (ρ : Rho) : List Nat → List D → Prop
  | [], ds => ds = []
  | i :: M, ds => ∃ x r, ds = x :: r ∧ ρ[i]? = some (some x) ∧ Outs ρ M r
def rho0 (N : List Str) (ds : List D) : Rho := ds.map some ++ List.replicate (N.length - ds.length) none
def endsD (M : List Nat) (Qd : D → List D → Prop) : DEnds where
  nx := fun ρ => ∃ r, Outs ρ M r ∧ Qd .non r
  rt := fun d ρ => ∃ r, Outs ρ M r ∧ Qd d r
  bk := fun _ => False
  ct := fun _ => False
section
variable {K : PySem.W.Frag} {H H' H1 H2 : Hp} {F F1 F2 S T A G G1 G2 : List Addr} {σ : L2.St} {ρ ρ1 ρ2 : Rho} {d e : D} {v : V} {i j n : Nat} {M : List Nat} {w : Nat → V} {P : SpD} {ar : TA} {ta : TE} {Qd : D → Rho → Prop}
theorem outs_set {ds : List D} {i : Nat} : ∀ {M : List Nat}, i ∉ M → Outs ρ M ds → Outs (ρ.set i none) M ds := by
  intro M
  induction M generalizing ds with
  | nil => exact fun _ h => h
  | cons j M ih =>
    rintro hi ⟨x, r, e1, e2, e3⟩
    have h : j ≠ i := fun z => hi (by simp [z])
    exact ⟨x, r, e1, by rw [List.getElem?_set_ne (Ne.symm h)]; exact e2, ih (fun z => hi (List.mem_cons_of_mem _ z)) e3⟩
theorem outs_rep : ∀ {M : List Nat} {ρ : Rho} {F : List Addr} {ds : List D}, M.Nodup → Sl K H σ ρ F → Outs ρ M ds → Pin M w σ → ∃ S2 A, RepA K H (M.map w) ds S2 ∧ F.Perm (S2 ++ A)
  | [], ρ, F, ds, _, s, h, _ => by
    obtain rfl : ds = [] := h
    exact ⟨[], F, .nil, .refl _⟩
  | i :: M, ρ, F, ds, nd, s, h, p => by
    obtain ⟨x, r, rfl, e, h⟩ := h
    obtain ⟨n1, n2⟩ := List.nodup_cons.mp nd
    obtain ⟨v, S, A, h1, h2, h3, h4⟩ := s.out e
    obtain ⟨S2, B, h5, h6⟩ := outs_rep n2 h3 (outs_set n1 h) fun j hj => p j (List.mem_cons_of_mem _ hj)
    have e2 := p i (List.mem_cons_self ..)
    rw [h1] at e2
    obtain rfl : v = w i := by simpa using e2
    refine ⟨S ++ S2, B, .cons h2 h5, h4.trans ?_⟩
    rw [List.append_assoc]
    exact h6.append_left S
theorem sl_none : ∀ k : Nat, Sl K H (List.replicate k none) (List.replicate k none) []
  | 0 => .nil
  | k + 1 => .no (sl_none k)
theorem sl_start (k : Nat) : ∀ {ds : List D} {vs : List V} {S : List Addr}, RepA K H vs ds S → Sl K H (vs.map some ++ List.replicate k none) (ds.map some ++ List.replicate k none) S
  | [], _, _, h => by
    cases h
    exact sl_none k
  | d :: ds, _, _, h => by
    cases h with
    | cons h1 h2 => exact .so h1 (sl_start k h2)
/-- a def's body by data: its promise -/
theorem body_of {N : List Str} {t : TS} {vs : List V} {Q : VK} {E : XK} (hM : M.Nodup) (hM2 : ∀ ds Qd, P ds Qd → ∀ i ∈ M, i < ds.length) (hd : ∀ ds Qd, P ds Qd → DS K M t (rho0 N ds) (endsD M Qd)) (h : spD K M P vs H Q E) :
    t { nx := fun _ H' => Q .non H', rt := Q } (L2.start N vs) H := by
  obtain ⟨ds, S, Qd, ra, nd, hP, k⟩ := h
  have el := ra.length
  have sl : Sl K H (L2.start N vs) (rho0 N ds) S := by
    unfold L2.start rho0
    rw [el]
    exact sl_start _ ra
  have pin : Pin M (fun i => vs.getD i .non) (L2.start N vs) := fun i hi => by
    have hlt : i < vs.length := by rw [el]; exact hM2 ds Qd hP i hi
    unfold L2.start
    rw [List.getElem?_append_left (by simpa using hlt), List.getElem?_map, List.getElem?_eq_getElem hlt]
    simp [List.getD_eq_getElem?_getD, List.getElem?_eq_getElem hlt]
  have fin : ∀ (v : V) (d : D) (σ' : L2.St) (ρ' : Rho) (H' : Hp) (S1 F' : List Addr), (∃ r, Outs ρ' M r ∧ Qd d r) → Rep K H' v d S1 → Sl K H' σ' ρ' F' → Step S H (S1 ++ F') H' → Pin M (fun i => vs.getD i .non) σ' → Q v H' := fun v d σ' ρ' H' S1 F' q r s' st p => by
    obtain ⟨o, ho, q⟩ := q
    obtain ⟨S2, A, h1, h2⟩ := outs_rep hM s' ho p
    refine k v d o (M.map fun i => vs.getD i .non) H' S1 S2 q r (by simp) (fun j hj => ?_) h1 ((st.perm (h2.append_left S1)).subl (by rw [← List.append_assoc]; exact List.sublist_append_left ..))
    have hlt : M.getD j 0 < vs.length := by
      rw [el]
      refine hM2 ds Qd hP _ ?_
      rw [List.getD_eq_getElem?_getD, List.getElem?_eq_getElem hj]
      exact List.getElem_mem hj
    have hlt' : M[j] < vs.length := by
      rw [el]
      exact hM2 ds Qd hP _ (List.getElem_mem hj)
    have e1 : M.getD j 0 = M[j] := by rw [List.getD_eq_getElem?_getD, List.getElem?_eq_getElem hj]; rfl
    rw [e1, List.getElem?_map, List.getElem?_eq_getElem hj, List.getElem?_eq_getElem hlt']
    simp [List.getD_eq_getElem?_getD, List.getElem?_eq_getElem hlt']
  refine hd ds Qd hP _ _ H S _ sl nd pin ⟨fun σ' ρ' H' F' q s' st p => fin .non .non σ' ρ' H' [] F' q .non s' st p, fun v d σ' ρ' H' S1 F' q r s' st p => fin v d σ' ρ' H' S1 F' q r s' st p, fun σ' ρ' H' F' q _ _ _ => q.elim, fun σ' ρ' H' F' q _ _ _ => q.elim⟩
/-- a call, all by value -/
theorem d_call {E : XK} (h : DA K ar ρ fun ds ρ1 => P ds fun d _ => Qd d ρ1) : DE K (tCall (spD K [] P) [] E ar) ρ Qd := fun σ H F Q s n k => by
  refine i_call (h σ H F _ s n fun vs ds ρ1 H1 S F1 q ra s1 st => ?_)
  refine ⟨ds, S, _, ra, (List.nodup_append.mp st.nd).1, q, fun v d ds' ws H' S1 S2 q r lw _ rw' st2 => ?_⟩
  have z : ws = [] := List.length_eq_zero_iff.mp lw
  subst z
  cases rw'
  rw [List.append_nil] at st2
  have mS : ∀ a ∈ S, Mu (H1 a) := RepA.mut _ _ _ ra
  have s2 := s1.mono st2.keep mS fun a ha hb => st.far a hb ha
  refine k v d ρ1 H' S1 F1 q r s2 ?_
  have a := (st.perm List.perm_append_comm).aside s1.mut st2
  exact a.perm List.perm_append_comm
/-- a call whose first argument, the slot i, is lent -/
theorem d_call0 {E : XK} {x0 : D} (e0 : ρ[i]? = some (some x0)) (h : DA K ar ρ fun ds ρ1 => ∃ x, ρ1[i]? = some (some x) ∧ P (x :: ds) fun d r => ∀ x', r = [x'] → Qd d (ρ1.set i (some x'))) : DE K (tCall (spD K [0] P) [] E (tCons (tVar i) ar)) ρ Qd := fun σ H F Q s n k => by
  refine i_call (i_cons ?_)
  obtain ⟨v0, _, _, hv0, _⟩ := s.out e0
  have main : ∀ (R : List V → Hp → Prop), (∀ vs ds ρ1 H1 S F1, (∃ x, ρ1[i]? = some (some x) ∧ P (x :: ds) fun d r => ∀ x', r = [x'] → Qd d (ρ1.set i (some x'))) → RepA K H1 vs ds S → Sl K H1 σ ρ1 F1 → Step F H (S ++ F1) H1 → R vs H1) → ar σ H R := fun R hR => h σ H F R s n hR
  have call : ∀ vs ds ρ1 H1 S F1, (∃ x, ρ1[i]? = some (some x) ∧ P (x :: ds) fun d r => ∀ x', r = [x'] → Qd d (ρ1.set i (some x'))) → RepA K H1 vs ds S → Sl K H1 σ ρ1 F1 → Step F H (S ++ F1) H1 → ∃ v, σ[i]? = some (some v) ∧ spD K [0] P (v :: vs) H1 Q E := fun vs ds ρ1 H1 S F1 q ra s1 st => by
    obtain ⟨x, hx, q⟩ := q
    obtain ⟨v, Sx, A, e1, r1, s2, p1⟩ := s1.out hx
    refine ⟨v, e1, x :: ds, Sx ++ S, _, .cons r1 ra, ?_, q, fun u d ds' ws H' S1 S2 q r lw hw rw' st2 => ?_⟩
    · have z := (st.perm (p1.append_left S)).nd
      have z2 : (S ++ (Sx ++ A)).Perm ((Sx ++ S) ++ A) := by
        rw [← List.append_assoc]
        exact List.perm_append_comm.append_right A
      exact (List.nodup_append.mp (z2.nodup_iff.mp z)).1
    · obtain ⟨y, rfl⟩ : ∃ y, ws = [y] := by
        match ws, lw with
        | [y], _ => exact ⟨y, rfl⟩
      have e2 := hw 0 (by simp)
      obtain rfl : y = v := by simpa using e2
      cases rw' with
      | @cons _ _ x' ds2 S3 T3 r3 rn =>
        cases rn
        rw [List.append_nil] at st2
        have p2 : (S ++ F1).Perm (A ++ (Sx ++ S)) := by
          refine (p1.append_left S).trans ?_
          rw [← List.append_assoc]
          exact (List.perm_append_comm.append_right A).trans List.perm_append_comm
        have st1 := st.perm p2
        have mm : ∀ a ∈ Sx ++ S, Mu (H1 a) := fun a ha => by
          rcases List.mem_append.mp ha with z | z
          · exact Rep.mut _ _ _ r1 a z
          · exact RepA.mut _ _ _ ra a z
        have s3 := s2.mono st2.keep mm st1.far
        have hlen : i < ρ1.length := (List.getElem?_eq_some_iff.mp hx).1
        obtain ⟨B, s4, p4⟩ := s3.inn (i := i) (d := x') (by rw [List.getElem?_set_self hlen]) e1 r3
        rw [List.set_set] at s4
        have st3 := st1.aside s2.mut st2
        refine k u d _ H' S1 B (q x' rfl) r s4 (st3.perm ?_)
        refine List.perm_append_comm.trans ?_
        rw [List.append_assoc]
        exact (p4.symm).append_left S1
  refine ⟨v0, hv0, main _ fun vs ds ρ1 H1 S F1 q ra s1 st => ?_⟩
  obtain ⟨v, e1, c⟩ := call vs ds ρ1 H1 S F1 q ra s1 st
  rw [hv0] at e1
  obtain rfl : v0 = v := by simpa using e1
  exact c
end
/-! ### data as the library's data, for == -/
mutual
def D.py : D → PyData
  | .non | .ins _ _ _ | .dic _ _ => .none
  | .key ns => .tuple (ns.map PyData.int)
  | .bl b => .bool b
  | .int i => .int i
  | .str s => .str s
  | .tup xs => .tuple (pyA xs)
  | .lst xs => .list (pyA xs)
  | .rol xs => .list (pyA xs)
def pyA : List D → List PyData
  | [] => []
  | x :: xs => x.py :: pyA xs
end
mutual
def D.plain : D → Bool
  | .non | .bl _ | .int _ => true
  | .str s => PyData.strOk s
  | .ins _ _ _ | .dic _ _ => false
  | .key _ => true
  | .tup xs => plainA xs
  | .lst xs => plainA xs
  | .rol xs => plainA xs
def plainA : List D → Bool
  | [] => true
  | x :: xs => x.plain && plainA xs
end
section
variable {K : PySem.W.Frag} {H H' H1 H2 : Hp} {F F1 F2 S T A G G1 G2 : List Addr} {σ : L2.St} {ρ ρ1 ρ2 : Rho} {d e : D} {v : V} {i j n : Nat} {Qd : D → Rho → Prop} {Qb : D → Prop} {ta tb te tc : TE} {ar : TA} {r r2 : R2} {x y : Int}
theorem dp_ints : ∀ ns : List Int, DpAll K H (ns.map V.int) (ns.map PyData.int)
  | [] => .nil
  | n :: ns => .cons (.int n) (dp_ints ns)
theorem lay_ints : ∀ ns : List Int, PyData.canLayAll0 (ns.map PyData.int) = true
  | [] => by simp [PyData.canLayAll0]
  | n :: ns => by simp [PyData.canLayAll0, PyData.canLay0, lay_ints ns]
mutual
theorem Rep.dp : ∀ (d : D) (v : V) (S : List Addr), Rep K H v d S → d.plain = true → Dp K H v d.py
  | .non, _, _, h, _ => by cases h; exact .non
  | .bl _, _, _, h, _ => by cases h; exact .bl _
  | .int _, _, _, h, _ => by cases h; exact .int _
  | .str _, _, _, h, _ => by cases h; exact .str _
  | .tup ds, _, _, h, p => by
    cases h with
    | tup h1 h2 => exact .tup h1 (RepA.dp ds _ _ h2 (by simpa [D.plain] using p))
  | .lst ds, _, _, h, p => by
    cases h with
    | lst h1 h2 => exact .lst (SqL.of h1) (RepA.dp ds _ _ h2 (by simpa [D.plain] using p))
  | .rol ds, _, _, h, p => by
    cases h with
    | rol h1 h2 =>
      refine .lst ?_ (RepA.dp ds _ _ h2 (by simpa [D.plain] using p))
      rcases h1 with ⟨o, h1⟩ | h1
      · exact .inl (.inr ⟨o, h1⟩)
      · exact h1 H
  | .ins _ _ _, _, _, h, p => by simp [D.plain] at p
  | .dic _ _, _, _, h, p => by simp [D.plain] at p
  | .key ns, _, _, h, p => by
    cases h with
    | key h1 => exact .tup (SqT.of h1) (dp_ints ns)
theorem RepA.dp : ∀ (ds : List D) (vs : List V) (S : List Addr), RepA K H vs ds S → plainA ds = true → DpAll K H vs (pyA ds)
  | [], _, _, h, _ => by cases h; exact .nil
  | d :: ds, _, _, h, p => by
    cases h with
    | cons h1 h2 =>
      simp only [plainA, Bool.and_eq_true] at p
      exact .cons (Rep.dp d _ _ h1 p.1) (RepA.dp ds _ _ h2 p.2)
end
mutual
theorem lay_py : ∀ d : D, d.plain = true → d.py.canLay0 = true
  | .non, _ => by simp [D.py, PyData.canLay0]
  | .bl _, _ => by simp [D.py, PyData.canLay0]
  | .int _, _ => by simp [D.py, PyData.canLay0]
  | .str _, h => by simpa [D.py, PyData.canLay0, D.plain] using h
  | .ins _ _ _, _ => by simp [D.py, PyData.canLay0]
  | .dic _ _, _ => by simp [D.py, PyData.canLay0]
  | .key ns, _ => by simp [D.py, PyData.canLay0, lay_ints ns]
  | .tup ds, h => by simp [D.py, PyData.canLay0, lay_pyA ds (by simpa [D.plain] using h)]
  | .lst ds, h => by simp [D.py, PyData.canLay0, lay_pyA ds (by simpa [D.plain] using h)]
  | .rol ds, h => by simp [D.py, PyData.canLay0, lay_pyA ds (by simpa [D.plain] using h)]
theorem lay_pyA : ∀ ds : List D, plainA ds = true → PyData.canLayAll0 (pyA ds) = true
  | [], _ => by simp [pyA, PyData.canLayAll0]
  | d :: ds, h => by
    simp only [plainA, Bool.and_eq_true] at h
    simp [pyA, PyData.canLayAll0, lay_py d h.1, lay_pyA ds h.2]
end
theorem shaped_py (p : d.plain = true) (h : d.py.depth ≤ 64) : SeqAt.shaped d.py = true := by simp [SeqAt.shaped, lay_py d p, h]
/-! ### operators -/
theorem o_add (h : Qb (.int (x + y))) : OpP K (rAddU K) (.int x) (.int y) Qb := fun _ _ _ _ H Q r1 r2 k => by cases r1; cases r2; exact .inl (.inl (i_add (k _ _ h (.int _))))
theorem o_addS {x y : Str} (c : x.length + y.length ≤ sizeLine) (h : Qb (.str (x ++ y))) : OpP K (rAddU K) (.str x) (.str y) Qb := fun _ _ _ _ H Q r1 r2 k => by cases r1; cases r2; exact .inl (.inr ⟨_, _, rfl, rfl, c, k _ _ h (.str _)⟩)
theorem o_sub (h : Qb (.int (x - y))) : OpP K rSubI (.int x) (.int y) Qb := fun _ _ _ _ H Q r1 r2 k => by cases r1; cases r2; exact i_sub (k _ _ h (.int _))
theorem o_mulL (c : -(2 ^ 64) < x ∧ x < 2 ^ 64) (h : Qb (.int (x * y))) : OpP K rMulU (.int x) (.int y) Qb := fun _ _ _ _ H Q r1 r2 k => by cases r1; cases r2; exact .inl (.inl (i_mulL c (k _ _ h (.int _))))
theorem o_mulR (c : -(2 ^ 64) < y ∧ y < 2 ^ 64) (h : Qb (.int (x * y))) : OpP K rMulU (.int x) (.int y) Qb := fun _ _ _ _ H Q r1 r2 k => by cases r1; cases r2; exact .inl (.inl (i_mulR c (k _ _ h (.int _))))
theorem o_mulW (c : CMulW x y) (h : Qb (.int (x * y))) : OpP K rMulU (.int x) (.int y) Qb := fun _ _ _ _ H Q r1 r2 k => by cases r1; cases r2; exact .inl (.inr (i_mulW c (k _ _ h (.int _))))
theorem o_div (c : 0 < y ∧ y < 1073741824) (h : Qb (.int (x / y))) : OpP K rDivU (.int x) (.int y) Qb := fun _ _ _ _ H Q r1 r2 k => by cases r1; cases r2; exact .inl (i_div c (k _ _ h (.int _)))
theorem o_divW (c : CDivW x y) (h : Qb (.int (x / y))) : OpP K rDivU (.int x) (.int y) Qb := fun _ _ _ _ H Q r1 r2 k => by cases r1; cases r2; exact .inr (i_divW c (k _ _ h (.int _)))
theorem o_mod (c : 0 < y) (h : Qb (.int (x % y))) : OpP K rModI (.int x) (.int y) Qb := fun _ _ _ _ H Q r1 r2 k => by cases r1; cases r2; exact i_mod c (k _ _ h (.int _))
theorem o_pow (c : 0 ≤ y ∧ y ≤ 1000000 ∧ x.natAbs < 2 ^ 64) (h : Qb (.int (x ^ y.toNat))) : OpP K rPowI (.int x) (.int y) Qb := fun _ _ _ _ H Q r1 r2 k => by cases r1; cases r2; exact i_pow c (k _ _ h (.int _))
theorem o_lt (h : Qb (.bl (decide (x < y)))) : OpP K (rLtU K) (.int x) (.int y) Qb := fun _ _ _ _ H Q r1 r2 k => by cases r1; cases r2; exact .inl (.inl (i_lt (k _ _ h (.bl _))))
theorem o_le (h : Qb (.bl (decide (x ≤ y)))) : OpP K rLeI (.int x) (.int y) Qb := fun _ _ _ _ H Q r1 r2 k => by cases r1; cases r2; exact i_le (k _ _ h (.bl _))
theorem o_gt (h : Qb (.bl (decide (y < x)))) : OpP K rGtI (.int x) (.int y) Qb := fun _ _ _ _ H Q r1 r2 k => by cases r1; cases r2; exact i_gt (k _ _ h (.bl _))
theorem o_ge (h : Qb (.bl (decide (y ≤ x)))) : OpP K rGeI (.int x) (.int y) Qb := fun _ _ _ _ H Q r1 r2 k => by cases r1; cases r2; exact i_ge (k _ _ h (.bl _))
theorem o_eqI (h : Qb (.bl (decide (x = y)))) : OpP K (rEqU K) (.int x) (.int y) Qb := fun _ _ _ _ H Q r1 r2 k => by cases r1; cases r2; exact .inl (i_eqI (k _ _ h (.bl _)))
theorem o_neI (h : Qb (.bl (!decide (x = y)))) : OpP K (rNeU K) (.int x) (.int y) Qb := fun _ _ _ _ H Q r1 r2 k => by cases r1; cases r2; exact .inl (i_neI (k _ _ h (.bl _)))
theorem o_eqS {x y : Str} (h : Qb (.bl (decide (x = y)))) : OpP K (rEqU K) (.str x) (.str y) Qb := fun _ _ _ _ H Q r1 r2 k => by cases r1; cases r2; exact .inl (i_eqS (k _ _ h (.bl _)))
theorem o_neS {x y : Str} (h : Qb (.bl (!decide (x = y)))) : OpP K (rNeU K) (.str x) (.str y) Qb := fun _ _ _ _ H Q r1 r2 k => by cases r1; cases r2; exact .inl (i_neS (k _ _ h (.bl _)))
theorem o_eqB {x y : Bool} (h : Qb (.bl (decide (x = y)))) : OpP K (rEqU K) (.bl x) (.bl y) Qb := fun _ _ _ _ H Q r1 r2 k => by cases r1; cases r2; exact .inl (i_eqB (k _ _ h (.bl _)))
theorem o_neB {x y : Bool} (h : Qb (.bl (!decide (x = y)))) : OpP K (rNeU K) (.bl x) (.bl y) Qb := fun _ _ _ _ H Q r1 r2 k => by cases r1; cases r2; exact .inl (i_neB (k _ _ h (.bl _)))
theorem o_eqD (p1 : d.plain = true) (p2 : e.plain = true) (c1 : d.py.depth ≤ 190) (h : Qb (.bl (PyData.eqv d.py e.py))) : OpP K (rEqU K) d e Qb := fun _ _ _ _ H Q r1 r2 k =>
  .inr ⟨_, _, Rep.dp _ _ _ r1 p1, Rep.dp _ _ _ r2 p2, lay_py _ p1, lay_py _ p2, c1, k _ _ h (.bl _)⟩
theorem o_neD (p1 : d.plain = true) (p2 : e.plain = true) (c1 : d.py.depth ≤ 190) (h : Qb (.bl (!PyData.eqv d.py e.py))) : OpP K (rNeU K) d e Qb := fun _ _ _ _ H Q r1 r2 k =>
  .inr ⟨_, _, Rep.dp _ _ _ r1 p1, Rep.dp _ _ _ r2 p2, lay_py _ p1, lay_py _ p2, c1, k _ _ h (.bl _)⟩
def D.isN : D → Bool
  | .non => true
  | _ => false
theorem rep_isN (r1 : Rep K H v d S) : decide (v = .non) = d.isN := by cases r1 <;> rfl
theorem o_isN (h : Qb (.bl d.isN)) : OpP K rIsN d .non Qb := fun _ _ _ _ H Q r1 r2 k => by
  cases r2
  refine i_isN ?_
  rw [rep_isN r1]
  exact k _ _ h (.bl _)
theorem o_notN (h : Qb (.bl (!d.isN))) : OpP K rNotN d .non Qb := fun _ _ _ _ H Q r1 r2 k => by
  cases r2
  refine i_notN ?_
  rw [rep_isN r1]
  exact k _ _ h (.bl _)
/-- x in a row of ints, of texts -/
theorem rep_sq {ds : List D} (hd : SqD d ds) (r1 : Rep K H v d S) : ∃ a xs T, v = .ref a ∧ RepA K H xs ds T ∧ (SqL K H a xs ∨ SqT K H a xs) := by
  cases hd with
  | lst =>
    cases r1 with
    | lst h1 h2 => exact ⟨_, _, _, rfl, h2, .inl (SqL.of h1)⟩
  | rol =>
    cases r1 with
    | rol h1 h2 =>
      refine ⟨_, _, _, rfl, h2, .inl ?_⟩
      rcases h1 with ⟨o, h1⟩ | h1
      · exact .inl (.inr ⟨o, h1⟩)
      · exact h1 H
  | tup =>
    cases r1 with
    | tup h1 h2 => exact ⟨_, _, _, rfl, h2, .inr h1⟩
  | key ns =>
    cases r1 with
    | key h1 => exact ⟨_, _, _, rfl, mk_ints ns, .inr (SqT.of h1)⟩
theorem repA_strs : ∀ {ns : List Str} {vs : List V} {S : List Addr}, RepA K H vs (ns.map D.str) S → vs = ns.map V.str ∧ S = []
  | [], _, _, h => by cases h; exact ⟨rfl, rfl⟩
  | n :: ns, _, _, h => by
    cases h with
    | cons h1 h2 =>
      cases h1
      obtain ⟨e1, e2⟩ := repA_strs h2
      exact ⟨by rw [e1]; rfl, by rw [e2]; rfl⟩
theorem imm_strs : ∀ ns : List Str, immA (ns.map D.str) = true
  | [] => rfl
  | n :: ns => by simp [immA, D.imm, imm_strs ns]
theorem imm_of : ∀ {ds : List D}, (∀ d ∈ ds, d.imm = true) → immA ds = true
  | [], _ => rfl
  | d :: ds, h => by
    have h1 := h d (List.mem_cons_self ..)
    have h2 : immA ds = true := imm_of fun x hx => h x (List.mem_cons_of_mem _ hx)
    simp [immA, h1, h2]
theorem of_imm : ∀ {ds : List D}, immA ds = true → ∀ d ∈ ds, d.imm = true
  | [], _, _, h => by simp at h
  | d :: ds, h, x, hx => by
    simp only [immA, Bool.and_eq_true] at h
    rcases List.mem_cons.mp hx with rfl | hx
    · exact h.1
    · exact of_imm h.2 x hx
theorem imm_append {ds es : List D} (h1 : immA ds = true) (h2 : immA es = true) : immA (ds ++ es) = true := imm_of fun d hd => by
  rcases List.mem_append.mp hd with h | h
  · exact of_imm h1 d h
  · exact of_imm h2 d h
theorem inV_ints {z : Int} (ns : List Int) : inV (.int z) (ns.map V.int) = decide (z ∈ ns) := by
  unfold inV
  rw [List.any_map]
  induction ns with
  | nil => rfl
  | cons n ns ih =>
    rw [List.any_cons, ih]
    show (eqV (.int n) (.int z) || _) = _
    have e : eqV (.int n) (.int z) = decide (n = z) := by
      show (n == z) = _
      exact Bool.beq_eq_decide_eq _ _
    rw [e]
    by_cases h : n = z
    · simp [h]
    · have h' : ¬ z = n := fun q => h q.symm
      simp [h, h']
theorem inV_strs {z : Str} (ns : List Str) : inV (.str z) (ns.map V.str) = decide (z ∈ ns) := by
  unfold inV
  rw [List.any_map]
  induction ns with
  | nil => rfl
  | cons n ns ih =>
    rw [List.any_cons, ih]
    show (eqV (.str n) (.str z) || _) = _
    have e : eqV (.str n) (.str z) = decide (n = z) := by
      show (n == z) = _
      exact Bool.beq_eq_decide_eq _ _
    rw [e]
    by_cases h : n = z
    · simp [h]
    · have h' : ¬ z = n := fun q => h q.symm
      simp [h, h']
theorem o_inI {ns : List Int} {neg : Bool} (hd : SqD d (ns.map .int)) (h : Qb (.bl (if neg then !decide (x ∈ ns) else decide (x ∈ ns)))) : OpP K (rInU K neg) (.int x) d Qb := fun _ _ _ _ H Q r1 r2 k => by
  cases r1
  obtain ⟨a, xs, T, rfl, ra, sq⟩ := rep_sq hd r2
  obtain ⟨rfl, rfl⟩ := repA_ints ra
  refine .inl ⟨a, _, rfl, sq, rfl, ?_, ?_⟩
  · rw [List.all_eq_true]
    intro x hx
    obtain ⟨n, _, rfl⟩ := List.mem_map.mp hx
    rfl
  · rw [inV_ints]
    exact k _ _ h (.bl _)
theorem o_inS {z : Str} {ns : List Str} {neg : Bool} (hd : SqD d (ns.map .str)) (h : Qb (.bl (if neg then !decide (z ∈ ns) else decide (z ∈ ns)))) : OpP K (rInU K neg) (.str z) d Qb := fun _ _ _ _ H Q r1 r2 k => by
  cases r1
  obtain ⟨a, xs, T, rfl, ra, sq⟩ := rep_sq hd r2
  obtain ⟨rfl, rfl⟩ := repA_strs ra
  refine .inl ⟨a, _, rfl, sq, rfl, ?_, ?_⟩
  · rw [List.all_eq_true]
    intro x hx
    obtain ⟨n, _, rfl⟩ := List.mem_map.mp hx
    rfl
  · rw [inV_strs]
    exact k _ _ h (.bl _)
/-- a new list, a new tuple out of two -/
theorem g_catL {ds es : List D} (c : ds.length + es.length ≤ sizeLine) (h : Qb (.lst (ds ++ es))) (mi : immA ds = true) (mj : immA es = true) : OpG K (rAddU K) (.lst ds) (.lst es) Qb := fun _ _ _ _ H Q r1 r2 k => by
  cases r1 with
  | @lst a xs _ S h1 h2 =>
    cases r2 with
    | @lst b ys _ T h3 h4 =>
      obtain rfl := RepA.imm_nil _ _ _ h2 mi
      obtain rfl := RepA.imm_nil _ _ _ h4 mj
      refine .inr (.inl ⟨a, b, xs, ys, rfl, rfl, h1, h3, by rw [h2.length, h4.length]; exact c, fun p hp => ?_⟩)
      have k0 : Keep [] H (upd H p (.lst (xs ++ ys))) := .new hp
      have ra := RepA.mono k0 (by simp) _ _ _ (h2.append h4) (by simp)
      exact k (.ref p) _ _ [p] h (.lst upd_same ra) ⟨.new hp, by simp, fun a ha => .inr (by simpa using (by simpa using ha : a = p) ▸ hp)⟩
end
/-! ### more of expressions -/
/-- a call of a builtin by data: the argument is lent -/
def CbN (K : PySem.W.Frag) (r : List V → Hp → VK → Prop) (d : D) (Qd : D → Prop) : Prop := ∀ (v : V) (S : List Addr) (H : Hp) (Q : VK), Rep K H v d S → (∀ u z H' U, Qd z → Rep K H' u z U → Step [] H U H' → Q u H') → r [v] H Q
def Cb2 (K : PySem.W.Frag) (r : List V → Hp → VK → Prop) (d e : D) (Qd : D → Prop) : Prop := ∀ (v u : V) (S T : List Addr) (H : Hp) (Q : VK), Rep K H v d S → Rep K H u e T → (∀ u z H' U, Qd z → Rep K H' u z U → Step [] H U H' → Q u H') → r [v, u] H Q
/-- a subscript by data -/
def IxD (x y : D) (Q : D → Prop) : Prop := (∃ ds k d, SqD x ds ∧ y = .int k ∧ atI ds k = some d ∧ Q d) ∨ ∃ z k c, x = .str z ∧ y = .int k ∧ z.length ≤ sizeLine ∧ atI z.cps.toList k = some c ∧ Q (.str ⟨#[c]⟩)
section
variable {K : PySem.W.Frag} {H H' H1 H2 : Hp} {F F1 F2 S T A G G1 G2 : List Addr} {σ : L2.St} {ρ ρ1 ρ2 : Rho} {d e : D} {v : V} {i j n : Nat} {M : List Nat} {w : Nat → V} {De : DEnds} {Qd : D → Rho → Prop} {Qb : D → Prop} {ta tb te tc ti : TE} {ar : TA} {r r2 : R2} {rc : List V → Hp → VK → Prop} {x y : Int}
theorem Step.fresh (s : Step [] H S H') (n : F.Nodup) (m : ∀ a ∈ F, Mu (H a)) : Step F H (S ++ F) H' := ⟨s.keep.mono (by simp), List.nodup_append.mpr ⟨s.nd, n, fun a ha b hb => by
    rintro rfl
    rcases s.sub a ha with z | z
    · cases z
    · have := m a hb
      rw [z] at this
      exact this⟩, fun a ha => by
    rcases List.mem_append.mp ha with h | h
    · exact (s.sub a h).elim (fun z => by cases z) .inr
    · exact .inl h⟩
theorem step_nil (n : F.Nodup) : Step [] H [] H := ⟨.refl _, List.nodup_nil, fun _ h => by cases h⟩
theorem step0 : Step [] H [] H := ⟨.refl _, List.nodup_nil, fun _ h => by cases h⟩
theorem stepN {o : HO} {p : Addr} (hp : H p = none) : Step [] H [p] (upd H p o) := ⟨.new hp, by simp, fun a ha => by
  obtain rfl : a = p := by simpa using ha
  exact .inr hp⟩
theorem stepNI {o : HO} {p : Addr} (hp : H p = none) : Step [] H [] (upd H p o) := ⟨.new hp, by simp, fun a ha => by cases ha⟩
/-- both sides read in place -/
theorem d_opB (h : DB K ta ρ fun x => DB K tb ρ fun y => OpG K r x y fun z => Qd z ρ) : DE K (tOp r ta tb) ρ Qd := fun σ H F Q s n k => h σ H F _ s n fun v x S q rx hS =>
  q σ H F _ s n fun u y T q ry hT => q v u S T H Q rx ry fun w z H' U q rz st => k w z ρ H' U F q rz (s.mono st.keep (by simp) (by simp)) (st.fresh n s.mut)
/-- the left side a slot, read in place -/
theorem d_opV {x0 : D} (e0 : ρ[i]? = some (some x0)) (h : DE K tb ρ fun y ρ1 => ∃ x, ρ1[i]? = some (some x) ∧ OpG K r x y fun z => Qd z ρ1) : DE K (tOp r (tVar i) tb) ρ Qd := fun σ H F Q s n k => by
  obtain ⟨v0, _, _, hv0, _⟩ := s.out e0
  refine ⟨v0, hv0, h σ H F _ s n fun u y ρ1 H1 T F1 q ry s1 st => ?_⟩
  obtain ⟨x, e1, q⟩ := q
  obtain ⟨v1, S1, A1, hv1, r1, _, _⟩ := s1.out e1
  rw [hv0] at hv1
  obtain rfl : v0 = v1 := by simpa using hv1
  have st1 : Step F H F1 H1 := st.subl (List.sublist_append_right ..)
  exact q v0 u S1 T H1 Q r1 ry fun w z H' U q rz st2 => k w z ρ1 H' U F1 q rz (s1.mono st2.keep (by simp) (by simp)) (st1.trans (st2.fresh st1.nd s1.mut))
/-- the right side a slot, read in place -/
theorem d_opR (h : DE K ta ρ fun x ρ1 => ∃ y, ρ1[j]? = some (some y) ∧ OpG K r x y fun z => Qd z ρ1) : DE K (tOp r ta (tVar j)) ρ Qd := fun σ H F Q s n k => h σ H F _ s n fun v x ρ1 H1 S F1 q rx s1 st => by
  obtain ⟨y, e1, q⟩ := q
  obtain ⟨u, T, A1, hu, r1, _, _⟩ := s1.out e1
  have st1 : Step F H F1 H1 := st.subl (List.sublist_append_right ..)
  exact ⟨u, hu, q v u S T H1 Q rx r1 fun w z H' U q rz st2 => k w z ρ1 H' U F1 q rz (s1.mono st2.keep (by simp) (by simp)) (st1.trans (st2.fresh st1.nd s1.mut))⟩
theorem atI_some {α : Type} {xs : List α} {k : Int} {d : α} (h : atI xs k = some d) : ∃ j, ixN xs.length k = some j ∧ xs[j]? = some d := by
  unfold atI at h
  cases e : ixN xs.length k with
  | none => rw [e] at h; cases h
  | some j => rw [e] at h; exact ⟨j, rfl, h⟩
theorem b_ix (h : DB K ta ρ fun x => DB K tb ρ fun y => IxD x y Qb) : DB K (tOp (rIxU K) ta tb) ρ Qb := fun σ H F Q s n k => h σ H F _ s n fun v x S q rx hS => q σ H F _ s n fun u y T q ry hT => by
  rcases q with ⟨ds, kk, d, hx, rfl, e, q1⟩ | ⟨z, kk, c, rfl, rfl, hl, e, q1⟩
  · cases ry
    obtain ⟨j, e1, e2⟩ := atI_some e
    have get : ∀ {xs : List V} {S1 : List Addr}, RepA K H xs ds S1 → ∃ u U, atI xs kk = some u ∧ Rep K H u d U ∧ ∀ a ∈ U, a ∈ S1 := fun {xs S1} ra => by
      obtain ⟨u, U, A, h1, h2, h3, _⟩ := ra.at_ e2
      refine ⟨u, U, ?_, h2, fun a ha => h3.mem_iff.mpr (List.mem_append_left _ ha)⟩
      unfold atI
      rw [ra.length, e1]
      exact h1
    cases hx with
    | lst =>
      cases rx with
      | lst h1 h2 =>
        obtain ⟨u, U, h3, h4, h5⟩ := get h2
        exact .inl ⟨_, _, kk, u, rfl, rfl, SqL.of h1, h3, k u d U q1 h4 fun a ha => hS a (List.mem_cons_of_mem _ (h5 a ha))⟩
    | rol =>
      cases rx with
      | rol h1 h2 =>
        obtain ⟨u, U, h3, h4, h5⟩ := get h2
        refine .inl ⟨_, _, kk, u, rfl, rfl, ?_, h3, k u d U q1 h4 fun a ha => by have := h5 a ha; cases this⟩
        rcases h1 with ⟨o, h1⟩ | h1
        · exact .inl (.inr ⟨o, h1⟩)
        · exact h1 H
    | tup =>
      cases rx with
      | tup h1 h2 =>
        obtain ⟨u, U, h3, h4, h5⟩ := get h2
        exact .inr (.inl ⟨_, _, kk, u, rfl, rfl, h1, h3, k u d U q1 h4 fun a ha => hS a (h5 a ha)⟩)
    | key ns =>
      cases rx with
      | key h1 =>
        obtain ⟨u, U, h3, h4, h5⟩ := get (mk_ints ns)
        exact .inr (.inl ⟨_, _, kk, u, rfl, rfl, SqT.of h1, h3, k u d U q1 h4 fun a ha => by have := h5 a ha; cases this⟩)
  · cases rx
    cases ry
    exact .inr (.inr ⟨z, kk, c, rfl, rfl, hl, e, k _ _ [] q1 (.str _) (by simp)⟩)
theorem ix_sq {ds : List D} {x d : D} {k : Int} {Q : D → Prop} (hx : SqD x ds) (e : atI ds k = some d) (h : Q d) : IxD x (.int k) Q := .inl ⟨ds, k, d, hx, rfl, e, h⟩
/-- a subscript of a value (a temporary one) -/
theorem g_ix (h : IxD d e fun z => z.imm = true ∧ Qb z) : OpG K (rIxU K) d e Qb := fun v u S T H Q rx ry k => by
  have sl : Sl K H [some v, some u] [some d, some e] (S ++ (T ++ [])) := .so rx (.so ry .nil)
  rcases h with ⟨ds, kk, d', hx, rfl, e1, q⟩ | ⟨z, kk, c, rfl, rfl, hl, e1, q⟩
  · cases ry
    obtain ⟨j, e1, e2⟩ := atI_some e1
    have get : ∀ {xs : List V} {S1 : List Addr}, RepA K H xs ds S1 → ∃ u, atI xs kk = some u ∧ Rep K H u d' [] := fun {xs S1} ra => by
      obtain ⟨u, U, A, h1, h2, h3, _⟩ := ra.at_ e2
      obtain rfl := Rep.imm_nil _ _ _ h2 q.1
      refine ⟨u, ?_, h2⟩
      unfold atI
      rw [ra.length, e1]
      exact h1
    obtain ⟨a, xs, T', rfl, ra, sq⟩ := rep_sq hx rx
    obtain ⟨u, h3, h4⟩ := get ra
    rcases sq with sq | sq
    · exact .inl ⟨_, _, kk, u, rfl, rfl, sq, h3, k u d' H [] q.2 h4 step0⟩
    · exact .inr (.inl ⟨_, _, kk, u, rfl, rfl, sq, h3, k u d' H [] q.2 h4 step0⟩)
  · cases rx
    cases ry
    exact .inr (.inr ⟨z, kk, c, rfl, rfl, hl, e1, k _ _ H [] q.2 (.str _) step0⟩)
theorem g_catT {ds es : List D} (c : ds.length + es.length ≤ sizeLine) (mi : immA ds = true) (mj : immA es = true) (h : Qb (.tup (ds ++ es))) : OpG K (rAddU K) (.tup ds) (.tup es) Qb := fun _ _ _ _ H Q r1 r2 k => by
  cases r1 with
  | @tup a xs _ S h1 h2 =>
    cases r2 with
    | @tup b ys _ T h3 h4 =>
      obtain rfl := RepA.imm_nil _ _ _ h2 mi
      obtain rfl := RepA.imm_nil _ _ _ h4 mj
      refine .inr (.inr ⟨a, b, xs, ys, rfl, rfl, h1, h3, by rw [h2.length, h4.length]; exact c, fun z => ?_, fun _ z => ?_, fun _ _ p hp => ?_⟩)
      · subst z
        cases h2
        exact k (.ref b) _ H [] h (.tup h3 h4) step0
      · subst z
        cases h4
        rw [List.append_nil] at h
        exact k (.ref a) _ H [] h (.tup h1 h2) step0
      · have k0 : Keep [] H (upd H p (.tup (xs ++ ys))) := .new hp
        exact k (.ref p) _ _ [] h (.tup (SqT.of upd_same) (RepA.mono k0 (by simp) _ _ _ (h2.append h4) (by simp))) (stepNI hp)
/-- displays -/
theorem d_tup (h : DA K ar ρ fun ds ρ1 => ds.length ≤ sizeLine ∧ Qd (.tup ds) ρ1) : DE K (tTup ar) ρ Qd := fun σ H F Q s n k => h σ H F _ s n fun vs ds ρ1 H1 S F1 q ra s1 st => ⟨by rw [ra.length]; exact q.1, fun p hp => by
  have k0 : Keep [] H1 (upd H1 p (.tup vs)) := .new hp
  refine k (.ref p) (.tup ds) ρ1 _ S F1 q.2 (.tup (SqT.of upd_same) (RepA.mono k0 (by simp) _ _ _ ra (by simp))) (s1.mono k0 (by simp) (by simp)) ?_
  exact ⟨fun a o na e => k0 a o (by simp) (st.keep a o na e), st.nd, st.sub⟩⟩
theorem d_lst (h : DA K ar ρ fun ds ρ1 => ds.length ≤ sizeLine ∧ Qd (.lst ds) ρ1) : DE K (tLst ar) ρ Qd := fun σ H F Q s n k => h σ H F _ s n fun vs ds ρ1 H1 S F1 q ra s1 st => ⟨by rw [ra.length]; exact q.1, fun p hp => by
  have k0 : Keep [] H1 (upd H1 p (.lst vs)) := .new hp
  refine k (.ref p) (.lst ds) ρ1 _ (p :: S) F1 q.2 (.lst upd_same (RepA.mono k0 (by simp) _ _ _ ra (by simp))) (s1.mono k0 (by simp) (by simp)) ?_
  have m : ∀ a ∈ S ++ F1, Mu (H1 a) := fun a ha => by
    rcases List.mem_append.mp ha with z | z
    · exact RepA.mut _ _ _ ra a z
    · exact s1.mut a z
  exact st.trans (Step.new st.nd m hp)⟩
theorem d_neg (h : DE K ta ρ fun x ρ1 => ∃ z, x = .int z ∧ Qd (.int (-z)) ρ1) : DE K (tUn rNegI ta) ρ Qd := fun σ H F Q s n k => h σ H F _ s n fun v x ρ1 H1 S F1 q rx s1 st => by
  obtain ⟨z, rfl, q⟩ := q
  cases rx
  exact i_neg (k _ _ ρ1 H1 [] F1 q (.int _) s1 st)
theorem b_neg (h : DB K ta ρ fun x => ∃ z, x = .int z ∧ Qb (.int (-z))) : DB K (tUn rNegI ta) ρ Qb := fun σ H F Q s n k => h σ H F _ s n fun v x S q rx hS => by
  obtain ⟨z, rfl, q⟩ := q
  cases rx
  exact i_neg (k _ _ [] q (.int _) (by simp))
theorem d_chain (h : DE K ta ρ fun x ρ1 => DE K tb ρ1 fun y ρ2 => y.imm = true ∧ OpP K r x y fun z => ∃ k, z = .bl k ∧ if k = true then DE K tc ρ2 fun w ρ3 => OpG K r2 y w fun z => Qd z ρ3 else Qd (.bl false) ρ2) : DE K (tChain r r2 ta tb tc) ρ Qd := fun σ H F Q s n k => h σ H F _ s n fun v x ρ1 H1 S F1 q rx s1 st =>
  q σ H1 F1 _ s1 (List.nodup_append.mp st.nd).2.1 fun u y ρ2 H2 T F2 q ry s2 st2 => by
    obtain ⟨im, q⟩ := q
    obtain rfl := Rep.imm_nil _ _ _ ry im
    have rx2 := Rep.mono st2.keep s1.mut _ _ _ rx st.far
    have st1 : Step F H F2 H2 := (st.aside (Rep.mut _ _ _ rx) st2).subl (List.sublist_append_right S _)
    refine q v u S [] H2 _ rx2 ry fun w z q rz => ?_
    obtain ⟨b, rfl, q⟩ := q
    cases rz
    refine ⟨b, rfl, ?_⟩
    cases b with
    | false => exact k _ _ ρ2 H2 [] F2 q (.bl _) s2 st1
    | true =>
      refine q σ H2 F2 _ s2 st1.nd fun v' w' ρ3 H3 S3 F3 q r3 s3 st3 => ?_
      have ry3 := Rep.mono st3.keep s2.mut _ _ _ ry (by simp)
      have st3' : Step F2 H2 F3 H3 := st3.subl (List.sublist_append_right ..)
      refine q u v' [] S3 H3 Q ry3 r3 fun w z H4 U q rz st4 => ?_
      exact k w z ρ3 H4 U F3 q rz (s3.mono st4.keep (by simp) (by simp)) ((st1.trans st3').trans (st4.fresh st3'.nd s3.mut))
/-- calls of builtins -/
theorem d_cbB (h : DB K ta ρ fun x => CbN K rc x fun z => Qd z ρ) : DE K (tCB rc (tCons ta tNil)) ρ Qd := fun σ H F Q s n k => h σ H F _ s n fun v x S q rx hS => q v S H Q rx fun u z H' U q rz st => k u z ρ H' U F q rz (s.mono st.keep (by simp) (by simp)) (st.fresh n s.mut)
theorem d_cb (h : DE K ta ρ fun x ρ1 => CbN K rc x fun z => Qd z ρ1) : DE K (tCB rc (tCons ta tNil)) ρ Qd := fun σ H F Q s n k => h σ H F _ s n fun v x ρ1 H1 S F1 q rx s1 st => q v S H1 Q rx fun u z H' U q rz st2 => by
  have st1 : Step F H F1 H1 := st.subl (List.sublist_append_right ..)
  exact k u z ρ1 H' U F1 q rz (s1.mono st2.keep (by simp) (by simp)) (st1.trans (st2.fresh st1.nd s1.mut))
theorem d_cb2B (h : DB K ta ρ fun x => DB K tb ρ fun y => Cb2 K rc x y fun z => Qd z ρ) : DE K (tCB rc (tCons ta (tCons tb tNil))) ρ Qd := fun σ H F Q s n k => h σ H F _ s n fun v x S q rx hS => q σ H F _ s n fun v' y T q ry hT => q v v' S T H Q rx ry fun u z H' U q rz st => k u z ρ H' U F q rz (s.mono st.keep (by simp) (by simp)) (st.fresh n s.mut)
theorem b_cb (h : DB K ta ρ fun x => CbN K rc x fun z => z.imm = true ∧ Qb z) (hp : ∀ x Q v S H (Qv : VK), CbN K rc x Q → Rep K H v x S → (∀ u z, Q z → Rep K H u z [] → Qv u H) → rc [v] H Qv) : DB K (tCB rc (tCons ta tNil)) ρ Qb := fun σ H F Q s n k => h σ H F _ s n fun v x S q rx hS => hp x _ v S H Q q rx fun u z q rz => k u z [] q.2 rz (by simp)
end
/-! ### slices, built-ins, changes in place -/
def cutL (ds : List D) (lo hi : Option Int) : List D := (ds.drop (HT.sIx ds.length 0 lo)).take (HT.sIx ds.length ds.length hi - HT.sIx ds.length 0 lo)
def DPt (K : PySem.W.Frag) (t : TO) (ρ : Rho) (Q : Option Int → Prop) : Prop := ∀ (σ : L2.St) (H : Hp) (F : List Addr) (R : Option Int → Hp → Prop), Sl K H σ ρ F → F.Nodup → (∀ o, Q o → R o H) → t σ H R
def SlG (K : PySem.W.Frag) (r : V → Option Int → Option Int → Hp → VK → Prop) (d : D) (lo hi : Option Int) (Qd : D → Prop) : Prop := ∀ (v : V) (S : List Addr) (H : Hp) (Q : VK), Rep K H v d S → (∀ u z H' U, Qd z → Rep K H' u z U → Step [] H U H' → Q u H') → r v lo hi H Q
def isD (T : String) : D → Bool
  | .non => false
  | .bl _ => T == "bool" || T == "int"
  | .int _ => T == "int"
  | .str _ => T == "str"
  | .tup _ => T == "tuple"
  | .lst _ => T == "list"
  | .rol _ => T == "list"
  | .key _ => T == "tuple"
  | .ins _ _ _ => false
  | .dic _ _ => T == "dict"
section
variable {K : PySem.W.Frag} {H H' H1 H2 : Hp} {F F1 F2 S T A G G1 G2 : List Addr} {σ : L2.St} {ρ ρ1 ρ2 : Rho} {d e : D} {v : V} {i j n : Nat} {M : List Nat} {w : Nat → V} {De : DEnds} {Qd : D → Rho → Prop} {Qb : D → Prop} {ta tb te tc ti : TE} {tl th : TO} {ar : TA} {r r2 : R2} {rc : List V → Hp → VK → Prop} {x y : Int} {ds es : List D} {lo hi : Option Int}
theorem p_no {Q : Option Int → Prop} (h : Q none) : DPt K tNoPart ρ Q := fun σ H F R s n k => k none h
theorem p_some {Q : Option Int → Prop} (h : DB K te ρ fun d => ∃ z, d = .int z ∧ Q (some z)) : DPt K (tPart te) ρ Q := fun σ H F R s n k => h σ H F _ s n fun v d S q r hS => by
  obtain ⟨z, rfl, q⟩ := q
  cases r
  exact ⟨z, rfl, k _ q⟩
theorem d_slB {rs : V → Option Int → Option Int → Hp → VK → Prop} (h : DB K te ρ fun x => DPt K tl ρ fun lo => DPt K th ρ fun hi => SlG K rs x lo hi fun z => Qd z ρ) : DE K (tSl rs te tl th) ρ Qd := fun σ H F Q s n k =>
  h σ H F _ s n fun v x S q rx hS => q σ H F _ s n fun lo q => q σ H F _ s n fun hi q => q v S H Q rx fun u z H' U q rz st => k u z ρ H' U F q rz (s.mono st.keep (by simp) (by simp)) (st.fresh n s.mut)
theorem d_sl {rs : V → Option Int → Option Int → Hp → VK → Prop} (h : DE K te ρ fun x ρ1 => DPt K tl ρ1 fun lo => DPt K th ρ1 fun hi => SlG K rs x lo hi fun z => Qd z ρ1) : DE K (tSl rs te tl th) ρ Qd := fun σ H F Q s n k =>
  h σ H F _ s n fun v x ρ1 H1 S F1 q rx s1 st => q σ H1 F1 _ s1 (List.nodup_append.mp st.nd).2.1 fun lo q => q σ H1 F1 _ s1 (List.nodup_append.mp st.nd).2.1 fun hi q => q v S H1 Q rx fun u z H' U q rz st2 => by
    have st1 : Step F H F1 H1 := st.subl (List.sublist_append_right ..)
    exact k u z ρ1 H' U F1 q rz (s1.mono st2.keep (by simp) (by simp)) (st1.trans (st2.fresh st1.nd s1.mut))
theorem RepA.sub (im : immA ds = true) : ∀ {vs : List V} {S : List Addr} (a b : Nat), RepA K H vs ds S → RepA K H ((vs.drop a).take b) ((ds.drop a).take b) [] := by
  induction ds with
  | nil => intro vs S a b h; cases h; simp; exact .nil
  | cons d ds ih =>
    intro vs S a b h
    cases h with
    | cons h1 h2 =>
      simp only [immA, Bool.and_eq_true] at im
      cases a with
      | succ a => exact ih im.2 a b h2
      | zero =>
        cases b with
        | zero => simp; exact .nil
        | succ b =>
          have := ih im.2 0 b h2
          obtain rfl := Rep.imm_nil _ _ _ h1 im.1
          exact .cons (S := []) h1 this
theorem rep_l (hd : LsD d ds) (rx : Rep K H v d S) : ∃ a xs T, v = .ref a ∧ RepA K H xs ds T ∧ SqL K H a xs := by
  cases hd with
  | lst =>
    cases rx with
    | lst h1 h2 => exact ⟨_, _, _, rfl, h2, SqL.of h1⟩
  | rol =>
    cases rx with
    | rol h1 h2 =>
      refine ⟨_, _, _, rfl, h2, ?_⟩
      rcases h1 with ⟨o, h1⟩ | h1
      · exact .inl (.inr ⟨o, h1⟩)
      · exact h1 H
theorem newL {p : Addr} {xs : List V} (hp : H p = none) (ra : RepA K H xs ds []) : Rep K (upd H p (.lst xs)) (.ref p) (.lst ds) [p] := .lst upd_same (RepA.mono (.new hp : Keep [] H _) (by simp) _ _ _ ra (by simp))
theorem newTp {p : Addr} {xs : List V} (hp : H p = none) (ra : RepA K H xs ds []) : Rep K (upd H p (.tup xs)) (.ref p) (.tup ds) [] := .tup (SqT.of upd_same) (RepA.mono (.new hp : Keep [] H _) (by simp) _ _ _ ra (by simp))
theorem g_slL (hd : LsD d ds) (im : immA ds = true) (h : Qb (.lst (cutL ds lo hi))) : SlG K (rSlU K) d lo hi Qb := fun v S H Q rx k => by
  obtain ⟨a, xs, T, rfl, ra, sq⟩ := rep_l hd rx
  refine .inl ⟨a, xs, rfl, sq, fun p hp => ?_⟩
  have el := ra.length
  refine k (.ref p) _ _ [p] h (newL hp ?_) (stepN hp)
  unfold cutV cutL
  rw [el]
  exact ra.sub im _ _
theorem g_slT (im : immA ds = true) (h : Qb (.tup (cutL ds lo hi))) : SlG K (rSlU K) (.tup ds) lo hi Qb := fun v S H Q rx k => by
  cases rx with
  | @tup a xs _ _ h1 h2 =>
    have el := h2.length
    refine .inr (.inl ⟨a, xs, rfl, h1, fun hw => ?_, fun hw p hp => ?_⟩)
    · rw [el] at hw
      have e : cutL ds lo hi = ds := by
        unfold cutL
        rw [hw.1, hw.2]
        simp
      rw [e] at h
      obtain rfl := RepA.imm_nil _ _ _ h2 im
      exact k (.ref a) _ H [] h (.tup h1 h2) step0
    · refine k (.ref p) _ _ [] h (newTp hp ?_) (stepNI hp)
      unfold cutV cutL
      rw [el]
      exact h2.sub im _ _
theorem g_slS {z : Str} (c : z.length ≤ sizeLine) (h : Qb (.str (cutS z lo hi))) : SlG K (rSlU K) (.str z) lo hi Qb := fun v S H Q rx k => by
  cases rx
  exact .inr (.inr ⟨z, rfl, c, k _ _ H [] h (.str _) step0⟩)
/-! built-ins -/
theorem cb_len (hd : SqD d ds) (h : Qb (.int ds.length)) : CbN K (rLen K) d Qb := fun v S H Q rx k => by
  obtain ⟨a, xs, T, rfl, ra, sq⟩ := rep_sq hd rx
  refine ⟨_, ds.length, rfl, ?_, k _ _ H [] h (.int _) step0⟩
  rcases sq with z | z
  · exact .inl ⟨xs, z, ra.length.symm⟩
  · exact .inr ⟨xs, z, ra.length.symm⟩
theorem cb_lenL (h : Qb (.int ds.length)) : CbN K (rLen K) (.lst ds) Qb := cb_len (.lst _) h
theorem cb_lenR (h : Qb (.int ds.length)) : CbN K (rLen K) (.rol ds) Qb := cb_len (.rol _) h
theorem cb_lenT (h : Qb (.int ds.length)) : CbN K (rLen K) (.tup ds) Qb := cb_len (.tup _) h
theorem cb_lenK {ns : List Int} (h : Qb (.int (ns.map D.int).length)) : CbN K (rLen K) (.key ns) Qb := cb_len (.key _) h
theorem cb_lenS {z : Str} (c : z.length ≤ sizeLine) (h : Qb (.int z.length)) : CbN K (rLen K) (.str z) Qb := fun v S H Q rx k => by
  cases rx
  exact ⟨_, z.length, rfl, ⟨c, rfl⟩, k _ _ H [] h (.int _) step0⟩
theorem b_len (h : DB K te ρ fun d => ∃ ds, SqD d ds ∧ Qb (.int ds.length)) : DB K (tCB (rLen K) (tCons te tNil)) ρ Qb := fun σ H F Q s n k => h σ H F _ s n fun v d S q rx hS => by
  obtain ⟨ds, hd, q⟩ := q
  obtain ⟨a, xs, T, rfl, ra, sq⟩ := rep_sq hd rx
  refine ⟨_, ds.length, rfl, ?_, k _ _ [] q (.int _) (by simp)⟩
  rcases sq with z | z
  · exact .inl ⟨xs, z, ra.length.symm⟩
  · exact .inr ⟨xs, z, ra.length.symm⟩
theorem len_l {P : Int → Prop} (h : P ds.length) : ∃ es, SqD (D.lst ds) es ∧ P es.length := ⟨ds, .lst _, h⟩
theorem len_r {P : Int → Prop} (h : P ds.length) : ∃ es, SqD (D.rol ds) es ∧ P es.length := ⟨ds, .rol _, h⟩
theorem len_t {P : Int → Prop} (h : P ds.length) : ∃ es, SqD (D.tup ds) es ∧ P es.length := ⟨ds, .tup _, h⟩
theorem len_k {ns : List Int} {P : Int → Prop} (h : P (ns.map D.int).length) : ∃ es, SqD (D.key ns) es ∧ P es.length := ⟨_, .key _, h⟩
theorem cb_abs (h : Qb (.int (if x < 0 then -x else x))) : CbN K rAbs (.int x) Qb := fun v S H Q rx k => by cases rx; exact i_abs (k _ _ H [] h (.int _) step0)
theorem cb_int (h : Qb (.int x)) : CbN K rInt1 (.int x) Qb := fun v S H Q rx k => by cases rx; exact i_int1 (k _ _ H [] h (.int _) step0)
theorem cb_intB {b : Bool} (h : Qb (.int (if b then 1 else 0))) : CbN K rInt1 (.bl b) Qb := fun v S H Q rx k => by cases rx; exact i_int1b (k _ _ H [] h (.int _) step0)
theorem cb_bool (h : Qb (.bl (x != 0))) : CbN K rBool1 (.int x) Qb := fun v S H Q rx k => by cases rx; exact .inl ⟨_, rfl, k _ _ H [] h (.bl _) step0⟩
theorem cb_strI (c : x.natAbs.log2 < 1920) (h : Qb (.str (toString x))) : CbN K rStrI (.int x) Qb := fun v S H Q rx k => by cases rx; exact i_strI c (k _ _ H [] h (.str _) step0)
theorem cb_ord {z : Str} (c : z.length = 1) (h : Qb (.int (z.cps.getD 0 0 : Nat))) : CbN K rOrd (.str z) Qb := fun v S H Q rx k => by cases rx; exact ⟨_, rfl, c, k _ _ H [] h (.int _) step0⟩
theorem cb_chr (c : 0 ≤ x ∧ x ≤ 1114111) (h : Qb (.str ⟨#[x.toNat]⟩)) : CbN K rChr (.int x) Qb := fun v S H Q rx k => by cases rx; exact ⟨_, rfl, c.1, c.2, k _ _ H [] h (.str _) step0⟩
theorem cb_list (hd : SqD d ds) (im : immA ds = true) (h : Qb (.lst ds)) : CbN K (rListOf K) d Qb := fun v S H Q rx k => by
  obtain ⟨a, xs, T, rfl, ra, sq⟩ := rep_sq hd rx
  obtain rfl := RepA.imm_nil _ _ _ ra im
  exact ⟨a, xs, rfl, sq, fun p hp => k _ _ _ [p] h (newL hp ra) (stepN hp)⟩
theorem cb_tuple (hd : SqD d ds) (im : immA ds = true) (h : Qb (.tup ds)) : CbN K (rTupOf K) d Qb := fun v S H Q rx k => by
  rcases hd.or with hl | ht
  · obtain ⟨a, xs, T, rfl, ra, sq⟩ := rep_l hl rx
    obtain rfl := RepA.imm_nil _ _ _ ra im
    exact ⟨a, xs, rfl, .inl ⟨sq, fun p hp => k _ _ _ [] h (newTp hp ra) (stepNI hp)⟩⟩
  · cases ht with
    | tup =>
      cases rx with
      | tup h1 h2 =>
        obtain rfl := RepA.imm_nil _ _ _ h2 im
        exact ⟨_, _, rfl, .inr ⟨h1, k _ _ H [] h (.tup h1 h2) step0⟩⟩
    | key ns =>
      cases rx with
      | key h1 => exact ⟨_, _, rfl, .inr ⟨SqT.of h1, k _ _ H [] h (.tup (SqT.of h1) (mk_ints ns)) step0⟩⟩
/-- tuple(xs), a row of ints -/
theorem cb_key {ns : List Int} (hd : LsD d (ns.map .int) ∨ d = .key ns) (h : Qb (.key ns)) : CbN K (rTupOf K) d Qb := fun v S H Q rx k => by
  rcases hd with hl | rfl
  · obtain ⟨a, xs, T, rfl, ra, sq⟩ := rep_l hl rx
    obtain ⟨rfl, rfl⟩ := repA_ints ra
    exact ⟨a, _, rfl, .inl ⟨sq, fun p hp => k _ _ _ [] h (.key upd_same) (stepNI hp)⟩⟩
  · cases rx with
    | key h1 => exact ⟨_, _, rfl, .inr ⟨SqT.of h1, k _ _ H [] h (.key h1) step0⟩⟩
theorem cb_max (h : Qb (.int (if y > x then y else x))) : Cb2 K rMax2 (.int x) (.int y) Qb := fun v u S T H Q rx ry k => by cases rx; cases ry; exact ⟨_, _, rfl, k _ _ H [] h (.int _) step0⟩
theorem cb_min (h : Qb (.int (if y < x then y else x))) : Cb2 K rMin2 (.int x) (.int y) Qb := fun v u S T H Q rx ry k => by cases rx; cases ry; exact ⟨_, _, rfl, k _ _ H [] h (.int _) step0⟩
theorem cb_sum {ns : List Int} (hd : d = .lst (ns.map .int)) (h : Qb (.int ns.sum)) : CbN K (rSum K) d Qb := fun v S H Q rx k => by
  obtain ⟨a, xs, T, rfl, ra, sq⟩ := rep_l (by rw [hd]; exact .lst _) rx
  obtain ⟨rfl, rfl⟩ := repA_ints ra
  exact ⟨a, ns, rfl, sq, k _ _ H [] h (.int _) step0⟩
theorem cb_maxL {ns : List Int} (hd : d = .lst (ns.map .int)) (c : 0 < ns.length) (h : ∀ m, m ∈ ns → (∀ y, y ∈ ns → y ≤ m) → Qb (.int m)) : CbN K (rMax K) d Qb := fun v S H Q rx k => by
  obtain ⟨a, xs, T, rfl, ra, sq⟩ := rep_l (by rw [hd]; exact .lst _) rx
  obtain ⟨rfl, rfl⟩ := repA_ints ra
  exact ⟨a, ns, rfl, sq, c, fun m h1 h2 => k _ _ H [] (h m h1 h2) (.int _) step0⟩
theorem cb_minL {ns : List Int} (hd : d = .lst (ns.map .int)) (c : 0 < ns.length) (h : ∀ m, m ∈ ns → (∀ y, y ∈ ns → m ≤ y) → Qb (.int m)) : CbN K (rMin K) d Qb := fun v S H Q rx k => by
  obtain ⟨a, xs, T, rfl, ra, sq⟩ := rep_l (by rw [hd]; exact .lst _) rx
  obtain ⟨rfl, rfl⟩ := repA_ints ra
  exact ⟨a, ns, rfl, sq, c, fun m h1 h2 => k _ _ H [] (h m h1 h2) (.int _) step0⟩
/-! changes in place -/
/-- the list in the slot i becomes another -/
theorem slot_put {xs : List V} {a : Addr} {ds' : List D} {xs' : List V} {S' : List Addr} (s : Sl K H σ ρ A) (hv : σ[i]? = some (some (.ref a))) (hi : ρ[i]? = some none) (ha : H a = some (.lst xs)) (ra : RepA K H xs' ds' S') (far : ∀ b ∈ S' ++ A, b ≠ a) :
    ∃ B, Sl K (upd H a (.lst xs')) σ (ρ.set i (some (.lst ds'))) B ∧ B.Perm ((a :: S') ++ A) := by
  have k0 : Keep [a] H (upd H a (.lst xs')) := (Keep.refl H).put (.inl (by simp))
  have m0 : ∀ b ∈ [a], Mu (H b) := fun b hb => by
    obtain rfl : b = a := by simpa using hb
    rw [ha]; trivial
  have ra' := RepA.mono k0 m0 _ _ _ ra fun b hb => by simpa using far b (List.mem_append_left _ hb)
  have s' := s.mono k0 m0 fun b hb => by simpa using far b (List.mem_append_right _ hb)
  exact s'.inn hi hv (.lst upd_same ra')
theorem s_app {ds0 : List D} (e0 : ρ[i]? = some (some (.lst ds0))) (h : DE K te ρ fun x ρ1 => ∃ ds, ρ1[i]? = some (some (.lst ds)) ∧ ds.length < sizeLine ∧ De.nx (ρ1.set i (some (.lst (ds ++ [x]))))) :
    DS K M (tDrop (tBM K "list" rAppend (tVar i) (tCons te tNil))) ρ De := fun w σ H F D s n p c => by
  obtain ⟨v0, S0, A0, hv0, r0, s0, p0⟩ := s.out e0
  cases r0 with
  | @lst a xs0 _ S0 h1 h2 =>
    refine i_drop (i_append ⟨_, hv0, ty_lst h1, h σ H F _ s n fun u x ρ1 H1 T F1 q rx s1 st => ?_⟩)
    obtain ⟨ds, e1, cl, q⟩ := q
    obtain ⟨v1, S1, A1, hv1, r1, s2, p1⟩ := s1.out e1
    rw [hv0] at hv1
    obtain rfl : V.ref a = v1 := by simpa using hv1
    cases r1 with
    | @lst _ xs1 _ S1 h3 h4 =>
      have hlen : i < ρ1.length := (List.getElem?_eq_some_iff.mp e1).1
      have nd := (st.perm (p1.append_left T)).nd
      have pp : (T ++ ((a :: S1) ++ A1)).Perm (a :: ((S1 ++ T) ++ A1)) := by
        refine (List.perm_append_comm).trans ?_
        show (a :: (S1 ++ A1 ++ T)).Perm _
        refine List.Perm.cons a ?_
        rw [List.append_assoc, List.append_assoc]
        exact List.perm_append_comm.append_left S1
      have nd2 := pp.nodup_iff.mp nd
      have ra := h4.append (.cons rx .nil)
      rw [List.append_nil] at ra
      obtain ⟨B, s3, p3⟩ := slot_put (xs' := xs1 ++ [u]) (ds' := ds ++ [x]) s2 hv0 (by rw [List.getElem?_set_self hlen]) h3 ra fun b hb => by
        rintro rfl
        exact (List.nodup_cons.mp nd2).1 hb
      rw [List.set_set] at s3
      refine ⟨a, xs1, u, rfl, rfl, h3, by rw [h4.length]; exact cl, c.nx σ _ _ B q s3 ?_ p⟩
      have st2 := st.perm ((p1.append_left T).trans pp)
      have st3 : Step F H B H1 := st2.perm p3.symm
      refine ⟨fun b o nb eb => ?_, st3.nd, st3.sub⟩
      have hb1 := st3.keep b o nb eb
      by_cases z : b = a
      · subst z
        rcases st2.sub b (by simp) with y | y
        · exact absurd y nb
        · rw [eb] at y; cases y
      · rw [upd_ne z]
        exact hb1
end
/-! ### lent lists; further changes -/
section
variable {K : PySem.W.Frag} {H H' H1 H2 : Hp} {F F1 F2 S T A G G1 G2 : List Addr} {σ : L2.St} {ρ ρ1 ρ2 : Rho} {d e : D} {v : V} {i j n : Nat} {M : List Nat} {w : Nat → V} {De : DEnds} {t u tb : TS} {te ta tv ti : TE} {tt : TT} {g : TG} {ar : TA} {wi : TI} {vs : List Nat} {Qd : D → Rho → Prop}
theorem rep_lst0 {ds : List D} (rx : Rep K H v (.lst ds) S) : ∃ a xs T, v = .ref a ∧ RepA K H xs ds T ∧ SqL K H a xs := rep_l (.lst _) rx
theorem e_lcV {ds : List D} (hw : CW g vs) (hj : j ∉ vs) (e0 : ρ[j]? = some (some (.lst ds))) (im : immA ds = true) (h : ∃ Pv : Nat → List D → Rho → Prop, Pv 0 [] (wipeR ρ vs) ∧ (∀ i acc ρ1, Pv i acc ρ1 → ρ1[j]? = some (some (.lst ds))) ∧
  (∀ i acc ρ1, i < ds.length → Pv i acc ρ1 → DG K [] g (atD ds i) ρ1 fun ρ2 => DT K tt ρ2 fun b ρ3 => if b = true then DE K te ρ3 fun x ρ4 => acc.length < sizeLine ∧ Pv (i + 1) (acc ++ [x]) (wipeR ρ4 vs) else Pv (i + 1) acc (wipeR ρ3 vs)) ∧
  (∀ acc ρ1, Pv ds.length acc ρ1 → Qd (.lst acc) (wipeB ρ1 vs))) : DE K (tLc (iU K (tVar j)) g tt te vs) ρ Qd := fun σ H F Q s n k => by
  obtain ⟨Pv, h0, hjv, hs, hd⟩ := h
  obtain ⟨v0, S0, A0, hv0, r0, s0, p0⟩ := s.out e0
  obtain ⟨a, xs0, T0, rfl, ra0, sq0⟩ := rep_lst0 r0
  refine ⟨_, hv0, .inl ⟨a, rfl, ⟨xs0, sq0⟩, ?_⟩⟩
  have st : Step F H F H := .refl n
  have s1 := s
  let N := ds.length
  let it := atD ds
  have wk : ∀ i H2 F2 ρ2 acc, Pv i acc ρ2 → Sl K H2 (wipe σ vs) ρ2 F2 → (i < N → (Itl K a).go i H2 ∧ ∀ x H', (Itl K a).yld i H2 x H' → Keep [] H2 H' ∧ Rep K H' x (it i) []) ∧ (N ≤ i → (Itl K a).stop i H2) := fun i H2 F2 ρ2 acc hp s2 => by
    obtain ⟨v4, S4, A4, hv4, r4, s4, p4⟩ := s2.out (hjv i acc ρ2 hp)
    rw [wipe_out hj, hv0] at hv4
    obtain rfl : V.ref a = v4 := by simpa using hv4
    obtain ⟨a', ys, T, e1, ra, sq⟩ := rep_lst0 r4
    cases e1
    obtain rfl := RepA.imm_nil _ _ _ ra im
    have ly := ra.length
    refine ⟨fun hi => ⟨⟨ys, ys[i]'(by rw [ly]; exact hi), sq, by simp⟩, fun x H' y => ?_⟩, fun hi => ⟨ys, sq, by rw [ly]; exact hi⟩⟩
    obtain ⟨rfl, y⟩ := y
    exact ⟨.refl _, item_at ra im (y ys sq)⟩
  intro Dd hD
  have mD : ∀ a ∈ F, Mu (H a) := s1.mut
  -- at turn i: the list at Dd, the rest aside
  refine ⟨fun i m H2 => m = N - i ∧ i ≤ N ∧ ∃ acc xs Sa ρ2 F2, Pv i acc ρ2 ∧ H2 Dd = some (.lst xs) ∧ RepA K H2 xs acc Sa ∧ Sl K H2 (wipe σ vs) ρ2 F2 ∧ Step F H ((Dd :: Sa) ++ F2) H2, ?_, ?_⟩
  · obtain ⟨A, s2, h2⟩ := s1.wipe vs
    have k0 : Keep [] H (upd H Dd (.lst [])) := .new hD
    refine ⟨_, rfl, Nat.zero_le _, [], [], [], _, A, h0, upd_same, .nil, s2.mono k0 (by simp) (by simp), ?_⟩
    have := Step.new (o := .lst []) st.nd mD hD
    exact this.subl (h2.cons_cons Dd)
  · rintro i m H2 ⟨rfl, hi, acc, xs, Sa, ρ2, F2, hp, hx, ra, s2, st2⟩
    have stw : Step F H F2 H2 := st2.subl (List.sublist_append_right ..)
    have rD : Rep K H2 (.ref Dd) (.lst acc) (Dd :: Sa) := .lst hx ra
    by_cases hlt : i < N
    · obtain ⟨go, yl⟩ := (wk i H2 F2 ρ2 acc hp s2).1 hlt
      refine .inr ⟨go, fun H' => ∃ m', m' = N - (i + 1) ∧ i + 1 ≤ N ∧ ∃ acc xs Sa ρ2 F2, Pv (i + 1) acc ρ2 ∧ H' Dd = some (.lst xs) ∧ RepA K H' xs acc Sa ∧ Sl K H' (wipe σ vs) ρ2 F2 ∧ Step F H ((Dd :: Sa) ++ F2) H', fun H' ⟨m', e1, e2⟩ => ⟨m', by omega, e1, e2⟩, fun x H' y => ?_⟩
      obtain ⟨kk, rx⟩ := yl x H' y
      have s3 := s2.mono kk (by simp) (by simp)
      have rD3 := Rep.mono kk (by simp) _ _ _ rD (by simp)
      have st3 : Step F H ((Dd :: Sa) ++ F2) H' := ⟨fun a o na e => kk a o (by simp) (st2.keep a o na e), st2.nd, st2.sub⟩
      refine hw _ _ _ _ (hs i acc ρ2 hlt hp (fun _ => .non) _ H' F2 x [] _ rx s3 stw.nd (fun _ h => by cases h) fun σ4 ρ4 F4 q4 s4 n4 h4 p4 hwp => ?_)
      have h4 : ∀ a ∈ F4, a ∈ F2 := by simpa using h4
      have st4 : Step F H ((Dd :: Sa) ++ F4) H' := st3.within (by
        obtain ⟨z1, z2, z3⟩ := List.nodup_append.mp st3.nd
        exact List.nodup_append.mpr ⟨z1, n4, fun a ha b hb => z3 a ha b (h4 b hb)⟩) fun a ha => by
          rcases List.mem_append.mp ha with z | z
          · exact List.mem_append_left _ z
          · exact List.mem_append_right _ (h4 a z)
      refine q4 σ4 H' F4 _ s4 n4 fun b ρ5 H5 F5 q5 s5 st5 => ?_
      have rD5 := Rep.mono st5.keep s4.mut _ _ _ rD3 st4.far
      have st5' := st4.aside (Rep.mut _ _ _ rD3) st5
      have again : ∀ {acc xs Sa ρ6 F6 H6}, Pv (i + 1) acc (wipeR ρ6 vs) → H6 Dd = some (.lst xs) → RepA K H6 xs acc Sa → Sl K H6 σ4 ρ6 F6 → Step F H ((Dd :: Sa) ++ F6) H6 → ∃ m', m' = N - (i + 1) ∧ i + 1 ≤ N ∧ ∃ acc xs Sa ρ2 F2, Pv (i + 1) acc ρ2 ∧ H6 Dd = some (.lst xs) ∧ RepA K H6 xs acc Sa ∧ Sl K H6 (wipe σ vs) ρ2 F2 ∧ Step F H ((Dd :: Sa) ++ F2) H6 := fun {acc xs Sa ρ6 F6 H6} hp hx ra s6 st6 => by
        obtain ⟨A, s7, h7⟩ := s6.wipe vs
        rw [hwp] at s7
        exact ⟨_, rfl, hlt, acc, xs, Sa, _, A, hp, hx, ra, s7, st6.subl (h7.append_left _)⟩
      cases b with
      | false =>
        cases rD5 with
        | lst hx5 ra5 => exact again q5 hx5 ra5 s5 st5'
      | true =>
        refine q5 σ4 H5 F5 _ s5 st5.nd fun v ρd ρ6 H6 S6 F6 q6 r6 s6 st6 => ?_
        have rD6 := Rep.mono st6.keep s5.mut _ _ _ rD5 st5'.far
        have st6' := st5'.aside (Rep.mut _ _ _ rD5) st6
        cases rD6 with
        | @lst _ xs6 _ _ hx6 ra6 =>
          obtain ⟨ql, q6⟩ := q6
          refine ⟨xs6, hx6, by rw [ra6.length]; exact ql, ?_⟩
          -- the item behind
          have nd6 := st6'.nd
          have farD : ∀ a ∈ Sa ++ (S6 ++ F6), a ∉ [Dd] := fun a ha hb => by
            obtain rfl : a = Dd := by simpa using hb
            exact (List.nodup_cons.mp (show (a :: (Sa ++ (S6 ++ F6))).Nodup by simpa using nd6)).1 ha
          have k7 : Keep [Dd] H6 (upd H6 Dd (.lst (xs6 ++ [v]))) := (Keep.refl _).put (.inl (by simp))
          have m7 : ∀ a ∈ [Dd], Mu (H6 a) := fun a ha => by
            obtain rfl : a = Dd := by simpa using ha
            rw [hx6]
            trivial
          have ra7 := RepA.mono k7 m7 _ _ _ ra6 fun a ha => farD a (List.mem_append_left _ ha)
          have r7 := Rep.mono k7 m7 _ _ _ r6 fun a ha => farD a (List.mem_append_right _ (List.mem_append_left _ ha))
          have s7 := s6.mono k7 m7 fun a ha => farD a (List.mem_append_right _ (List.mem_append_right _ ha))
          have ra8 := ra7.append (.cons r7 .nil)
          rw [List.append_nil] at ra8
          refine again q6 upd_same ra8 s7 ⟨fun a o na e => ?_, ?_, fun a ha => st6'.sub a ?_⟩
          · refine k7 a o ?_ (st6'.keep a o na e)
            intro z
            obtain rfl : a = Dd := by simpa using z
            rcases st6'.sub a (by simp) with y | y
            · exact na y
            · rw [e] at y; cases y
          · simpa using nd6
          · simpa using ha
    · have eN : i = ds.length := by have : i ≤ ds.length := hi; have : ¬ i < ds.length := hlt; omega
      subst eN
      refine .inl ⟨(wk _ H2 F2 ρ2 acc hp s2).2 (Nat.le_refl _), ?_⟩
      obtain ⟨A, s3, h3⟩ := s2.unwipe
      exact k (.ref Dd) (.lst acc) _ H2 (Dd :: Sa) A (hd acc ρ2 hp) rD s3 (st.trans (st2.subl (h3.append_left _)))

end
section
variable {K : PySem.W.Frag} {H H' H1 H2 : Hp} {F F1 F2 S T A G G1 G2 : List Addr} {σ : L2.St} {ρ ρ1 ρ2 : Rho} {d e : D} {v : V} {i j n : Nat} {M : List Nat} {w : Nat → V} {De : DEnds} {t u tb : TS} {te ta tv ti : TE} {tt : TT} {g : TG} {ar : TA} {wi : TI} {vs : List Nat} {Qd : D → Rho → Prop} {Qb : D → Prop}
/-- the list in the slot i, and what changes it -/
theorem slot_at {ds : List D} (s : Sl K H σ ρ F) (n : F.Nodup) (e : ρ[i]? = some (some (.lst ds))) : ∃ a xs S A, σ[i]? = some (some (.ref a)) ∧ H a = some (.lst xs) ∧ RepA K H xs ds S ∧ F.Perm ((a :: S) ++ A) ∧ Sl K H σ (ρ.set i none) A ∧
    ∀ (xs' : List V) (ds' : List D) (S' T B : List Addr) (H' : Hp), RepA K H' xs' ds' S' → Sl K H' σ (ρ.set i none) A → H' a = some (.lst xs) → (∀ b ∈ S' ++ A, b ≠ a) → ∃ B, Sl K (upd H' a (.lst xs')) σ (ρ.set i (some (.lst ds'))) B ∧ B.Perm ((a :: S') ++ A) := by
  obtain ⟨v, S0, A, hv, r, s2, p⟩ := s.out e
  cases r with
  | @lst a xs _ S h1 h2 =>
    refine ⟨a, xs, S, A, hv, h1, h2, p, s2, fun xs' ds' S' T B H' ra s3 ha far => ?_⟩
    obtain ⟨B, s4, p4⟩ := slot_put (xs' := xs') s3 hv (by rw [List.getElem?_set_self (List.getElem?_eq_some_iff.mp e).1]) ha ra far
    rw [List.set_set] at s4
    exact ⟨B, s4, p4⟩
theorem step_upd {a : Addr} {o : HO} (st : Step F H G H1) (ha : a ∈ G) : Step F H G (upd H1 a o) := ⟨fun b u nb eb => by
  have hb1 := st.keep b u nb eb
  by_cases z : b = a
  · subst z
    rcases st.sub b ha with y | y
    · exact absurd y nb
    · rw [eb] at y; cases y
  · rw [upd_ne z]
    exact hb1, st.nd, st.sub⟩
theorem s_ext {ds0 : List D} (e0 : ρ[i]? = some (some (.lst ds0))) (h : DE K te ρ fun x ρ1 => ∃ ds es, x = .lst es ∧ ρ1[i]? = some (some (.lst ds)) ∧ ds.length + es.length ≤ sizeLine ∧ De.nx (ρ1.set i (some (.lst (ds ++ es))))) :
    DS K M (tDrop (tBM K "list" rExtend (tVar i) (tCons te tNil))) ρ De := fun w σ H F D s n p c => by
  obtain ⟨v0, S0, A0, hv0, r0, s0, p0⟩ := s.out e0
  cases r0 with
  | @lst a xs0 _ S0 h1 h2 =>
    refine i_drop (i_extend ⟨_, hv0, ty_lst h1, h σ H F _ s n fun u x ρ1 H1 T F1 q rx s1 st => ?_⟩)
    obtain ⟨ds, es, rfl, e1, cl, q⟩ := q
    cases rx with
    | @lst b ys _ T g1 g2 =>
      obtain ⟨v1, S1, A1, hv1, r1, s2, p1⟩ := s1.out e1
      rw [hv0] at hv1
      obtain rfl : V.ref a = v1 := by simpa using hv1
      cases r1 with
      | @lst _ xs1 _ S1 h3 h4 =>
        have hlen : i < ρ1.length := (List.getElem?_eq_some_iff.mp e1).1
        have st0 : Step F H (T ++ F1) H1 := st.subl (List.sublist_cons_self ..)
        have nd := (st0.perm (p1.append_left T)).nd
        have pp : (T ++ ((a :: S1) ++ A1)).Perm (a :: ((S1 ++ T) ++ A1)) := by
          refine (List.perm_append_comm).trans ?_
          show (a :: (S1 ++ A1 ++ T)).Perm _
          refine List.Perm.cons a ?_
          rw [List.append_assoc, List.append_assoc]
          exact List.perm_append_comm.append_left S1
        have nd2 := pp.nodup_iff.mp nd
        have ra := h4.append g2
        obtain ⟨B, s3, p3⟩ := slot_put (xs' := xs1 ++ ys) (ds' := ds ++ es) s2 hv0 (by rw [List.getElem?_set_self hlen]) h3 ra fun b hb => by
          rintro rfl
          exact (List.nodup_cons.mp nd2).1 hb
        rw [List.set_set] at s3
        refine ⟨a, b, xs1, ys, rfl, rfl, h3, g1, by rw [h4.length, g2.length]; exact cl, c.nx σ _ _ B q s3 ?_ p⟩
        exact step_upd ((st0.perm ((p1.append_left T).trans pp)).perm p3.symm) (p3.mem_iff.mpr (by simp))
/-- xs[k] = e, xs a slot -/
theorem s_setL {ds0 : List D} (e0 : ρ[i]? = some (some (.lst ds0))) (hi : DE K te ρ fun x ρ1 => DB K ti ρ1 fun kd => ∃ ds k j, kd = .int k ∧ ρ1[i]? = some (some (.lst ds)) ∧ ixN ds.length k = some j ∧ De.nx (ρ1.set i (some (.lst (ds.set j x))))) :
    DS K M (tAsg te (gSub (tVar i) ti rSetL)) ρ De := fun w σ H F D0 s n p c => by
  obtain ⟨v0, _, _, hv0, _⟩ := s.out e0
  refine hi σ H F _ s n fun u x ρ1 H1 T F1 hq rx s1 st => ?_
  have n1 := (List.nodup_append.mp st.nd).2.1
  refine i_gSub ?_
  -- the slot first, then the subscript
  have key : ∀ (kv : V) (kd : D), Rep K H1 kv kd [] → (∃ ds k j, kd = .int k ∧ ρ1[i]? = some (some (.lst ds)) ∧ ixN ds.length k = some j ∧ De.nx (ρ1.set i (some (.lst (ds.set j x))))) → ∃ a, σ[i]? = some (some (.ref a)) ∧ rSetL (.ref a) kv u H1 fun H3 => D0.nx σ H3 := fun kv kd rk q => by
    obtain ⟨ds, k, jj, rfl, e1, e2, q⟩ := q
    cases rk
    obtain ⟨v1, S1, A1, hv1, r1, s2, p1⟩ := s1.out e1
    cases r1 with
    | @lst a xs1 _ S1 h3 h4 =>
      have hlen : i < ρ1.length := (List.getElem?_eq_some_iff.mp e1).1
      have hj : jj < ds.length := by
        unfold ixN at e2
        split at e2
        · split at e2
          · cases e2; omega
          · cases e2
        · split at e2
          · cases e2; omega
          · cases e2
      obtain ⟨u0, T0, B0, g1, g2, g3, g4⟩ := h4.at_ (List.getElem?_eq_getElem hj)
      obtain ⟨S', ra, p5⟩ := g4 H1 u x T (fun e u U r _ => r) rx
      have pp : (T ++ F1).Perm (a :: (T ++ (T0 ++ B0 ++ A1))) := by
        refine ((p1.trans ((g3.append_right A1).cons a)).append_left T).trans ?_
        exact (List.perm_middle)
      have nd2 := pp.nodup_iff.mp st.nd
      have sub1 : ∀ b ∈ S' ++ A1, b ∈ T ++ (T0 ++ B0 ++ A1) := fun b hb => by
        rcases List.mem_append.mp hb with z | z
        · rcases List.mem_append.mp (p5.mem_iff.mp z) with y | y
          · exact List.mem_append_left _ y
          · simp [y]
        · simp [z]
      obtain ⟨B, s3, p3⟩ := slot_put (xs' := xs1.set jj u) (ds' := ds.set jj x) s2 hv1 (by rw [List.getElem?_set_self hlen]) h3 ra fun b hb => by
        rintro rfl
        exact (List.nodup_cons.mp nd2).1 (sub1 b hb)
      rw [List.set_set] at s3
      refine ⟨a, hv1, i_setL (j := jj) h3 (by rw [h4.length]; exact e2) (c.nx σ _ _ B q s3 ?_ p)⟩
      have st2 := st.perm pp
      have hB : B.Perm (a :: (T ++ (B0 ++ A1))) := by
        refine p3.trans ?_
        show (a :: (S' ++ A1)).Perm _
        rw [← List.append_assoc]
        exact (p5.append_right A1).cons a
      have sl : (a :: (T ++ (B0 ++ A1))).Sublist (a :: (T ++ (T0 ++ B0 ++ A1))) := by
        refine List.Sublist.cons_cons a (List.Sublist.append_left ?_ T)
        rw [List.append_assoc]
        exact List.sublist_append_right ..
      exact step_upd ((st2.subl sl).perm hB.symm) (hB.mem_iff.mpr (by simp))
  refine ⟨v0, hv0, hq σ H1 F1 _ s1 n1 fun kv kd S q rk _ => ?_⟩
  have hS : S = [] := by
    obtain ⟨_, _, _, rfl, _⟩ := q
    cases rk
    rfl
  subst hS
  obtain ⟨a, hv1, r⟩ := key kv kd rk q
  rw [hv0] at hv1
  obtain rfl : v0 = .ref a := by simpa using hv1
  exact r
/-- targets of several names -/
def DGs (K : PySem.W.Frag) (M : List Nat) (g : TGs) (ds : List D) (ρ : Rho) (R : Rho → Prop) : Prop := ∀ (w : Nat → V) (σ : L2.St) (H : Hp) (F : List Addr) (vs : List V) (Q : L2.St → Hp → Prop), RepA K H vs ds [] → Sl K H σ ρ F → F.Nodup → Pin M w σ →
  (∀ σ' ρ' F', R ρ' → Sl K H σ' ρ' F' → F'.Nodup → (∀ a ∈ F', a ∈ F) → Pin M w σ' → Q σ' H) → g vs σ H Q
theorem g_nil {R : Rho → Prop} (h : R ρ) : DGs K M gNil [] ρ R := fun w σ H F vs Q ra s nd p k => by
  cases ra
  exact ⟨rfl, k σ ρ F h s nd (fun _ h => h) p⟩
theorem repA_cons0 {ds : List D} {vs : List V} (ra : RepA K H vs (d :: ds) []) : ∃ v us, vs = v :: us ∧ Rep K H v d [] ∧ RepA K H us ds [] := by
  generalize hT : ([] : List Addr) = T at ra
  cases ra with
  | cons r1 r2 =>
    obtain ⟨rfl, rfl⟩ := List.append_eq_nil_iff.mp hT.symm
    exact ⟨_, _, rfl, r1, r2⟩
theorem g_cons {R : Rho → Prop} {gs : TGs} {ds : List D} (h : DG K M g d ρ fun ρ1 => DGs K M gs ds ρ1 R) : DGs K M (gCons g gs) (d :: ds) ρ R := fun w σ H F vs Q ra s nd p k => by
  obtain ⟨v, us, rfl, r1, r2⟩ := repA_cons0 ra
  refine ⟨v, us, rfl, h w σ H F v [] _ r1 s nd p fun σ' ρ' F' q s' n' h' p' => ?_⟩
  exact q w σ' H F' us _ r2 s' n' p' fun σ2 ρ2 F2 q2 s2 n2 h2 p2 => k σ2 ρ2 F2 q2 s2 n2 (fun a ha => by simpa using h' a (h2 a ha)) p2
theorem g_tup {R : Rho → Prop} {gs : TGs} {ds : List D} {m : Nat} (hl : ds.length = m) (im : immA ds = true) (h : DGs K M gs ds ρ R) : DG K M (gTup K m gs) (.tup ds) ρ R := fun w σ H F v S Q r s nd p k => by
  cases r with
  | tup h1 h2 =>
    obtain rfl := RepA.imm_nil _ _ _ h2 im
    exact ⟨_, _, rfl, h1, by rw [h2.length]; exact hl, h w σ H F _ _ h2 s nd p fun σ' ρ' F' q s' n' h' p' => k σ' ρ' F' q s' n' (by simpa using h') p'⟩
/-- isinstance(x, T), T a built-in class -/
theorem e_pop {ds : List D} (e : ρ[i]? = some (some (.lst (ds ++ [d])))) (h : Qd d (ρ.set i (some (.lst ds)))) : DE K (tBM0 K "list" rPop (tVar i)) ρ Qd := fun σ H F Q s n k => by
  obtain ⟨v1, S1, A1, hv1, r1, s2, p1⟩ := s.out e
  cases r1 with
  | @lst a xs1 _ S1 h3 h4 =>
    have hlen : i < ρ.length := (List.getElem?_eq_some_iff.mp e).1
    refine ⟨_, hv1, ty_lst h3, ?_⟩
    have split : ∀ {ds : List D} {xs : List V} {S : List Addr}, RepA K H xs (ds ++ [d]) S → ∃ ys y S2 T2, xs = ys ++ [y] ∧ RepA K H ys ds S2 ∧ Rep K H y d T2 ∧ S = S2 ++ T2 := by
      intro ds
      induction ds with
      | nil =>
        intro xs S h
        cases h with
        | cons a b => cases b; exact ⟨[], _, [], _, rfl, .nil, a, by simp⟩
      | cons d0 ds ih =>
        intro xs S h
        cases h with
        | cons a b =>
          obtain ⟨ys, y, S2, T2, rfl, g1, g2, rfl⟩ := ih b
          exact ⟨_ :: ys, y, _ ++ S2, T2, rfl, .cons a g1, g2, by rw [List.append_assoc]⟩
    obtain ⟨ys, y, S2, T2, rfl, g1, g2, rfl⟩ := split h4
    have nd2 := p1.nodup_iff.mp n
    have na : ∀ b ∈ S2 ++ T2 ++ A1, b ≠ a := fun b hb => by
      rintro rfl
      exact (List.nodup_cons.mp nd2).1 hb
    obtain ⟨B, s3, p3⟩ := slot_put (xs' := ys) (ds' := ds) s2 hv1 (by rw [List.getElem?_set_self hlen]) h3 g1 fun b hb => na b (by
      rcases List.mem_append.mp hb with z | z <;> simp [z])
    rw [List.set_set] at s3
    refine ⟨a, ys ++ [y], y, rfl, rfl, h3, by simp, ?_⟩
    rw [List.dropLast_concat]
    have k0 : Keep [a] H (upd H a (.lst ys)) := (Keep.refl H).put (.inl (by simp))
    have m0 : ∀ b ∈ [a], Mu (H b) := fun b hb => by
      obtain rfl : b = a := by simpa using hb
      rw [h3]; trivial
    have ry := Rep.mono k0 m0 _ _ _ g2 fun b hb => by simpa using na b (by simp [hb])
    refine k y d _ _ T2 B h ry s3 ?_
    have pp : F.Perm (T2 ++ B) := by
      refine p1.trans ?_
      refine List.Perm.trans ?_ (p3.symm.append_left T2)
      show (a :: (S2 ++ T2 ++ A1)).Perm (T2 ++ (a :: (S2 ++ A1)))
      refine List.Perm.trans ?_ (List.perm_middle.symm)
      refine List.Perm.cons a ?_
      rw [← List.append_assoc]
      exact List.perm_append_comm.append_right A1
    exact (step_upd (Step.refl n) (p1.mem_iff.mpr (by simp))).perm pp
end
theorem Room.units200 {k : Nat} {A : Around} (r : Room k A) : A.units + 200 < cLine := by have := r.un; omega
theorem Room.units65 {k : Nat} {A : Around} (r : Room k A) : A.units + 65 < cLine := by have := r.un; omega
section
variable {K : PySem.W.Frag} {ρ ρ1 : Rho} {d e : D} {i j n : Nat} {M : List Nat} {De : DEnds} {t u tb : TS} {te ta tv ti : TE} {tt : TT} {g : TG} {ar : TA} {wi : TI} {vs : List Nat} {Qd : D → Rho → Prop} {Qb : D → Prop} {r : R2} {x y : Int}
theorem OpG.id' (h : OpG K r d e Qb) : OpG K r d e Qb := h
theorem rng1_ok {P : Int → Prop} (c : -(2 ^ 62) ≤ x ∧ x < 2 ^ 62) (h : P x) : ∃ z : Int, [D.int x] = [.int z] ∧ (-(2 ^ 62) ≤ z ∧ z < 2 ^ 62) ∧ P z := ⟨x, rfl, c, h⟩
theorem rng2_ok {P : Int → Int → Prop} (c : -(2 ^ 62) ≤ x ∧ x < 2 ^ 62 ∧ -(2 ^ 62) ≤ y ∧ y < 2 ^ 62) (h : P x y) : ∃ y' z : Int, [D.int x, D.int y] = [.int y', .int z] ∧ (-(2 ^ 62) ≤ y' ∧ y' < 2 ^ 62 ∧ -(2 ^ 62) ≤ z ∧ z < 2 ^ 62) ∧ P y' z := ⟨x, y, rfl, c, h⟩
theorem int_ex {P : Int → Prop} (h : P x) : ∃ z, D.int x = .int z ∧ P z := ⟨x, rfl, h⟩
theorem lst_ok {ds : List D} {P : Prop} (c : ds.length ≤ 1000000) (h : P) : ds.length ≤ sizeLine ∧ P := ⟨small_of c, h⟩
theorem app_ok {ds : List D} {P : List D → Prop} (c : ds.length < 1000000) (h : P ds) : ∃ es, some (some (D.lst ds)) = some (some (.lst es)) ∧ es.length < sizeLine ∧ P es := ⟨ds, rfl, small_lt c, h⟩
theorem ext_ok {ds es : List D} {P : List D → List D → Prop} (c : ds.length + es.length ≤ 1000000) (h : P ds es) : ∃ ds' es', D.lst es = .lst es' ∧ some (some (D.lst ds)) = some (some (.lst ds')) ∧ ds'.length + es'.length ≤ sizeLine ∧ P ds' es' := ⟨ds, es, rfl, rfl, small_of c, h⟩
theorem Lp.of {N : Nat} {it : Nat → D} (Pv : Nat → Rho → Prop) (h0 : Pv 0 ρ) (hs : ∀ i ρ, i < N → Pv i ρ → DG K M g (it i) ρ fun ρ2 => DS K M tb ρ2 (De.lp (Pv (i + 1)))) (hd : ∀ ρ, Pv N ρ → De.nx ρ) : Lp K M N it g tb ρ De := ⟨Pv, h0, hs, hd⟩
theorem Lc.of {N : Nat} {it : Nat → D} (Pv : Nat → List D → Rho → Prop) (h0 : Pv 0 [] (wipeR ρ vs))
    (hs : ∀ i acc ρ1, i < N → Pv i acc ρ1 → DG K [] g (it i) ρ1 fun ρ2 => DT K tt ρ2 fun b ρ3 => if b = true then DE K te ρ3 fun x ρ4 => acc.length < sizeLine ∧ Pv (i + 1) (acc ++ [x]) (wipeR ρ4 vs) else Pv (i + 1) acc (wipeR ρ3 vs))
    (hd : ∀ acc ρ1, Pv N acc ρ1 → Qd (.lst acc) (wipeB ρ1 vs)) : Lc K N it g tt te vs ρ Qd := ⟨Pv, h0, hs, hd⟩
theorem e_lcN (h : DI K wi ρ fun N it ρ1 => Lc K N it (gName n) tt te [n] ρ1 Qd) : DE K (tLc wi (gName n) tt te [n]) ρ Qd := e_lc cw_name h
theorem s_retV (e : ρ[i]? = some (some d)) (h : De.rt d (ρ.set i none)) : DS K M (tRet (tVar i)) ρ De := s_ret (d_mov e h)
theorem i_DJ {A B : Prop} {c : Prop} [Decidable c] (h2 : B) (h1 : B → c → A) : if decide c = true then A else B := i_D (fun h => h1 h2 h) fun _ => h2
theorem i_DJ' {A B : Prop} {c : Prop} [Decidable c] (h2 : A) (h1 : A → ¬ c → B) : if decide c = true then A else B := i_D (fun _ => h2) fun h => h1 h2 h
theorem t_yes {QB : Bool → Rho → Prop} (h : QB true ρ) : DT K tYes ρ QB := fun σ H F Q s n k => k true ρ H F h s (.refl n)
theorem bl_ok {b : Bool} {P : Bool → Prop} (h : P b) : ∃ c, D.bl b = .bl c ∧ P c := ⟨b, rfl, h⟩
theorem bl_ok2 {b : Bool} {P : Bool → Prop} (h : P b) : ∃ k, D.bl b = .bl k ∧ P k := ⟨b, rfl, h⟩
theorem ixL {ds : List D} {k : Int} {Q : D → Prop} (e : atI ds k = some d) (h : Q d) : IxD (.lst ds) (.int k) Q := ix_sq (.lst _) e h
theorem ixR {ds : List D} {k : Int} {Q : D → Prop} (e : atI ds k = some d) (h : Q d) : IxD (.rol ds) (.int k) Q := ix_sq (.rol _) e h
theorem ixT {ds : List D} {k : Int} {Q : D → Prop} (e : atI ds k = some d) (h : Q d) : IxD (.tup ds) (.int k) Q := ix_sq (.tup _) e h
theorem ixK {ns : List Int} {k : Int} {Q : D → Prop} (e : atI (ns.map D.int) k = some d) (h : Q d) : IxD (.key ns) (.int k) Q := ix_sq (.key _) e h
theorem imm_ok {P : Prop} (m : d.imm = true) (h : P) : d.imm = true ∧ P := ⟨m, h⟩
theorem atI_mapD {α : Type} {f : α → D} {ns : List α} {j : Nat} (h : j < ns.length) : atI (ns.map f) (j : Int) = some (f (ns[j]'h)) := atI_nat (by simp [h])
end
theorem CbN.id' {K : PySem.W.Frag} {rc : List V → Hp → VK → Prop} {d : D} {Q : D → Prop} (h : CbN K rc d Q) : CbN K rc d Q := h
/-! ### calls with several lent arguments -/
inductive RepL (K : PySem.W.Frag) (H : Hp) (σ : L2.St) : List V → List (D ⊕ Nat) → List Addr → Prop
  | nil : RepL K H σ [] [] []
  | val {v : V} {vs : List V} {d : D} {as : List (D ⊕ Nat)} {S T : List Addr} : Rep K H v d S → RepL K H σ vs as T → RepL K H σ (v :: vs) (.inl d :: as) (S ++ T)
  | lent {v : V} {vs : List V} {i : Nat} {as : List (D ⊕ Nat)} {T : List Addr} : σ[i]? = some (some v) → RepL K H σ vs as T → RepL K H σ (v :: vs) (.inr i :: as) T
def DAL (K : PySem.W.Frag) (t : TA) (ρ : Rho) (Qd : List (D ⊕ Nat) → Rho → Prop) : Prop := ∀ (σ : L2.St) (H : Hp) (F : List Addr) (Q : List V → Hp → Prop), Sl K H σ ρ F → F.Nodup →
  (∀ vs as ρ' H' S F', Qd as ρ' → RepL K H' σ vs as S → Sl K H' σ ρ' F' → Step F H (S ++ F') H' → Q vs H') → t σ H Q
/-- the lent data, out of their slots -/
def Take : Rho → List (D ⊕ Nat) → List D → Rho → Prop
  | ρ, [], ds, ρ' => ds = [] ∧ ρ' = ρ
  | ρ, .inl d :: as, ds, ρ' => ∃ r, ds = d :: r ∧ Take ρ as r ρ'
  | ρ, .inr i :: as, ds, ρ' => ∃ x r, ds = x :: r ∧ ρ[i]? = some (some x) ∧ Take (ρ.set i none) as r ρ'
/-- and back -/
def giveR (ρ : Rho) (as : List (D ⊕ Nat)) : List Nat → List D → Rho
  | k :: M, y :: r => giveR (match as[k]? with
    | some (.inr i) => ρ.set i (some y)
    | _ => ρ) as M r
  | _, _ => ρ
section
variable {K : PySem.W.Frag} {H H' H1 H2 : Hp} {F F1 F2 S T A G G1 G2 : List Addr} {σ : L2.St} {ρ ρ1 ρ2 : Rho} {d e : D} {v : V} {i j n : Nat} {M : List Nat} {w : Nat → V} {P : SpD} {ar : TA} {ta : TE} {Qd : D → Rho → Prop} {QL : List (D ⊕ Nat) → Rho → Prop}
theorem l_nil (h : QL [] ρ) : DAL K tNil ρ QL := fun σ H F Q s n k => k [] [] ρ H [] F h .nil s (.refl n)
theorem RepL.mut {as : List (D ⊕ Nat)} {vs : List V} (h : RepL K H σ vs as S) : ∀ a ∈ S, Mu (H a) := by
  induction h with
  | nil => intro a h; cases h
  | val r _ ih =>
    intro a ha
    rcases List.mem_append.mp ha with z | z
    · exact Rep.mut _ _ _ r a z
    · exact ih a z
  | lent _ _ ih => exact ih
theorem l_cons (h : DE K ta ρ fun x ρ1 => DAL K ar ρ1 fun xs ρ2 => QL (.inl x :: xs) ρ2) : DAL K (tCons ta ar) ρ QL := fun σ H F Q s n k => h σ H F _ s n fun v x ρ1 H1 S F1 q rx s1 st =>
  q σ H1 F1 _ s1 (List.nodup_append.mp st.nd).2.1 fun vs xs ρ2 H2 T F2 q rxs s2 st2 => by
    have rx2 := Rep.mono st2.keep s1.mut _ _ _ rx st.far
    have a1 := st.aside (Rep.mut _ _ _ rx) st2
    exact k (v :: vs) (.inl x :: xs) ρ2 H2 (S ++ T) F2 q (.val rx2 rxs) s2 (by rw [List.append_assoc]; exact a1)
theorem l_lent {x0 : D} (e0 : ρ[i]? = some (some x0)) (h : DAL K ar ρ fun xs ρ2 => QL (.inr i :: xs) ρ2) : DAL K (tCons (tVar i) ar) ρ QL := fun σ H F Q s n k => by
  obtain ⟨v0, _, _, hv0, _⟩ := s.out e0
  exact ⟨v0, hv0, h σ H F _ s n fun vs xs ρ2 H2 T F2 q rxs s2 st2 => k (v0 :: vs) (.inr i :: xs) ρ2 H2 T F2 q (.lent hv0 rxs) s2 st2⟩
theorem take_rep : ∀ {as : List (D ⊕ Nat)} {vs : List V} {S F : List Addr} {ρ ρ' : Rho} {ds : List D}, RepL K H σ vs as S → Sl K H σ ρ F → Take ρ as ds ρ' → ∃ S' A, RepA K H vs ds S' ∧ Sl K H σ ρ' A ∧ (S ++ F).Perm (S' ++ A)
  | [], vs, S, F, ρ, ρ', ds, r, s, t => by
    obtain ⟨rfl, rfl⟩ := t
    cases r
    exact ⟨[], F, .nil, s, .refl _⟩
  | .inl d :: as, vs, S, F, ρ, ρ', ds, r, s, t => by
    obtain ⟨r', rfl, t⟩ := t
    cases r with
    | @val _ _ _ _ S T h1 h2 =>
      obtain ⟨S', A, g1, g2, g3⟩ := take_rep h2 s t
      refine ⟨S ++ S', A, .cons h1 g1, g2, ?_⟩
      rw [List.append_assoc, List.append_assoc]
      exact g3.append_left S
  | .inr i :: as, vs, S, F, ρ, ρ', ds, r, s, t => by
    obtain ⟨x, r', rfl, e, t⟩ := t
    cases r with
    | @lent v vs _ _ _ h1 h2 =>
      obtain ⟨u, Sx, A0, e1, rx, s2, p⟩ := s.out e
      rw [h1] at e1
      obtain rfl : v = u := by simpa using e1
      obtain ⟨S', A, g1, g2, g3⟩ := take_rep h2 s2 t
      refine ⟨Sx ++ S', A, .cons rx g1, g2, ?_⟩
      refine (p.append_left S).trans ?_
      rw [← List.append_assoc, List.append_assoc Sx]
      refine (List.perm_append_comm.append_right A0).trans ?_
      rw [List.append_assoc]
      exact g3.append_left Sx
theorem take_len : ∀ {as : List (D ⊕ Nat)} {ρ ρ' : Rho} {ds : List D}, Take ρ as ds ρ' → ρ'.length = ρ.length
  | [], _, _, _, t => by rw [t.2]
  | .inl d :: as, _, _, _, t => by
    obtain ⟨_, _, t⟩ := t
    exact take_len t
  | .inr i :: as, _, _, _, t => by
    obtain ⟨_, _, _, _, t⟩ := t
    rw [take_len t, List.length_set]
theorem take_none : ∀ {as : List (D ⊕ Nat)} {ρ ρ' : Rho} {ds : List D} {i : Nat}, Take ρ as ds ρ' → ρ[i]? = some none → ρ'[i]? = some none ∧ (.inr i : D ⊕ Nat) ∉ as
  | [], _, _, _, _, t, h => by rw [t.2]; exact ⟨h, by simp⟩
  | .inl d :: as, _, _, _, _, t, h => by
    obtain ⟨_, _, t⟩ := t
    obtain ⟨h1, h2⟩ := take_none t h
    exact ⟨h1, by simpa using h2⟩
  | .inr j :: as, ρ, _, _, i, t, h => by
    obtain ⟨x, _, _, e, t⟩ := t
    have ne : j ≠ i := by
      rintro rfl
      rw [h] at e
      simp at e
    obtain ⟨h1, h2⟩ := take_none t (i := i) (by rw [List.getElem?_set_ne ne]; exact h)
    exact ⟨h1, by simp [Ne.symm ne, h2]⟩
theorem take_lent : ∀ {as : List (D ⊕ Nat)} {ρ ρ' : Rho} {ds : List D}, Take ρ as ds ρ' → (∀ i, (.inr i : D ⊕ Nat) ∈ as → ρ'[i]? = some none) ∧ ∀ (k l i : Nat), as[k]? = some (.inr i) → as[l]? = some (.inr i) → k = l
  | [], _, _, _, t => ⟨by simp, by simp⟩
  | .inl d :: as, _, _, _, t => by
    obtain ⟨_, _, t⟩ := t
    obtain ⟨h1, h2⟩ := take_lent t
    refine ⟨fun i hi => h1 i (by simpa using hi), fun k l i hk hl => ?_⟩
    cases k with
    | zero => simp at hk
    | succ k =>
      cases l with
      | zero => simp at hl
      | succ l => rw [h2 k l i (by simpa using hk) (by simpa using hl)]
  | .inr j :: as, ρ, _, _, t => by
    obtain ⟨x, _, _, e, t⟩ := t
    have hj : j < ρ.length := (List.getElem?_eq_some_iff.mp e).1
    obtain ⟨h3, h4⟩ := take_none t (i := j) (by rw [List.getElem?_set_self hj])
    obtain ⟨h1, h2⟩ := take_lent t
    refine ⟨fun i hi => ?_, fun k l i hk hl => ?_⟩
    · rcases List.mem_cons.mp hi with z | z
      · cases z
        exact h3
      · exact h1 i z
    · cases k with
      | zero =>
        obtain rfl : j = i := by simpa using hk
        cases l with
        | zero => rfl
        | succ l => exact absurd (List.mem_of_getElem? (by simpa using hl)) h4
      | succ k =>
        cases l with
        | zero =>
          obtain rfl : j = i := by simpa using hl
          exact absurd (List.mem_of_getElem? (by simpa using hk)) h4
        | succ l => rw [h2 k l i (by simpa using hk) (by simpa using hl)]
theorem RepL.lentAt {as : List (D ⊕ Nat)} {vs : List V} (h : RepL K H σ vs as S) : ∀ {k i : Nat}, as[k]? = some (.inr i) → σ[i]? = some vs[k]? := by
  induction h with
  | nil => intro k i e; simp at e
  | val _ _ ih =>
    intro k i e
    cases k with
    | zero => simp at e
    | succ k => simpa using ih (k := k) (by simpa using e)
  | lent hv _ ih =>
    intro k i e
    cases k with
    | zero =>
      simp only [List.getElem?_cons_zero, Option.some.injEq, Sum.inr.injEq] at e
      subst e
      simpa using hv
    | succ k => simpa using ih (k := k) (by simpa using e)
theorem give_sl {as : List (D ⊕ Nat)} {vs : List V} : ∀ {M : List Nat} {r : List D} {ws : List V} {ρ : Rho} {S2 A : List Addr}, M.Nodup → ws.length = M.length → (∀ j, j < M.length → ws[j]? = vs[M.getD j 0]?) → RepA K H' ws r S2 → Sl K H' σ ρ A →
    (∀ k ∈ M, ∀ i, as[k]? = some (.inr i) → ρ[i]? = some none ∧ σ[i]? = some vs[k]?) → (∀ (k l i : Nat), as[k]? = some (.inr i) → as[l]? = some (.inr i) → k = l) → ∃ B C, Sl K H' σ (giveR ρ as M r) B ∧ (S2 ++ A).Perm (B ++ C)
  | [], r, ws, ρ, S2, A, nd, lw, hw, ra, s, h1, h2 => by
    obtain rfl : ws = [] := List.length_eq_zero_iff.mp lw
    cases ra
    exact ⟨A, [], s, by simp⟩
  | k :: M, r, ws, ρ, S2, A, nd, lw, hw, ra, s, h1, h2 => by
    cases ra with
    | nil => simp at lw
    | @cons v ws y r S3 S4 rv ra =>
      obtain ⟨n1, n2⟩ := List.nodup_cons.mp nd
      have lw' : ws.length = M.length := by simpa using lw
      have hw0 : some v = vs[k]? := by simpa using hw 0 (by simp)
      have hw' : ∀ j, j < M.length → ws[j]? = vs[M.getD j 0]? := fun j hj => by simpa using hw (j + 1) (by simpa using hj)
      cases hk : as[k]? with
      | none =>
        obtain ⟨B, C, g1, g2⟩ := give_sl (M := M) n2 lw' hw' ra s (fun l hl i e => h1 l (List.mem_cons_of_mem _ hl) i e) h2
        refine ⟨B, C ++ S3, by unfold giveR; rw [hk]; exact g1, ?_⟩
        rw [List.append_assoc, ← List.append_assoc B]
        exact List.perm_append_comm.trans (g2.append_right S3)
      | some o =>
        cases o with
        | inl d =>
          obtain ⟨B, C, g1, g2⟩ := give_sl (M := M) n2 lw' hw' ra s (fun l hl i e => h1 l (List.mem_cons_of_mem _ hl) i e) h2
          refine ⟨B, C ++ S3, by unfold giveR; rw [hk]; exact g1, ?_⟩
          rw [List.append_assoc, ← List.append_assoc B]
          exact List.perm_append_comm.trans (g2.append_right S3)
        | inr i =>
          obtain ⟨z1, z2⟩ := h1 k (List.mem_cons_self ..) i hk
          rw [← hw0] at z2
          obtain ⟨A', s2, p2⟩ := s.inn (d := y) z1 z2 rv
          obtain ⟨B, C, g1, g2⟩ := give_sl (M := M) (ρ := ρ.set i (some y)) n2 lw' hw' ra s2 (fun l hl i' e => by
            obtain ⟨y1, y2⟩ := h1 l (List.mem_cons_of_mem _ hl) i' e
            have ne : i ≠ i' := by
              rintro rfl
              exact n1 (by rw [h2 k l i hk e]; exact hl)
            exact ⟨by rw [List.getElem?_set_ne ne]; exact y1, y2⟩) h2
          refine ⟨B, C, by unfold giveR; rw [hk]; exact g1, ?_⟩
          refine List.Perm.trans ?_ g2
          refine List.Perm.trans ?_ (p2.symm.append_left S4)
          rw [← List.append_assoc]
          exact (List.perm_append_comm).append_right A
theorem d_callL {E : XK} (hM : M.Nodup) (h : DAL K ar ρ fun as ρ1 => ∃ ds ρ2, Take ρ1 as ds ρ2 ∧ P ds fun d r => Qd d (giveR ρ2 as M r)) : DE K (tCall (spD K M P) [] E ar) ρ Qd := fun σ H F Q s n k => by
  refine i_call (h σ H F _ s n fun vs as ρ1 H1 S F1 q ra s1 st => ?_)
  obtain ⟨ds, ρ2, tk, q⟩ := q
  obtain ⟨S', A, g1, g2, g3⟩ := take_rep ra s1 tk
  have st1 := st.perm g3
  obtain ⟨l1, l2⟩ := take_lent tk
  refine ⟨ds, S', _, g1, (List.nodup_append.mp st1.nd).1, q, fun v d r ws H' S1 S2 q rv lw hw rw' st2 => ?_⟩
  have mS : ∀ a ∈ S', Mu (H1 a) := RepA.mut _ _ _ g1
  have s2 := g2.mono st2.keep mS fun a ha hb => st1.far a hb ha
  obtain ⟨B, C, s3, p3⟩ := give_sl (σ := σ) (as := as) (vs := vs) hM lw hw rw' s2 (fun k hk i e => ⟨l1 i (List.mem_of_getElem? e), ra.lentAt e⟩) l2
  refine k v d _ H' S1 B q rv s3 ?_
  have st3 := (st1.perm List.perm_append_comm).aside g2.mut st2
  have pp : (A ++ (S1 ++ S2)).Perm ((S1 ++ B) ++ C) := by
    refine List.perm_append_comm.trans ?_
    rw [List.append_assoc, List.append_assoc]
    exact p3.append_left S1
  exact (st3.perm pp).subl (List.sublist_append_left ..)
theorem slot_ok {P : D → Prop} (e : ρ[i]? = some (some d)) (h : P d) : ∃ x, ρ[i]? = some (some x) ∧ P x := ⟨d, e, h⟩
theorem take_nil {P : List D → Rho → Prop} (h : P [] ρ) : ∃ ds ρ2, Take ρ [] ds ρ2 ∧ P ds ρ2 := ⟨[], ρ, ⟨rfl, rfl⟩, h⟩
theorem take_inl {as : List (D ⊕ Nat)} {P : List D → Rho → Prop} (h : ∃ ds ρ2, Take ρ as ds ρ2 ∧ P (d :: ds) ρ2) : ∃ ds ρ2, Take ρ (.inl d :: as) ds ρ2 ∧ P ds ρ2 := by
  obtain ⟨ds, ρ2, h1, h2⟩ := h
  exact ⟨d :: ds, ρ2, ⟨ds, rfl, h1⟩, h2⟩
theorem take_inr {as : List (D ⊕ Nat)} {P : List D → Rho → Prop} (e : ρ[i]? = some (some d)) (h : ∃ ds ρ2, Take (ρ.set i none) as ds ρ2 ∧ P (d :: ds) ρ2) : ∃ ds ρ2, Take ρ (.inr i :: as) ds ρ2 ∧ P ds ρ2 := by
  obtain ⟨ds, ρ2, h1, h2⟩ := h
  exact ⟨d :: ds, ρ2, ⟨d, ds, rfl, e, h1⟩, h2⟩
theorem s_asgT {De : DEnds} {m : Nat} {gs : TGs} (h : DE K ta ρ fun x ρ1 => DG K M (gTup K m gs) x ρ1 De.nx) : DS K M (tAsg ta (gTup K m gs)) ρ De := s_asgG h
end
section
variable {K : PySem.W.Frag} {H H' H1 H2 : Hp} {F F1 F2 S T A G G1 G2 : List Addr} {σ : L2.St} {ρ ρ1 ρ2 : Rho} {d e : D} {v : V} {i j n : Nat} {M : List Nat} {w : Nat → V} {De : DEnds} {D0 : Ends} {t u tb : TS} {te ta tv : TE} {tt : TT} {g : TG} {ar : TA} {Qd : D → Rho → Prop}
/-- a list in a slot that is walked in its place -/
theorem s_forV {ds : List D} (e : ρ[j]? = some (some (.lst ds))) (im : immA ds = true)
    (h : ∃ Pv : Nat → Rho → Prop, Pv 0 ρ ∧ (∀ i ρ1, Pv i ρ1 → ρ1[j]? = some (some (.lst ds))) ∧
      (∀ i ρ1, i < ds.length → Pv i ρ1 → DG K (j :: M) g (atD ds i) ρ1 fun ρ2 => DS K (j :: M) tb ρ2 (De.lp (Pv (i + 1)))) ∧ (∀ ρ1, Pv ds.length ρ1 → De.nx ρ1)) :
    DS K M (tFor (iU K (tVar j)) g tb) ρ De := fun w σ H F D s n p c => by
  obtain ⟨Pv, h0, hj, hs, hd⟩ := h
  obtain ⟨v, S, A, hv, r0, s0, p0⟩ := s.out e
  cases r0 with
  | @lst a xs _ S hq ha =>
    obtain rfl := RepA.imm_nil _ _ _ ha im
    have el := ha.length
    let w' : Nat → V := fun i => if i = j then .ref a else w i
    have p' : Pin (j :: M) w' σ := fun i hi => by
      show σ[i]? = some (some (if i = j then .ref a else w i))
      by_cases z : i = j
      · rw [if_pos z, z]; exact hv
      · rw [if_neg z]
        exact p i ((List.mem_cons.mp hi).resolve_left z)
    have back : ∀ σ', Pin (j :: M) w' σ' → Pin M w σ' := fun σ' q i hi => by
      have z := q i (List.mem_cons_of_mem _ hi)
      have z : σ'[i]? = some (some (if i = j then .ref a else w i)) := z
      by_cases y : i = j
      · rw [if_pos y, y] at z
        have z2 := p i hi
        rw [y, hv] at z2
        rw [y, z]
        exact z2
      · rw [if_neg y] at z
        exact z
    have c' : Cn K (j :: M) w' F H De D := ⟨fun σ' ρ' H' F' q sl st p => c.nx σ' ρ' H' F' q sl st (back σ' p), fun v d σ' ρ' H' S F' q r sl st p => c.rt v d σ' ρ' H' S F' q r sl st (back σ' p), fun σ' ρ' H' F' q sl st p => c.bk σ' ρ' H' F' q sl st (back σ' p), fun σ' ρ' H' F' q sl st p => c.ct σ' ρ' H' F' q sl st (back σ' p)⟩
    have stand : ∀ i σ2 H2, Tn K (j :: M) w' F H Pv i σ2 H2 → ∃ ys, RepA K H2 ys ds [] ∧ SqL K H2 a ys := fun i σ2 H2 hT => by
      obtain ⟨ρ3, F3, hp3, s3, st3, p3⟩ := hT
      obtain ⟨v4, S4, A4, hv4, r4, s4, p4⟩ := s3.out (hj i ρ3 hp3)
      have z := p3 j (List.mem_cons_self ..)
      rw [hv4] at z
      have z : v4 = .ref a := by
        have z : v4 = w' j := by simpa using z
        rw [z]
        exact if_pos rfl
      subst z
      cases r4 with
      | @lst _ ys _ S hq4 ha4 =>
        obtain rfl := RepA.imm_nil _ _ _ ha4 im
        exact ⟨ys, ha4, SqL.of hq4⟩
    have T0 : Tn K (j :: M) w' F H Pv 0 σ H := ⟨ρ, F, h0, s, .refl n, p'⟩
    refine i_for ?_
    refine ⟨_, hv, .inl ⟨a, rfl, ⟨xs, SqL.of hq⟩, ?_⟩⟩
    refine ⟨fun i m σ1 H2 => m = ds.length - i ∧ i ≤ ds.length ∧ Tn K (j :: M) w' F H Pv i σ1 H2, ⟨_, rfl, Nat.zero_le _, T0⟩, ?_⟩
    rintro i m σ1 H2 ⟨rfl, hi, hT⟩
    obtain ⟨ys, ra, sq⟩ := stand i σ1 H2 hT
    have ly := ra.length
    by_cases hlt : i < ds.length
    · refine .inr ⟨⟨ys, ys[i]'(by omega), sq, by simp⟩, Tn K (j :: M) w' F H Pv (i + 1), fun σ' H' q => ⟨_, by omega, rfl, hlt, q⟩, fun x H' y => ?_⟩
      obtain ⟨rfl, y⟩ := y
      have hx := y ys sq
      obtain ⟨d, e1, r1, m1⟩ := ra.item im hx
      have e2 : atD ds i = d := by unfold atD; rw [List.getD_eq_getElem?_getD, e1]; rfl
      exact turn_of hs c' hlt hT (by rw [e2]; exact r1)
    · obtain rfl : i = ds.length := by omega
      refine .inl ⟨⟨ys, sq, by omega⟩, ?_⟩
      obtain ⟨ρ2, F2, hp, s2, st2, p2⟩ := hT
      exact c'.nx σ1 ρ2 H2 F2 (hd ρ2 hp) s2 st2 p2
/-- a display of ints -/
theorem d_tupK (h : DA K ar ρ fun ds ρ1 => ds.length ≤ sizeLine ∧ ∃ ns : List Int, ds = ns.map .int ∧ Qd (.key ns) ρ1) : DE K (tTup ar) ρ Qd := fun σ H F Q s n k => h σ H F _ s n fun vs ds ρ1 H1 S F1 q ra s1 st => by
  obtain ⟨q1, ns, rfl, q⟩ := q
  obtain ⟨rfl, rfl⟩ := repA_ints ra
  refine ⟨by simpa using q1, fun p hp => ?_⟩
  have k0 : Keep [] H1 (upd H1 p (.tup (ns.map V.int))) := .new hp
  refine k (.ref p) (.key ns) ρ1 _ [] F1 q (.key upd_same) (s1.mono k0 (by simp) (by simp)) ?_
  exact ⟨fun a o na e => k0 a o (by simp) (st.keep a o na e), st.nd, st.sub⟩
end
/-! ### values -/
inductive Val where
  | null | truth (b : Bool) | num (m e : Int) | bytes (os : List Int) | text (ps : List Int) | list (xs : List Val) | map (es : List (List Int × Val))
abbrev tI (ns : List Int) : D := .key ns
mutual
def Val.dt : Val → D
  | .null => .tup [.str "null"]
  | .truth b => .tup [.str "truth", .bl b]
  | .num m e => .tup [.str "number", .int m, .int e]
  | .bytes os => .tup [.str "bytes", .key os]
  | .text ps => .tup [.str "text", .key ps]
  | .list xs => .tup [.str "list", .tup (dtL xs)]
  | .map es => .tup [.str "map", .tup (dtM es)]
def dtL : List Val → List D
  | [] => []
  | x :: xs => x.dt :: dtL xs
def dtM : List (List Int × Val) → List D
  | [] => []
  | (k, x) :: es => .tup [.key k, x.dt] :: dtM es
end
mutual
theorem Val.imm : ∀ x : Val, x.dt.imm = true
  | .null => rfl
  | .truth b => rfl
  | .num m e => rfl
  | .bytes os => rfl
  | .text ps => rfl
  | .list xs => by simp [Val.dt, D.imm, immA, immL xs]
  | .map es => by simp [Val.dt, D.imm, immA, immM es]
theorem immL : ∀ xs : List Val, immA (dtL xs) = true
  | [] => rfl
  | x :: xs => by simp [dtL, immA, x.imm, immL xs]
theorem immM : ∀ es : List (List Int × Val), immA (dtM es) = true
  | [] => rfl
  | (k, x) :: es => by simp [dtM, immA, D.imm, x.imm, immM es]
end
/-! ### sorted of a map's entries -/
def entD (e : List Int × Val) : D := .tup [.key e.1, e.2.dt]
theorem dtM_map : ∀ es : List (List Int × Val), dtM es = es.map entD
  | [] => rfl
  | (k, x) :: es => by rw [dtM, dtM_map es]; rfl
theorem dtL_map : ∀ xs : List Val, dtL xs = xs.map Val.dt
  | [] => rfl
  | x :: xs => by rw [dtL, dtL_map xs]; rfl
theorem perm_lift {α β : Type} {f : α → β} {l' m : List β} (h : List.Perm l' m) : ∀ {l : List α}, m = l.map f → ∃ k : List α, List.Perm k l ∧ k.map f = l' := by
  induction h with
  | nil =>
    intro l e
    obtain rfl : l = [] := by simpa using e.symm
    exact ⟨[], .refl _, rfl⟩
  | cons x _ ih =>
    intro l e
    cases l with
    | nil => simp at e
    | cons a t =>
      rw [List.map_cons] at e
      obtain ⟨e1, e2⟩ := List.cons.inj e
      obtain ⟨k, h1, h2⟩ := ih e2
      exact ⟨a :: k, h1.cons a, by rw [List.map_cons, h2, e1]⟩
  | swap x y r =>
    intro l e
    match l, e with
    | a :: b :: t, e =>
      rw [List.map_cons, List.map_cons] at e
      obtain ⟨e1, e2⟩ := List.cons.inj e
      obtain ⟨e3, e4⟩ := List.cons.inj e2
      exact ⟨b :: a :: t, .swap _ _ _, by rw [List.map_cons, List.map_cons, e1, e3, e4]⟩
    | [a], e => simp at e
    | [], e => simp at e
  | trans _ _ ih1 ih2 =>
    intro l e
    obtain ⟨k, h1, h2⟩ := ih2 e
    obtain ⟨k2, h3, h4⟩ := ih1 h2.symm
    exact ⟨k2, h3.trans h1, h4⟩
section
variable {K : PySem.W.Frag} {H : Hp} {Qb : D → Prop}
theorem repM_zip : ∀ {es : List (List Int × Val)} {xs : List V}, RepA K H xs (dtM es) [] → ∃ T : List (V × (List Int × Val)), T.map (·.1) = xs ∧ T.map (·.2) = es ∧ ∀ t ∈ T, Rep K H t.1 (entD t.2) []
  | [], xs, h => by
    cases h
    exact ⟨[], rfl, rfl, by simp⟩
  | (k, x) :: es, xs, h => by
    obtain ⟨v, us, rfl, h1, h2⟩ := repA_cons0 h
    obtain ⟨T, h3, h4, h5⟩ := repM_zip h2
    exact ⟨(v, (k, x)) :: T, by simp [h3], by simp [h4], fun t ht => by
      rcases List.mem_cons.mp ht with rfl | ht
      · exact h1
      · exact h5 t ht⟩
theorem repM_of : ∀ {T : List (V × (List Int × Val))}, (∀ t ∈ T, Rep K H t.1 (entD t.2) []) → RepA K H (T.map (·.1)) (dtM (T.map (·.2))) []
  | [], _ => .nil
  | t :: T, h => .cons (S := []) (h t (List.mem_cons_self ..)) (repM_of fun s hs => h s (List.mem_cons_of_mem _ hs))
theorem ent_parts {v : V} {e : List Int × Val} (r : Rep K H v (entD e) []) : ∃ t q y, v = V.ref t ∧ SqT K H t [.ref q, y] ∧ SqT K H q (e.1.map V.int) := by
  unfold entD at r
  generalize hS : ([] : List Addr) = S at r
  cases r with
  | tup h1 h2 =>
    cases h2 with
    | cons g1 g2 =>
      cases g1 with
      | key f1 =>
        cases g2 with
        | cons g3 g4 =>
          cases g4
          exact ⟨_, _, _, rfl, h1, SqT.of f1⟩
theorem cb_sorted {es : List (List Int × Val)} (nd : (es.map (·.1)).Nodup) (h : ∀ es', List.Perm es' es → es'.Pairwise (fun e f => HT.lexLt e.1 f.1 = true) → Qb (.lst (dtM es'))) : CbN K (rSortedE K) (.lst (dtM es)) Qb := fun v S H Q rx k => by
  cases rx with
  | @lst a xs _ S h1 h2 =>
    obtain rfl := RepA.imm_nil _ _ _ h2 (immM es)
    obtain ⟨T, t1, t2, t3⟩ := repM_zip h2
    have e1 : (T.map fun t => (t.1, t.2.1)).map (·.1) = xs := by rw [List.map_map]; exact t1
    have e2 : (T.map fun t => (t.1, t.2.1)).map (·.2) = es.map (·.1) := by rw [List.map_map, ← t2, List.map_map]; rfl
    refine ⟨a, T.map fun t => (t.1, t.2.1), rfl, by rw [e1]; exact SqL.of h1, fun x hx => ?_, by rw [e2]; exact nd, fun ps' p hp hs hn => ?_⟩
    · obtain ⟨t, ht, rfl⟩ := List.mem_map.mp hx
      exact ent_parts (t3 t ht)
    · obtain ⟨T', p1, p2⟩ := perm_lift hp rfl
      have m1 : ps'.map (·.1) = T'.map (·.1) := by rw [← p2, List.map_map]; rfl
      have hr : RepA K H (T'.map (·.1)) (dtM (T'.map (·.2))) [] := repM_of fun t ht => t3 t (p1.mem_iff.mp ht)
      rw [m1]
      refine k (.ref p) _ _ [p] (h (T'.map (·.2)) (by rw [← t2]; exact p1.map _) ?_) (newL hn hr) (stepN hn)
      rw [← p2] at hs
      have hs' := List.pairwise_map.mp hs
      have nd' : (T'.map (·.2)).map (·.1) |>.Nodup := (((p1.map (·.2)).map (·.1)).nodup_iff).mpr (by rw [t2]; exact nd)
      rw [List.map_map] at nd'
      have nd2 := List.pairwise_map.mp nd'
      refine List.pairwise_map.mpr ?_
      refine (hs'.and nd2).imp fun {x y} q => ?_
      obtain ⟨q1, q2⟩ := q
      cases z : HT.lexLt x.2.1 y.2.1 with
      | true => rfl
      | false => exact absurd (lex_tot _ _ z q1) q2
/-- a row of ints in a list of such -/
theorem o_notInT {ns : List Int} {ks : List (List Int)} {neg : Bool} (h : Qb (.bl (if neg then !decide (ns ∈ ks) else decide (ns ∈ ks)))) : OpG K (rInU K neg) (tI ns) (.lst (ks.map tI)) Qb := by
  have pk : ∀ ks : List (List Int), plainA (ks.map tI) = true := fun ks => by
    induction ks with
    | nil => rfl
    | cons k ks ih => simp [plainA, D.plain, ih]
  have pyk : ∀ ks : List (List Int), pyA (ks.map tI) = ks.map fun k => PyData.tuple (k.map PyData.int) := fun ks => by
    induction ks with
    | nil => rfl
    | cons k ks ih => simp [pyA, D.py, ih]
  have dI : ∀ ns : List Int, PyData.depthAll (ns.map PyData.int) = 0 := fun ns => by
    induction ns with
    | nil => simp [PyData.depthAll]
    | cons n ns ih => simp [PyData.depthAll, PyData.depth, ih]
  have eqI : ∀ ns ms : List Int, PyData.eqvAll (ns.map PyData.int) (ms.map PyData.int) = decide (ns = ms) := fun ns => by
    induction ns with
    | nil => intro ms; cases ms <;> simp [PyData.eqvAll]
    | cons n ns ih => intro ms; cases ms <;> simp [PyData.eqvAll, PyData.eqv, ih, Bool.beq_eq_decide_eq]
  have dK : ∀ ks : List (List Int), PyData.depthAll (ks.map fun k => PyData.tuple (k.map PyData.int)) ≤ 1 := fun ks => by
    induction ks with
    | nil => simp [PyData.depthAll]
    | cons n ns ih => simp [PyData.depthAll, PyData.depth, dI]; omega
  have an : ∀ ks : List (List Int), ((ks.map fun k => PyData.tuple (k.map PyData.int)).any fun z => PyData.eqv z (PyData.tuple (ns.map PyData.int))) = decide (ns ∈ ks) := fun ks => by
    rw [List.any_map]
    induction ks with
    | nil => simp
    | cons k ks ih =>
      rw [List.any_cons, ih]
      simp only [Function.comp_apply, PyData.eqv, eqI]
      by_cases z : k = ns
      · simp [z]
      · have z' : ¬ ns = k := fun q => z q.symm
        simp [z, z']
  have p1 : (tI ns).plain = true := rfl
  have p2 : (D.lst (ks.map tI)).plain = true := by simp [D.plain, pk]
  have c1 : (tI ns).py = PyData.tuple (ns.map PyData.int) := rfl
  have c2 : (D.lst (ks.map tI)).py = PyData.list (ks.map fun k => PyData.tuple (k.map PyData.int)) := by simp [D.py, pyk]
  have s1 := shaped_py p1 (by rw [c1]; simp [PyData.depth, dI])
  have s2 := shaped_py p2 (by rw [c2]; have := dK ks; simp [PyData.depth]; omega)
  refine OpP.g fun x y S T H Q rx ry k => .inr ?_
  have d1 := Rep.dp _ _ _ rx p1
  have d2 := Rep.dp _ _ _ ry p2
  rw [c1] at d1 s1
  rw [c2] at d2 s2
  cases neg with
  | true => exact ⟨_, _, d1, d2, s1, s2, by rw [an]; exact k _ _ h (.bl _)⟩
  | false => exact ⟨_, _, d1, d2, s1, s2, by rw [an]; exact k _ _ h (.bl _)⟩
end
/-! ### sorted of rows of ints (tuples), any of them empty too -/
section
variable {prog : Program} {w : World} {A : Around} {E : Value → Shared → Prop} {s : Shared}
theorem rows_lex {Q : Bool → Shared → Prop} : ∀ {xs ys : List Value} {ns ms : List Int} (i : Nat), IntsAre xs ns → IntsAre ys ms → Q (HT.lexLt ns ms) s → PySem.W.KatLex prog w A true (decide (xs.length < ys.length)) Q (xs.zip ys) i s
  | [], [], _, _, i, h1, h2, q => by
    cases h1
    cases h2
    exact PySem.W.kat_nil q
  | [], _ :: _, _, _, i, h1, h2, q => by
    cases h1
    cases h2
    exact PySem.W.kat_nil q
  | _ :: _, [], _, _, i, h1, h2, q => by
    cases h1
    cases h2
    exact PySem.W.kat_nil q
  | x :: xs, y :: ys, ns, ms, i, h1, h2, q => by
    cases h1 with
    | @cons n t _ ns h1 =>
      cases h2 with
      | @cons m u _ ms h2 =>
        rw [HT.lexLt_cons] at q
        refine PySem.W.kat_cons (SeqAt.EqAt.int_int n t m u prog w _ _ ?_)
        refine PySem.W.kat_go (fun e => ?_) (fun e => ?_)
        · have e : n = m := by simpa using e
          rw [if_pos e] at q
          have l : (decide ((Value.int n t :: xs).length < (Value.int m u :: ys).length)) = decide (xs.length < ys.length) := by simp
          rw [l]
          exact PySem.W.kat_yes (rows_lex (i + 1) h1 h2 q)
        · have e : ¬ n = m := by simpa using e
          rw [if_neg e] at q
          refine PySem.W.kat_no ?_
          cases i with
          | zero => exact oneLt_int q
          | succ i => exact PySem.W.kat_one _ _ (PyProof.Rows.lt_int q)
/-- a row of ints stands at v -/
def IsRow (h : Heap) (v : Value) (ns : List Int) : Prop := TS.TupInts h v ns
/-- the first items, if there are -/
theorem row_firsts : ∀ {vs : List Value} {k : Value → List Int} {Q : List (Option Value) → Shared → Prop}, (∀ v ∈ vs, IsRow s.heap v (k v)) →
    (∀ os : List (Option Value), os.length = vs.length → (∀ j (hj : j < os.length) (hv : j < vs.length), (os[j] = none ∧ k vs[j] = []) ∨ ∃ n t, os[j] = some (.int n t) ∧ k vs[j] ≠ []) → Q os s) → wpAny (model prog w) A (vs.mapM firstOfTuple') Q E s
  | [], _, _, _, q => by rw [List.mapM_nil]; exact wpAny_pure (q [] rfl (by simp))
  | v :: vs, k, Q, h, q => by
    rw [List.mapM_cons]
    refine wpAny_bind ?_
    rw [PySem.W.kas_first_eq]
    obtain ⟨a, xs, e, ⟨o, ho, hc, n, hd⟩, hi⟩ := h v (List.mem_cons_self ..)
    subst e
    refine wpAny_bind (PySem.W.Looks.here (show PySem.W.Looks (model prog w) s.heap (typeOf (.ref a)) o.cls from (PySem.W.Looks.ld ho).andThen .now) ?_)
    rw [hc, if_neg (by first | decide | simp)]
    refine wpAny_bind (listItems_at ho hd (wpAny_pure ?_))
    refine wpAny_bind (row_firsts (k := k) (Q := fun bs s' => wpAny (model prog w) A (pure (xs[0]? :: bs)) Q E s') (fun u hu => h u (List.mem_cons_of_mem _ hu)) fun os hl hos => ?_)
    refine wpAny_pure (q _ (by simp [hl]) fun j hj hv => ?_)
    cases j with
    | zero =>
      have z : xs.toList.length = (k (.ref a)).length := hi.length
      cases hx : xs.toList with
      | nil =>
        left
        rw [hx] at z
        have hs : xs.size = 0 := by rw [← Array.length_toList, hx]; rfl
        exact ⟨by simp [hs], List.length_eq_zero_iff.mp (by simpa using z.symm)⟩
      | cons x r =>
        right
        rw [hx] at hi
        cases hkv : k (.ref a) with
        | nil => rw [hkv] at hi; cases hi
        | cons n ns =>
          rw [hkv] at hi
          cases hi with
          | @cons _ t _ _ _ =>
            refine ⟨n, t, ?_, by simp [hkv]⟩
            have : xs[0]? = some (Value.int n t) := by rw [← Array.getElem?_toList, hx]; rfl
            simpa using this
    | succ j => simpa using hos j (by simpa using hj) (by simpa using hv)
theorem row_type {v : Value} {ns : List Int} (h : IsRow s.heap v ns) : PySem.W.Looks (model prog w) s.heap (typeOf v) (.type "tuple") := by
  obtain ⟨a, xs, e, ⟨o, ho, hc, n, hd⟩, hi⟩ := h
  subst e
  rw [← hc]
  exact (PySem.W.Looks.ld ho).andThen .now
theorem oneType_all {vs : List Value} {T : Value} {Q : Option Value → Shared → Prop} (h0 : 0 < vs.length) (h : ∀ v ∈ vs, PySem.W.Looks (model prog w) s.heap (typeOf v) T) (hT : (T == T) = true) (q : Q (some T) s) : wpAny (model prog w) A (oneTypeOnly' vs.toArray) Q E s := by
  rw [oneTypeOnly'_eq, List.mapM_toArray, map_eq_pure_bind]
  refine wpAny_bind (wpAny_bind (PySem.W.kas_mapM (r := T) _ (fun v hv Q' hq => (h v hv).here hq) (wpAny_pure ?_)))
  have hall2 : ((List.map (fun _ => T) vs).toArray.all fun x => x == T) = true := by
    simp only [List.all_toArray, List.all_map, List.all_eq_true]
    intro _ _
    exact hT
  have hz : (List.map (fun _ => T) vs).toArray[0]? = some T := by
    cases vs with
    | nil => simp at h0
    | cons v vs => simp
  rw [hz]
  simp only [hall2, if_true]
  exact wpAny_pure q
/-- what may be asked of the keys -/
def RowKind (κ : SortKind) : Prop := κ = tuples' true ∨ κ = general' ∨ κ = oneType'
theorem row_kind {vs : List Value} {k : Value → List Int} (h0 : 0 < vs.length) (h : ∀ v ∈ vs, IsRow s.heap v (k v)) : ∃ κ, RowKind κ ∧ ∀ (Q : SortKind → Shared → Prop) (E : Value → Shared → Prop), Q κ s → wpAny (model prog w) A (keyKind' vs.toArray) Q E s := by
  by_cases c1 : ∀ v ∈ vs, k v ≠ []
  · refine ⟨tuples' true, .inl rfl, fun Q E q => ?_⟩
    rw [kat_kind_eq, List.mapM_toArray, map_eq_pure_bind]
    refine wpAny_bind (wpAny_bind (row_firsts (k := k) h fun os hl hos => wpAny_pure ?_))
    have some_ : ∀ j (hj : j < os.length), ∃ n t, os[j] = some (Value.int n t) := fun j hj => by
      rcases hos j hj (by omega) with ⟨_, z⟩ | ⟨n, t, z, _⟩
      · exact absurd z (c1 _ (List.getElem_mem _))
      · exact ⟨n, t, z⟩
    have hall : (os.toArray.all fun x => x.isSome) = true := by
      simp only [List.all_toArray, List.all_eq_true]
      intro o ho
      obtain ⟨j, hj, rfl⟩ := List.getElem_of_mem ho
      obtain ⟨n, t, e⟩ := some_ j hj
      rw [e]
      rfl
    rw [if_pos hall]
    refine wpAny_bind (wpAny_rule (wpAny_bind ?_))
    have hfm : (os.toArray.filterMap id) = (os.filterMap id).toArray := by simp
    rw [hfm]
    have lfm : (os.filterMap id).length = os.length := by
      have : ∀ l : List (Option Value), (∀ o ∈ l, o.isSome = true) → (l.filterMap id).length = l.length := fun l => by
        induction l with
        | nil => intro _; rfl
        | cons o l ih =>
          intro hh
          obtain ⟨v, rfl⟩ := Option.isSome_iff_exists.mp (hh o (List.mem_cons_self ..))
          simpa using ih fun o ho => hh o (List.mem_cons_of_mem _ ho)
      refine this os fun o ho => ?_
      obtain ⟨j, hj, rfl⟩ := List.getElem_of_mem ho
      obtain ⟨n, t, e⟩ := some_ j hj
      rw [e]
      rfl
    refine oneType_all (T := .type "int") (by omega) (fun v hv => ?_) (by rfl) (wpAny_pure ?_)
    · obtain ⟨o, ho, e⟩ := List.mem_filterMap.mp hv
      obtain ⟨j, hj, rfl⟩ := List.getElem_of_mem ho
      obtain ⟨n, t, e2⟩ := some_ j hj
      rw [e2] at e
      obtain rfl : Value.int n t = v := by simpa using e
      exact PySem.W.Looks.now
    · have e : ((some (Value.type "int")).any fun x => x != Value.type "tuple") = true := by first | decide +kernel | rfl | decide
      rw [e]
      exact q
  · have hv0 : ∃ v0 r, vs = v0 :: r := by
      match vs, h0 with
      | v :: r, _ => exact ⟨v, r, rfl⟩
    obtain ⟨v0, r, hvs⟩ := hv0
    have bad : ∀ os : List (Option Value), os.length = vs.length → (∀ j (hj : j < os.length) (hv : j < vs.length), (os[j] = none ∧ k vs[j] = []) ∨ ∃ n t, os[j] = some (.int n t) ∧ k vs[j] ≠ []) → ¬ (os.toArray.all fun x => x.isSome) = true := fun os hl hos hall => by
      refine c1 fun v hv => ?_
      obtain ⟨j, hj, rfl⟩ := List.getElem_of_mem hv
      rcases hos j (by omega) hj with ⟨z, _⟩ | ⟨n, t, _, z⟩
      · simp only [List.all_toArray, List.all_eq_true] at hall
        have := hall _ (List.getElem_mem (show j < os.length by omega))
        rw [z] at this
        cases this
      · exact z
    by_cases c2 : k v0 = []
    · refine ⟨oneType', .inr (.inr rfl), fun Q E q => ?_⟩
      rw [kat_kind_eq, List.mapM_toArray, map_eq_pure_bind]
      refine wpAny_bind (wpAny_bind (row_firsts (k := k) h fun os hl hos => wpAny_pure ?_))
      rw [if_neg (bad os hl hos)]
      have z : (os.toArray[0]?.bind id).isSome = false := by
        have hj : 0 < os.length := by omega
        have e : os[0]'hj = none := by
          rcases hos 0 hj h0 with ⟨z, _⟩ | ⟨n, t, _, z⟩
          · exact z
          · subst hvs
            exact absurd c2 (by simpa using z)
        simp [List.getElem?_eq_getElem hj, e]
      rw [if_neg (by rw [z]; simp)]
      refine wpAny_bind (oneType_all (T := .type "tuple") h0 (fun v hv => row_type (h v hv)) (by rfl) (wpAny_pure ?_))
      exact q
    · refine ⟨general', .inr (.inl rfl), fun Q E q => ?_⟩
      rw [kat_kind_eq, List.mapM_toArray, map_eq_pure_bind]
      refine wpAny_bind (wpAny_bind (row_firsts (k := k) h fun os hl hos => wpAny_pure ?_))
      rw [if_neg (bad os hl hos)]
      have z : (os.toArray[0]?.bind id).isSome = true := by
        have hj : 0 < os.length := by omega
        have e : ∃ n t, os[0]'hj = some (Value.int n t) := by
          rcases hos 0 hj h0 with ⟨_, z⟩ | ⟨n, t, z, _⟩
          · subst hvs
            exact absurd (by simpa using z) c2
          · exact ⟨n, t, z⟩
        obtain ⟨n, t, e⟩ := e
        simp [List.getElem?_eq_getElem hj, e]
      rw [if_pos z]
      exact wpAny_pure q
theorem general_eq (x y : Value) : keyLt' general' x y = oneLt' false x y := rfl
theorem row_cmp {vs : List Value} {k : Value → List Int} {κ : SortKind} (hκ : RowKind κ) (h : ∀ v ∈ vs, IsRow s.heap v (k v)) (hu : A.units + 1 < cLine) : SrtO.Cmp prog w A s κ (fun p => p.1 ∈ vs) (SrtO.lt2 fun v u => HT.lexLt (k v) (k u)) := by
  intro p q hm hm'
  have h1 := h _ hm
  have h2 := h _ hm'
  show wpAny (model prog w) A (keyLt' κ p.1 q.1) (fun r s' => s' = s ∧ r = HT.lexLt (k p.1) (k q.1)) (fun _ _ => False) s
  obtain ⟨a, xs, e, ta, ia⟩ := h1
  obtain ⟨b, ys, e', tb, ib⟩ := h2
  rw [e] at ia
  rw [e'] at ib
  rw [e, e']
  rcases hκ with rfl | rfl | rfl
  · obtain ⟨o, ho, hc, n, hd⟩ := ta
    obtain ⟨o', ho', hc', n', hd'⟩ := tb
    refine PySem.W.kat_lt ho hd ho' hd' ?_
    have l : decide (xs.size < ys.size) = decide (xs.toList.length < ys.toList.length) := by simp
    rw [l]
    exact rows_lex 0 ia ib ⟨rfl, rfl⟩
  · rw [general_eq]
    exact PySem.W.kat_one _ _ (HT.lt_tupInts ta tb ia ib (by omega) ⟨rfl, rfl⟩)
  · rw [keyLt'_oneType, oneLt'_eq]
    simp only [if_true]
    obtain ⟨⟨cls, dd, data, sl⟩, ho, hc, n, hd⟩ := id ta
    obtain ⟨⟨cls2, dd2, data2, sl2⟩, ho2, hc2, n2, hd2⟩ := id tb
    simp only at hc hd hc2 hd2
    subst hc hd hc2 hd2
    refine wpAny_bind (wpAny_cRoomFor (show A.units < cLine by omega) ?_)
    refine wpAny_bind (wpAny_callSpecialIfBound?_slot (T := "tuple") ⟨_, ho, rfl⟩ PySem.F.slot_tuple_lt (call_meets PySem.F.slot_tuple_lt ⟨_, ho, rfl⟩ PySem.F.entry_tuple_lt (PySem.F.args_tuple_lt_2 _ _) (HT.tuple_lt_ints a b xs ys n n2 dd dd2 sl sl2 _ _ ia ib) ⟨ho, ho2, ?_⟩))
    show wpAny _ _ _ _ _ _
    exact wpAny_truthy_bool ⟨rfl, rfl⟩
end
theorem IsRow.uniq {h : Heap} {v : Value} {ns ms : List Int} (a : IsRow h v ns) (b : IsRow h v ms) : ns = ms := TS.TupInts.ints a |>.symm.trans (TS.TupInts.ints b)
section
variable {prog : Program} {w : World} {A : Around} {E : Value → Shared → Prop} {s : Shared}
theorem rows_sortable {a : Addr} {vs : List Value} {k : Value → List Int} (h0 : 0 < vs.length) (hp : ∀ v ∈ vs, IsRow s.heap v (k v)) (ha : ∀ o, s.heap.get? a = some o → o.cls ≠ .type "tuple") (hu : A.units + 1 < cLine) :
    SrtO.SortableO prog w A s a vs fun v u => HT.lexLt (k v) (k u) := by
  intro h' keep
  have hp' : ∀ v ∈ vs, IsRow h' v (k v) := fun v hm => TS.TupInts.keeps (hp v hm) fun b o e c => keep b o (fun z => by subst z; exact ha o e c) e
  obtain ⟨κ, hκ, hq⟩ := row_kind (prog := prog) (w := w) (A := A) (s := { s with heap := h' }) h0 hp'
  exact ⟨κ, fun Q E q => hq Q E q, row_cmp hκ hp' hu⟩
end
section
variable {X : Cx}
/-- sorted(xs), xs a list of rows of ints (beside them): a new list of them, rising -/
def rSortedR (K : PySem.W.Frag) : List V → Hp → VK → Prop := fun vs H Q => ∃ (a : Addr) (ps : List (V × List Int)), vs = [V.ref a] ∧ SqL K H a (ps.map (·.1)) ∧ (∀ x ∈ ps, ∃ t, x.1 = V.ref t ∧ SqT K H t (x.2.map V.int)) ∧
  ∀ ps' p, List.Perm ps' ps → ps'.Pairwise (fun x y => HT.lexLt y.2 x.2 = false) → H p = none → Q (.ref p) (upd H p (.lst (ps'.map (·.1))))
open Classical in
theorem cr_sortedR (hu64 : X.A.units + 64 < cLine) : CallR X (.builtin "sorted") (rSortedR X.K) := by
  intro pins s σ H vs us Q I r h
  obtain ⟨a, ps, rfl, hs, hx, q⟩ := h
  obtain ⟨its, rv, hl, hz⟩ := I.list hs
  obtain ⟨u, rfl, ru⟩ := vals1 r
  obtain rfl : u = Value.ref a := ru
  obtain ⟨e1, e2⟩ := refs_back rv fun x m => by
    obtain ⟨p, hp, rfl⟩ := List.mem_map.mp m
    obtain ⟨t, e, _⟩ := hx p hp
    exact ⟨t, e⟩
  let k : Value → List Int := fun v => if h : ∃ ns, IsRow s.heap v ns then h.choose else []
  have hk : ∀ v ns, IsRow s.heap v ns → k v = ns := fun v ns hv => by
    show (if h : ∃ ns, IsRow s.heap v ns then h.choose else []) = ns
    rw [dif_pos ⟨ns, hv⟩]
    exact IsRow.uniq (Exists.choose_spec (⟨ns, hv⟩ : ∃ ns, IsRow s.heap v ns)) hv
  have len : its.length = ps.length := by rw [← rv.length, List.length_map]
  have at_ : ∀ (j : Nat) (p : V × List Int), ps[j]? = some p → ∃ v, its[j]? = some v ∧ backV v = p.1 ∧ IsRow s.heap v p.2 := fun j p hp => by
    obtain ⟨t, e, ht⟩ := hx p (List.mem_of_getElem? hp)
    obtain ⟨v, hv, rv1⟩ := vals_at (j := j) (v := p.1) rv (by rw [List.getElem?_map, hp]; rfl)
    rw [e] at rv1
    obtain rfl : v = Value.ref t := rv1
    refine ⟨_, hv, e.symm, ?_⟩
    obtain ⟨its3, r3, p3, _⟩ := I.tuple ht
    exact ⟨t, its3.toArray, rfl, p3, L2.intsAre_of r3⟩
  have all : its.map (fun v => (backV v, k v)) = ps := by
    refine List.ext_getElem? fun j => ?_
    rw [List.getElem?_map]
    by_cases hj : j < ps.length
    · obtain ⟨v, h1, h2, h3⟩ := at_ j ps[j] (List.getElem?_eq_getElem hj)
      rw [h1, List.getElem?_eq_getElem hj]
      show some (backV v, k v) = some ps[j]
      rw [h2, hk v _ h3]
    · rw [List.getElem?_eq_none (by omega), List.getElem?_eq_none (by omega)]
      rfl
  have hp : ∀ v ∈ its, IsRow s.heap v (k v) := fun v hv => by
    obtain ⟨j, hj⟩ := List.getElem?_of_mem hv
    have hj2 : j < ps.length := by rw [← len]; exact (List.getElem?_eq_some_iff.mp hj).1
    obtain ⟨v', h1, h2, h3⟩ := at_ j ps[j] (List.getElem?_eq_getElem hj2)
    rw [hj] at h1
    obtain rfl : v = v' := by simpa using h1
    rw [hk v _ h3]
    exact h3
  refine SrtO.sorted_ord (swo_ents k) hl.isList (by rw [← rv.length]; exact hz) (fun h2 h₁ a' ha' kk => ?_) fun out h1 h2 => ?_
  · refine rows_sortable (s := { s with heap := h₁ }) (k := k) (by omega) (fun v hm => TS.TupInts.keeps (hp v hm) fun b o e _ => (kk b o e).2) (fun o e => ?_) (show X.A.units + 1 + 1 + 1 < cLine by omega)
    have e' : some o = some (seqObj "list" its.toArray 0) := e.symm.trans ha'
    cases e'
    intro c
    exact absurd (Value.type.inj c) (by decide)
  · have h3 : ∀ u ∈ out, ∃ a, u = Value.ref a := fun u hu => e2 u (h2.perm.mem_iff.mp hu)
    have hperm : List.Perm (out.map fun v => (backV v, k v)) ps := by rw [← all]; exact h2.perm.map _
    obtain ⟨ep, he'⟩ := PyProof.Rows.sortedAll_at s.heap its out.toArray
    have em : (out.map fun v => (backV v, k v)).map (·.1) = out.map backV := by rw [List.map_map]; rfl
    have hlen : (out.map backV).length ≤ sizeLine := by
      rw [List.length_map, h2.perm.length_eq, len]
      rw [List.length_map] at hz
      exact hz
    have q' := q _ (s.heap.objs.size + 1) hperm (List.pairwise_map.mpr h1) (I.hok.fresh (Nat.le_succ _))
    rw [em] at q'
    exact ⟨.ref _, upd H (s.heap.objs.size + 1) (.lst (out.map backV)), I.laid (t' := s.toks) (fun _ _ => PyProof.Rows.sortedAll_old) (Nat.le_succ _) ⟨hlen, out, ep, vals_back h3, he'⟩, rfl, q'⟩
/-- list(d), d a dict whose keys are rows -/
def rListDT (K : PySem.W.Frag) : List V → Hp → VK → Prop := fun xs H Q => ∃ d kvs, xs = [V.ref d] ∧ Rd H d (.dT kvs) ∧ ∀ p bs, H p = none → IsKeys H kvs bs → Q (.ref p) (upd H p (.lst (bs.map V.ref)))
def rListU (K : PySem.W.Frag) : List V → Hp → VK → Prop := fun xs H Q => rListOf K xs H Q ∨ rListDT K xs H Q
theorem call_listU (hc : X.calm = true := by rfl) : CallR X (.type "list") (rListU X.K) := fun pins s σ H x v Q I rx h => by
  rcases h with h | h
  · exact call_list_of pins s σ H x v Q I rx h
  · exact call_list_dT hc pins s σ H x v Q I rx h
def rSortedU (K : PySem.W.Frag) : List V → Hp → VK → Prop := fun xs H Q => rSortedE K xs H Q ∨ rSortedR K xs H Q
theorem cr_sortedU (hu64 : X.A.units + 64 < cLine) : CallR X (.builtin "sorted") (rSortedU X.K) := fun pins s σ H x v Q I rx h => by
  rcases h with h | h
  · exact cr_sortedE hu64 pins s σ H x v Q I rx h
  · exact cr_sortedR hu64 pins s σ H x v Q I rx h
end
/-! ### places that are owned; instances -/
def Pl (K : PySem.W.Frag) (ta : TE) (ρ : Rho) (e : D) (put : D → Rho) : Prop := ∀ (σ : L2.St) (H : Hp) (F : List Addr), Sl K H σ ρ F → F.Nodup → ∃ u Se A, (∀ Q : VK, Q u H → ta σ H Q) ∧ Rep K H u e Se ∧ F.Perm (Se ++ A) ∧
  ∀ (H' : Hp) (e' : D) (Se' : List Addr), Keep Se H H' → Rep K H' u e' Se' → ∃ F', Sl K H' σ (put e') F' ∧ F'.Perm (Se' ++ A)
/-- only what is new comes -/
def DN (K : PySem.W.Frag) (t : TE) (ρ : Rho) (Qd : D → Prop) : Prop := ∀ (σ : L2.St) (H : Hp) (F : List Addr) (Q : VK), Sl K H σ ρ F → F.Nodup → (∀ v d H' S, Qd d → Rep K H' v d S → Step [] H S H' → Q v H') → t σ H Q
def DNA (K : PySem.W.Frag) (t : TA) (ρ : Rho) (Qd : List D → Prop) : Prop := ∀ (σ : L2.St) (H : Hp) (F : List Addr) (Q : List V → Hp → Prop), Sl K H σ ρ F → F.Nodup → (∀ vs ds H' S, Qd ds → RepA K H' vs ds S → Step [] H S H' → Q vs H') → t σ H Q
section
variable {K : PySem.W.Frag} {H H' H1 H2 : Hp} {F F1 F2 S T A G G1 G2 : List Addr} {σ : L2.St} {ρ ρ1 ρ2 : Rho} {d e : D} {v : V} {i j n : Nat} {M : List Nat} {w : Nat → V} {De : DEnds} {te ta tb tv ti : TE} {ar : TA} {Qd : D → Rho → Prop} {Qb : D → Prop} {QA : List D → Prop} {put : D → Rho} {c f m : Str} {ns : List Str} {xs : List D} {ds : List D} {P : SpD} {E : XK} {r : R2}
theorem pl_var (e : ρ[i]? = some (some d)) : Pl K (tVar i) ρ d fun d' => ρ.set i (some d') := fun σ H F s n => by
  obtain ⟨v, S, A, hv, r, s2, p⟩ := s.out e
  refine ⟨v, S, A, fun Q q => ⟨v, hv, q⟩, r, p, fun H' e' Se' k r' => ?_⟩
  have nd := p.nodup_iff.mp n
  have s3 := s2.mono k (Rep.mut _ _ _ r) fun a ha hb => (List.nodup_append.mp nd).2.2 a hb a ha rfl
  obtain ⟨B, s4, p4⟩ := s3.inn (by rw [List.getElem?_set_self (List.getElem?_eq_some_iff.mp e).1]) hv r'
  rw [List.set_set] at s4
  exact ⟨B, s4, p4⟩
theorem set_self {α : Type} {xs : List α} {j : Nat} {x : α} (e : xs[j]? = some x) : xs.set j x = xs := by
  obtain ⟨h, e⟩ := List.getElem?_eq_some_iff.mp e
  subst e
  exact List.set_getElem_self h
/-- a part of a row changes in its place -/
theorem RepA.part {vs : List V} (ra : RepA K H vs ds S) (nd : S.Nodup) (e : ds[j]? = some d) : ∃ v T A1, vs[j]? = some v ∧ Rep K H v d T ∧ S.Perm (T ++ A1) ∧
    ∀ (H' : Hp) (d' : D) (T' : List Addr), Keep T H H' → Rep K H' v d' T' → ∃ S', RepA K H' vs (ds.set j d') S' ∧ S'.Perm (T' ++ A1) := by
  obtain ⟨v, T, A1, h1, h2, h3, h4⟩ := ra.at_ e
  refine ⟨v, T, A1, h1, h2, h3, fun H' d' T' k r => ?_⟩
  have nd2 := h3.nodup_iff.mp nd
  obtain ⟨S', g1, g2⟩ := h4 H' v d' T' (fun e u U r hU => Rep.mono k (Rep.mut _ _ _ h2) _ _ _ r fun a ha hb => (List.nodup_append.mp nd2).2.2 a hb a (hU a ha) rfl) r
  rw [set_self h1] at g1
  exact ⟨S', g1, g2⟩
theorem pl_fld (h : Pl K ta ρ (.ins c ns xs) put) (k : Kls K c ns) (j : Nat) (hf : ns[j]? = some f) (e : xs[j]? = some d) : Pl K (tFld K ta f) ρ d fun d' => put (.ins c ns (xs.set j d')) := fun σ H F s n => by
  obtain ⟨u, Se, A, h1, h2, h3, h4⟩ := h σ H F s n
  cases h2 with
  | @ins a dx _ _ vs _ S g1 g2 =>
    have nd := (List.nodup_append.mp (h3.nodup_iff.mp n)).1
    obtain ⟨n1, n2⟩ := List.nodup_cons.mp nd
    obtain ⟨v, T, A1, p1, p2, p3, p4⟩ := g2.part n2 e
    refine ⟨v, T, a :: (A1 ++ A), fun Q q => i_fld (h1 _ (i_fldK k g1 j hf p1 q)), p2, ?_, fun H' e' T' kk r => ?_⟩
    · refine h3.trans ?_
      show (a :: (S ++ A)).Perm _
      refine List.Perm.trans ?_ (List.perm_middle.symm)
      rw [← List.append_assoc]
      exact (p3.append_right A).cons a
    · have ha : a ∉ T := fun z => n1 (p3.mem_iff.mpr (List.mem_append_left _ z))
      obtain ⟨S', q1, q2⟩ := p4 H' e' T' kk r
      have r2 : Rep K H' (.ref a) (.ins c ns (xs.set j e')) (a :: S') := .ins (kk a _ ha g1) q1
      obtain ⟨F', s', pF⟩ := h4 H' _ _ (kk.mono fun b hb => List.mem_cons_of_mem _ (p3.mem_iff.mpr (List.mem_append_left _ hb))) r2
      refine ⟨F', s', pF.trans ?_⟩
      show (a :: (S' ++ A)).Perm _
      refine List.Perm.trans ?_ (List.perm_middle.symm)
      rw [← List.append_assoc]
      exact (q2.append_right A).cons a
theorem pl_ix (h : Pl K ta ρ (.lst ds) put) (hi : DB K ti ρ fun y => ∃ k, y = .int k ∧ ixN ds.length k = some j) (e : ds[j]? = some d) : Pl K (tOp (rIxU K) ta ti) ρ d fun d' => put (.lst (ds.set j d')) := fun σ H F s n => by
  obtain ⟨u, Se, A, h1, h2, h3, h4⟩ := h σ H F s n
  cases h2 with
  | @lst a vs _ S g1 g2 =>
    have nd := (List.nodup_append.mp (h3.nodup_iff.mp n)).1
    obtain ⟨n1, n2⟩ := List.nodup_cons.mp nd
    obtain ⟨v, T, A1, p1, p2, p3, p4⟩ := g2.part n2 e
    refine ⟨v, T, a :: (A1 ++ A), fun Q q => ?_, p2, ?_, fun H' e' T' kk r => ?_⟩
    · refine h1 _ (hi σ H F _ s n fun w y S0 hy ry _ => ?_)
      obtain ⟨k, rfl, hk⟩ := hy
      cases ry
      refine .inl ⟨a, vs, k, v, rfl, rfl, SqL.of g1, ?_, q⟩
      unfold atI
      rw [g2.length, hk]
      exact p1
    · refine h3.trans ?_
      show (a :: (S ++ A)).Perm _
      refine List.Perm.trans ?_ (List.perm_middle.symm)
      rw [← List.append_assoc]
      exact (p3.append_right A).cons a
    · have ha : a ∉ T := fun z => n1 (p3.mem_iff.mpr (List.mem_append_left _ z))
      obtain ⟨S', q1, q2⟩ := p4 H' e' T' kk r
      have r2 : Rep K H' (.ref a) (.lst (ds.set j e')) (a :: S') := .lst (kk a _ ha g1) q1
      obtain ⟨F', s', pF⟩ := h4 H' _ _ (kk.mono fun b hb => List.mem_cons_of_mem _ (p3.mem_iff.mpr (List.mem_append_left _ hb))) r2
      refine ⟨F', s', pF.trans ?_⟩
      show (a :: (S' ++ A)).Perm _
      refine List.Perm.trans ?_ (List.perm_middle.symm)
      rw [← List.append_assoc]
      exact (q2.append_right A).cons a
theorem b_pl (h : Pl K ta ρ d put) (q : Qb d) : DB K ta ρ Qb := fun σ H F Q s n k => by
  obtain ⟨u, Se, A, h1, h2, h3, h4⟩ := h σ H F s n
  exact h1 Q (k u d Se q h2 fun a ha => h3.mem_iff.mpr (List.mem_append_left _ ha))
/-- a field, read in place -/
def FlD (K : PySem.W.Frag) (x : D) (f : Str) (Q : D → Prop) : Prop := ∃ (c : Str) (ns : List Str) (xs : List D) (j : Nat) (d : D), x = .ins c ns xs ∧ Kls K c ns ∧ ns[j]? = some f ∧ xs[j]? = some d ∧ Q d
theorem fl_ok (k : Kls K c ns) (j : Nat) (hf : ns[j]? = some f) (e : xs[j]? = some d) (h : Qb d) : FlD K (.ins c ns xs) f Qb := ⟨c, ns, xs, j, d, rfl, k, hf, e, h⟩
theorem b_fld (h : DB K ta ρ fun x => FlD K x f Qb) : DB K (tFld K ta f) ρ Qb := fun σ H F Q s n k => i_fld (h σ H F _ s n fun v x S q rx hS => by
  obtain ⟨c, ns, xs, j, d, rfl, kk, hf, e, q⟩ := q
  cases rx with
  | @ins a dx _ _ vs _ S g1 g2 =>
    obtain ⟨v, T, A1, p1, p2, p3, p4⟩ := g2.at_ e
    exact i_fldK kk g1 j hf p1 (k v d T q p2 fun b hb => hS b (List.mem_cons_of_mem _ (p3.mem_iff.mpr (List.mem_append_left _ hb)))))
/-! what is new alone -/
theorem n_b (h : DB K te ρ fun d => d.imm = true ∧ Qb d) : DN K te ρ Qb := fun σ H F Q s n k => h σ H F _ s n fun v d S q r hS => by
  obtain rfl := Rep.imm_nil _ _ _ r q.1
  exact k v d H [] q.2 r step0
theorem n_op (h : DB K ta ρ fun x => DB K tb ρ fun y => OpG K r x y Qb) : DN K (tOp r ta tb) ρ Qb := fun σ H F Q s n k => h σ H F _ s n fun v x S q rx hS => q σ H F _ s n fun u y T q ry hT => q v u S T H Q rx ry fun w z H' U q rz st => k w z H' U q rz st
theorem na_nil (h : QA []) : DNA K tNil ρ QA := fun σ H F Q s n k => k [] [] H [] h .nil step0
theorem na_cons (h : DN K ta ρ fun x => DNA K ar ρ fun xs => QA (x :: xs)) : DNA K (tCons ta ar) ρ QA := fun σ H F Q s n k => h σ H F _ s n fun v x H1 S q rx st =>
  q σ H1 F _ (s.mono st.keep (by simp) (by simp)) n fun vs xs H2 T q ra st2 => by
    have rx2 := Rep.mono st2.keep (by simp) _ _ _ rx (by simp)
    have a1 : Step [] H (S ++ []) H1 := by rw [List.append_nil]; exact st
    have a2 := a1.aside (Rep.mut _ _ _ rx) st2
    exact k (v :: vs) (x :: xs) H2 (S ++ T) q (.cons rx2 ra) a2
theorem n_tup (h : DNA K ar ρ fun ds => ds.length ≤ sizeLine ∧ Qb (.tup ds)) : DN K (tTup ar) ρ Qb := fun σ H F Q s n k => h σ H F _ s n fun vs ds H1 S q ra st => ⟨by rw [ra.length]; exact q.1, fun p hp => by
  have k0 : Keep [] H1 (upd H1 p (.tup vs)) := .new hp
  exact k (.ref p) (.tup ds) _ S q.2 (.tup (SqT.of upd_same) (RepA.mono k0 (by simp) _ _ _ ra (by simp))) ⟨fun a o na e => k0 a o (by simp) (st.keep a o na e), st.nd, st.sub⟩⟩
theorem n_lst (h : DNA K ar ρ fun ds => ds.length ≤ sizeLine ∧ Qb (.lst ds)) : DN K (tLst ar) ρ Qb := fun σ H F Q s n k => h σ H F _ s n fun vs ds H1 S q ra st => ⟨by rw [ra.length]; exact q.1, fun p hp => by
  have k0 : Keep [] H1 (upd H1 p (.lst vs)) := .new hp
  exact k (.ref p) (.lst ds) _ (p :: S) q.2 (.lst upd_same (RepA.mono k0 (by simp) _ _ _ ra (by simp))) (st.trans (Step.new st.nd (RepA.mut _ _ _ ra) hp))⟩
theorem n_cb {rc : List V → Hp → VK → Prop} (h : DB K ta ρ fun x => CbN K rc x Qb) : DN K (tCB rc (tCons ta tNil)) ρ Qb := fun σ H F Q s n k => h σ H F _ s n fun v x S q rx hS => q v S H Q rx fun u z H' U q rz st => k u z H' U q rz st
theorem n_call (h : DNA K ar ρ fun ds => P ds fun d _ => Qb d) : DN K (tCall (spD K [] P) [] E ar) ρ Qb := fun σ H F Q s n k => i_call (h σ H F _ s n fun vs ds H1 S q ra st => by
  refine ⟨ds, S, _, ra, st.nd, q, fun v d ds' ws H' S1 S2 q r lw _ rw' st2 => ?_⟩
  have z : ws = [] := List.length_eq_zero_iff.mp lw
  subst z
  cases rw'
  rw [List.append_nil] at st2
  exact k v d H' S1 q r (st.trans st2))
theorem d_n (h : DN K te ρ fun d => Qd d ρ) : DE K te ρ Qd := fun σ H F Q s n k => h σ H F _ s n fun v d H' S q r st => k v d ρ H' S F q r (s.mono st.keep (by simp) (by simp)) (st.fresh n s.mut)
/-- what is owned at a place becomes another -/
theorem place_put {u : V} {Se Se' : List Addr} {e' : D} (st : Step F H (T ++ F1) H1) (h3 : F1.Perm (Se ++ A)) (h4 : ∀ (H' : Hp) (e' : D) (Se' : List Addr), Keep Se H1 H' → Rep K H' u e' Se' → ∃ F', Sl K H' σ (put e') F' ∧ F'.Perm (Se' ++ A))
    (kk : Keep Se H1 H2) (r : Rep K H2 u e' Se') (nd : (Se' ++ A).Nodup) (sub : ∀ a ∈ Se', a ∈ T ++ Se ∨ H1 a = none) : ∃ F', Sl K H2 σ (put e') F' ∧ Step F H F' H2 := by
  obtain ⟨F', s', p⟩ := h4 H2 e' Se' kk r
  refine ⟨F', s', ⟨fun a o na eo => ?_, p.nodup_iff.mpr nd, fun a ha => ?_⟩⟩
  · have h1 := st.keep a o na eo
    refine kk a o (fun z => ?_) h1
    rcases st.sub a (List.mem_append_right _ (h3.mem_iff.mpr (List.mem_append_left _ z))) with y | y
    · exact na y
    · rw [eo] at y; cases y
  · rcases List.mem_append.mp (p.mem_iff.mp ha) with z | z
    · rcases sub a z with y | y
      · rcases List.mem_append.mp y with y | y
        · exact st.sub a (List.mem_append_left _ y)
        · exact st.sub a (List.mem_append_right _ (h3.mem_iff.mpr (List.mem_append_left _ y)))
      · by_cases q : a ∈ F
        · exact .inl q
        · refine .inr ?_
          cases eo : H a with
          | none => rfl
          | some o => rw [st.keep a o q eo] at y; cases y
    · exact st.sub a (List.mem_append_right _ (h3.mem_iff.mpr (List.mem_append_right _ z)))
theorem upd_keep {a : Addr} {o : HO} (h : a ∈ S) : Keep S H (upd H a o) := (Keep.refl H).put (.inl h)
/-- o.f = e, the field there or the next one -/
theorem s_fld (h : DE K tv ρ fun y ρ1 => ∃ (c : Str) (ns : List Str) (xs : List D) (put : D → Rho) (j : Nat), Pl K ta ρ1 (.ins c ns xs) put ∧ Kls K c ns ∧ ns[j]? = some f ∧ ns.length ≤ 900 ∧ ((j < xs.length ∧ De.nx (put (.ins c ns (xs.set j y)))) ∨ (j = xs.length ∧ De.nx (put (.ins c ns (xs ++ [y])))))) :
    DS K M (sFld K ta tv f) ρ De := fun w σ H F D0 s n p cn => i_sfld (h σ H F _ s n fun v y ρ1 H1 Sy F1 q ry s1 st => by
  obtain ⟨c, ns, xs, put, j, pl, k, hf, hl, q⟩ := q
  have n1 := (List.nodup_append.mp st.nd).2.1
  obtain ⟨u, Se, A, h1, h2, h3, h4⟩ := pl σ H1 F1 s1 n1
  cases h2 with
  | @ins a dx _ _ vs _ S g1 g2 =>
    refine h1 _ ?_
    have lv := g2.length
    have ndF := h3.nodup_iff.mp n1
    have na : a ∉ S ++ A := (List.nodup_cons.mp ndF).1
    have nSy : ∀ b ∈ Sy, b ∉ (a :: S) ++ A := fun b hb hc => st.far b hb (h3.mem_iff.mpr hc)
    have aSy : a ∉ Sy := fun z => nSy a z (by simp)
    have m0 : ∀ b ∈ [a], Mu (H1 b) := fun b hb => by
      obtain rfl : b = a := by simpa using hb
      rw [g1]; trivial
    have nSA : (S ++ A).Nodup := (List.nodup_cons.mp ndF).2
    -- the end
    have fin : ∀ (vs' : List V) (xs' : List D) (S' : List Addr), RepA K H1 vs' xs' S' → (S' ++ A).Nodup → (∀ b ∈ S', b ∈ Sy ∨ b ∈ S) → De.nx (put (.ins c ns xs')) → D0.nx σ (upd H1 a (.ins (gA c K) dx (ns.zip vs'))) := fun vs' xs' S' ra nd sub q => by
      have far : ∀ b ∈ S' ++ A, b ≠ a := fun b hb => by
        rintro rfl
        rcases List.mem_append.mp hb with z | z
        · rcases sub b z with y | y
          · exact aSy y
          · exact na (List.mem_append_left _ y)
        · exact na (List.mem_append_right _ z)
      have k0 : Keep [a] H1 (upd H1 a (.ins (gA c K) dx (ns.zip vs'))) := upd_keep (by simp)
      have ra' := RepA.mono k0 m0 _ _ _ ra fun b hb => by simpa using far b (List.mem_append_left _ hb)
      have r : Rep K (upd H1 a (.ins (gA c K) dx (ns.zip vs'))) (.ref a) (.ins c ns xs') (a :: S') := .ins upd_same ra'
      obtain ⟨F', s', st'⟩ := place_put (put := put) st h3 h4 (upd_keep (by simp)) r (by
        show (a :: (S' ++ A)).Nodup
        exact List.nodup_cons.mpr ⟨fun z => far a z rfl, nd⟩) fun b hb => by
          rcases List.mem_cons.mp hb with rfl | hb
          · exact .inl (by simp)
          · rcases sub b hb with z | z
            · exact .inl (List.mem_append_left _ z)
            · exact .inl (by simp [z])
      exact cn.nx σ _ _ F' q s' st' p
    rcases q with ⟨hj, q⟩ | ⟨hj, q⟩
    · obtain ⟨v0, T0, B0, p1, p2, p3, p4⟩ := g2.at_ (List.getElem?_eq_getElem hj)
      obtain ⟨S', ra, p5⟩ := p4 H1 v y Sy (fun _ _ _ r _ => r) ry
      refine i_putK k g1 j hf (by omega) hl (fin _ _ S' ra ?_ (fun b hb => ?_) q)
      · refine ((p5.append_right A).nodup_iff).mpr ?_
        have e1 : (B0 ++ A).Nodup := ((List.sublist_append_right T0 B0).append_right A).nodup (((p3.append_right A).nodup_iff).mp nSA)
        rw [List.append_assoc]
        refine List.nodup_append.mpr ⟨(List.nodup_append.mp st.nd).1, e1, fun b hb b' hb' => ?_⟩
        rintro rfl
        refine nSy b hb ?_
        rcases List.mem_append.mp hb' with z | z
        · exact List.mem_append_left _ (List.mem_cons_of_mem _ (p3.mem_iff.mpr (List.mem_append_right _ z)))
        · exact List.mem_append_right _ z
      · rcases List.mem_append.mp (p5.mem_iff.mp hb) with z | z
        · exact .inl z
        · exact .inr (p3.mem_iff.mpr (List.mem_append_right _ z))
    · have ra := g2.append (.cons ry .nil)
      rw [List.append_nil] at ra
      refine i_putN k g1 (by rw [lv, ← hj]; exact hf) hl (fin _ _ (S ++ Sy) ra ?_ (fun b hb => ?_) q)
      · have pp : (S ++ Sy ++ A).Perm (Sy ++ (S ++ A)) := by
          rw [← List.append_assoc]
          exact List.perm_append_comm.append_right A
        refine pp.nodup_iff.mpr (List.nodup_append.mpr ⟨(List.nodup_append.mp st.nd).1, nSA, fun b hb b' hb' => ?_⟩)
        rintro rfl
        refine nSy b hb ?_
        rcases List.mem_append.mp hb' with z | z
        · simp [z]
        · simp [z]
      · rcases List.mem_append.mp hb with z | z
        · exact .inr z
        · exact .inl z)
end
/-! ### lists, dicts, methods at places that are owned -/
section
variable {K : PySem.W.Frag} {H H' H1 H2 : Hp} {F F1 F2 S T A G G1 G2 : List Addr} {σ : L2.St} {ρ ρ1 ρ2 : Rho} {d e : D} {v : V} {i j n : Nat} {M : List Nat} {w : Nat → V} {De : DEnds} {te ta tb tv ti : TE} {ar : TA} {Qd : D → Rho → Prop} {Qb : D → Prop} {QA : List D → Prop} {put : D → Rho} {c f m : Str} {ns : List Str} {xs : List D} {ds : List D} {P : SpD} {E : XK} {r : R2}
/-- o.append(e), o a place -/
theorem s_appP (pl : Pl K ta ρ (.lst ds) put) (h : DN K te ρ fun x => ds.length < sizeLine ∧ De.nx (put (.lst (ds ++ [x])))) : DS K M (tDrop (tBM K "list" rAppend ta (tCons te tNil))) ρ De := fun w σ H F D0 s n p cn => by
  obtain ⟨u, Se, A, h1, h2, h3, h4⟩ := pl σ H F s n
  cases h2 with
  | @lst a vs _ S g1 g2 =>
    refine i_drop (h1 _ ⟨ty_lst g1, h σ H F _ s n fun v x H1 Sx q rx st => ?_⟩)
    have ndF := h3.nodup_iff.mp n
    have ga : H1 a = some (.lst vs) := st.keep a _ (by simp) g1
    have g2' := RepA.mono st.keep (by simp) _ _ _ g2 (by simp)
    have mF : ∀ b ∈ (a :: S) ++ A, Mu (H b) := fun b hb => s.mut b (h3.mem_iff.mpr hb)
    have nx : ∀ b ∈ Sx, H b = none := fun b hb => (st.sub b hb).elim (fun z => by cases z) id
    have far : ∀ b ∈ Sx, b ∉ (a :: S) ++ A := fun b hb hc => by
      have z := mF b hc
      rw [nx b hb] at z
      exact z
    have ra := g2'.append (.cons rx .nil)
    rw [List.append_nil] at ra
    have na : a ∉ S ++ A := (List.nodup_cons.mp ndF).1
    have fa : ∀ b ∈ S ++ Sx, b ≠ a := fun b hb => by
      rintro rfl
      rcases List.mem_append.mp hb with z | z
      · exact na (List.mem_append_left _ z)
      · exact far b z (by simp)
    have k0 : Keep [a] H1 (upd H1 a (.lst (vs ++ [v]))) := upd_keep (by simp)
    have m0 : ∀ b ∈ [a], Mu (H1 b) := fun b hb => by
      obtain rfl : b = a := by simpa using hb
      rw [ga]; trivial
    have r : Rep K (upd H1 a (.lst (vs ++ [v]))) (.ref a) (.lst (ds ++ [x])) (a :: (S ++ Sx)) := .lst upd_same (RepA.mono k0 m0 _ _ _ ra fun b hb => by simpa using fa b hb)
    have st0 : Step F H ([] ++ F) H := .refl n
    obtain ⟨F', s', st'⟩ := place_put (T := []) (put := put) st0 h3 h4 (fun b o nb eb => by
      have hb := st.keep b o (by simp) eb
      rw [upd_ne (fun z => nb (by rw [z]; simp))]
      exact hb) r (by
        have e1 : ((a :: (S ++ Sx)) ++ A).Perm (Sx ++ ((a :: S) ++ A)) := by
          refine List.Perm.trans (show (a :: ((S ++ Sx) ++ A)).Perm (a :: (Sx ++ (S ++ A))) from ?_) (List.perm_middle.symm)
          refine List.Perm.cons a ?_
          rw [← List.append_assoc]
          exact List.perm_append_comm.append_right A
        refine e1.nodup_iff.mpr (List.nodup_append.mpr ⟨st.nd, ndF, fun b hb b' hb' => ?_⟩)
        rintro rfl
        exact far b hb hb') fun b hb => by
          rcases List.mem_cons.mp hb with rfl | hb
          · exact .inl (by simp)
          · rcases List.mem_append.mp hb with z | z
            · exact .inl (by simp [z])
            · exact .inr (nx b z)
    exact ⟨a, vs, v, rfl, rfl, ga, by rw [g2.length]; exact q.1, cn.nx σ _ _ F' q.2 s' st' p⟩
/-- o.extend(e), e a new list or one that is lent (its items hold nothing that is owned) -/
theorem s_extP (pl : Pl K ta ρ (.lst ds) put) (h : DN K te ρ fun x => ∃ es, x = .lst es ∧ immA es = true ∧ ds.length + es.length ≤ sizeLine ∧ De.nx (put (.lst (ds ++ es)))) : DS K M (tDrop (tBM K "list" rExtend ta (tCons te tNil))) ρ De := fun w σ H F D0 s n p cn => by
  obtain ⟨u, Se, A, h1, h2, h3, h4⟩ := pl σ H F s n
  cases h2 with
  | @lst a vs _ S g1 g2 =>
    refine i_drop (h1 _ ⟨ty_lst g1, h σ H F _ s n fun v x H1 Sx q rx st => ?_⟩)
    obtain ⟨es, rfl, im, ql, q⟩ := q
    cases rx with
    | @lst b ys _ S2 f1 f2 =>
      obtain rfl := RepA.imm_nil _ _ _ f2 im
      have ndF := h3.nodup_iff.mp n
      have ga : H1 a = some (.lst vs) := st.keep a _ (by simp) g1
      have g2' := RepA.mono st.keep (by simp) _ _ _ g2 (by simp)
      have ra := g2'.append f2
      rw [List.append_nil] at ra
      have na : a ∉ S ++ A := (List.nodup_cons.mp ndF).1
      have k0 : Keep [a] H1 (upd H1 a (.lst (vs ++ ys))) := upd_keep (by simp)
      have m0 : ∀ b ∈ [a], Mu (H1 b) := fun b hb => by
        obtain rfl : b = a := by simpa using hb
        rw [ga]; trivial
      have r : Rep K (upd H1 a (.lst (vs ++ ys))) (.ref a) (.lst (ds ++ es)) (a :: S) := .lst upd_same (RepA.mono k0 m0 _ _ _ ra fun b hb => by
        intro z
        obtain rfl : b = a := by simpa using z
        exact na (List.mem_append_left _ hb))
      have st0 : Step F H ([] ++ F) H := .refl n
      obtain ⟨F', s', st'⟩ := place_put (T := []) (put := put) st0 h3 h4 (fun b o nb eb => by
        have hb := st.keep b o (by simp) eb
        rw [upd_ne (fun z => nb (by rw [z]; simp))]
        exact hb) r ndF fun b hb => .inl (by simpa using hb)
      exact ⟨a, b, vs, ys, rfl, rfl, ga, f1, by rw [g2.length, f2.length]; exact ql, cn.nx σ _ _ F' q s' st' p⟩
/-- o.pop() -/
theorem e_popP (pl : Pl K ta ρ (.lst (ds ++ [d])) put) (h : Qd d (put (.lst ds))) : DE K (tBM0 K "list" rPop ta) ρ Qd := fun σ H F Q s n k => by
  obtain ⟨u, Se, A, h1, h2, h3, h4⟩ := pl σ H F s n
  cases h2 with
  | @lst a xs _ S g1 g2 =>
    refine h1 _ ⟨ty_lst g1, ?_⟩
    have split : ∀ {ds : List D} {xs : List V} {S : List Addr}, RepA K H xs (ds ++ [d]) S → ∃ ys y S2 T2, xs = ys ++ [y] ∧ RepA K H ys ds S2 ∧ Rep K H y d T2 ∧ S = S2 ++ T2 := by
      intro ds
      induction ds with
      | nil =>
        intro xs S h
        cases h with
        | cons a b => cases b; exact ⟨[], _, [], _, rfl, .nil, a, by simp⟩
      | cons d0 ds ih =>
        intro xs S h
        cases h with
        | cons a b =>
          obtain ⟨ys, y, S2, T2, rfl, g1, g2, rfl⟩ := ih b
          exact ⟨_ :: ys, y, _ ++ S2, T2, rfl, .cons a g1, g2, by rw [List.append_assoc]⟩
    obtain ⟨ys, y, S2, T2, rfl, f1, f2, rfl⟩ := split g2
    have ndF := h3.nodup_iff.mp n
    have na : a ∉ S2 ++ T2 ++ A := (List.nodup_cons.mp ndF).1
    have k0 : Keep [a] H (upd H a (.lst ys)) := upd_keep (by simp)
    have m0 : ∀ b ∈ [a], Mu (H b) := fun b hb => by
      obtain rfl : b = a := by simpa using hb
      rw [g1]; trivial
    have r1 : Rep K (upd H a (.lst ys)) (.ref a) (.lst ds) (a :: S2) := .lst upd_same (RepA.mono k0 m0 _ _ _ f1 fun b hb z => by
      obtain rfl : b = a := by simpa using z
      exact na (by simp [hb]))
    have ry := Rep.mono k0 m0 _ _ _ f2 fun b hb z => by
      obtain rfl : b = a := by simpa using z
      exact na (by simp [hb])
    obtain ⟨F', s', p'⟩ := h4 _ _ _ (upd_keep (by simp)) r1
    refine ⟨a, ys ++ [y], y, rfl, rfl, g1, by simp, ?_⟩
    rw [List.dropLast_concat]
    refine k y d _ _ T2 F' h ry s' ?_
    have pp : F.Perm (T2 ++ F') := by
      refine h3.trans ?_
      refine List.Perm.trans ?_ (p'.symm.append_left T2)
      show (a :: (S2 ++ T2 ++ A)).Perm (T2 ++ (a :: (S2 ++ A)))
      refine List.Perm.trans ?_ (List.perm_middle.symm)
      refine List.Perm.cons a ?_
      rw [← List.append_assoc]
      exact List.perm_append_comm.append_right A
    exact (step_upd (Step.refl n) (h3.mem_iff.mpr (by simp))).perm pp
/-- o[k] = e, o a place; the old item holds nothing that is owned -/
theorem s_setP (h : DE K te ρ fun x ρ1 => x.imm = true ∧ ∃ (ds : List D) (put : D → Rho), Pl K ta ρ1 (.lst ds) put ∧ immA ds = true ∧ DB K ti ρ1 fun kd => ∃ k j, kd = .int k ∧ ixN ds.length k = some j ∧ De.nx (put (.lst (ds.set j x)))) :
    DS K M (tAsg te (gSub ta ti rSetL)) ρ De := fun w σ H F D0 s n p cn => h σ H F _ s n fun v x ρ1 H1 Sx F1 q rx s1 st => by
  obtain ⟨ix, ds, put, pl, im, q⟩ := q
  obtain rfl := Rep.imm_nil _ _ _ rx ix
  have n1 : F1.Nodup := st.nd
  obtain ⟨u, Se, A, h1, h2, h3, h4⟩ := pl σ H1 F1 s1 n1
  cases h2 with
  | @lst a vs _ S g1 g2 =>
    obtain rfl := RepA.imm_nil _ _ _ g2 im
    refine i_gSub (h1 _ (q σ H1 F1 _ s1 n1 fun kv kd Sk q rk _ => ?_))
    obtain ⟨k, j, rfl, hj, q⟩ := q
    cases rk
    have hj2 : j < ds.length := by
      unfold ixN at hj
      split at hj
      · split at hj
        · cases hj; omega
        · cases hj
      · split at hj
        · cases hj; omega
        · cases hj
    obtain ⟨v0, T0, B0, p1, p2, p3, p4⟩ := g2.at_ (List.getElem?_eq_getElem hj2)
    obtain ⟨S', ra, p5⟩ := p4 H1 v x [] (fun _ _ _ r _ => r) rx
    obtain ⟨e1, e2⟩ := List.append_eq_nil_iff.mp (List.Perm.eq_nil p3.symm)
    subst e1 e2
    obtain rfl := List.Perm.eq_nil p5
    have k0 : Keep [a] H1 (upd H1 a (.lst (vs.set j v))) := upd_keep (by simp)
    have m0 : ∀ b ∈ [a], Mu (H1 b) := fun b hb => by
      obtain rfl : b = a := by simpa using hb
      rw [g1]; trivial
    have r : Rep K (upd H1 a (.lst (vs.set j v))) (.ref a) (.lst (ds.set j x)) [a] := .lst upd_same (RepA.mono k0 m0 _ _ _ ra (by simp))
    obtain ⟨F', s', st'⟩ := place_put (T := []) (put := put) st h3 h4 (upd_keep (by simp)) r (h3.nodup_iff.mp n1) fun b hb => .inl (by simpa using hb)
    exact i_setL g1 (by rw [g2.length]; exact hj) (cn.nx σ _ _ F' q s' st' p)
/-! methods -/
theorem zip_noneD {vs : List V} (h : m ∉ ns) : (ns.zip vs).lookup m = none := zip_none h
theorem d_meth (hm : m ∉ ns) {x0 : List D} (e0 : ρ[i]? = some (some (.ins c ns x0))) (h : DE K (tCall (spD K M P) [] E (tCons (tVar i) ar)) ρ Qd) : DE K (tMeth (gA c K) m (spD K M P) [] E (tVar i) ar) ρ Qd := fun σ H F Q s n k => by
  have z := h σ H F Q s n k
  obtain ⟨v0, S0, A0, hv0, r0, _, _⟩ := s.out e0
  obtain ⟨v, hv, z⟩ := z
  rw [hv0] at hv
  obtain rfl : v0 = v := by simpa using hv
  cases r0 with
  | ins g1 g2 => exact ⟨_, hv0, _, _, _, rfl, g1, zip_none hm, z⟩
theorem d_prop {x0 : List D} (e0 : ρ[i]? = some (some (.ins c ns x0))) (h : DE K (tCall (spD K M P) [] E (tCons (tVar i) tNil)) ρ Qd) : DE K (tProp (gA c K) (spD K M P) [] E (tVar i)) ρ Qd := fun σ H F Q s n k => by
  have z := h σ H F Q s n k
  obtain ⟨v0, S0, A0, hv0, r0, _, _⟩ := s.out e0
  obtain ⟨v, hv, z⟩ := z
  rw [hv0] at hv
  obtain rfl : v0 = v := by simpa using hv
  cases r0 with
  | ins g1 g2 => exact ⟨_, hv0, _, _, _, rfl, g1, z⟩
/-- o.m(..), o a place -/
theorem d_methP (hm : m ∉ ns) (pl : Pl K ta ρ (.ins c ns xs) put) (h : DNA K ar ρ fun ds => P (.ins c ns xs :: ds) fun d r => ∀ x', r = [x'] → Qd d (put x')) : DE K (tMeth (gA c K) m (spD K [0] P) [] E ta ar) ρ Qd := fun σ H F Q s n k => by
  obtain ⟨u, Se, A, h1, h2, h3, h4⟩ := pl σ H F s n
  cases id h2 with
  | @ins a dx _ _ vs _ S g1 g2 =>
    refine h1 _ ⟨a, dx, _, rfl, g1, zip_none hm, h σ H F _ s n fun us ds H1 T q ra st => ?_⟩
    have ndF := h3.nodup_iff.mp n
    have nx : ∀ b ∈ T, H b = none := fun b hb => (st.sub b hb).elim (fun z => by cases z) id
    have mF : ∀ b ∈ (a :: S) ++ A, Mu (H b) := fun b hb => s.mut b (h3.mem_iff.mpr hb)
    have far : ∀ b ∈ T, b ∉ (a :: S) ++ A := fun b hb hc => by
      have z := mF b hc
      rw [nx b hb] at z
      exact z
    have r1 := Rep.mono st.keep (by simp) _ _ _ h2 (by simp)
    have ndA : (((a :: S) ++ T) ++ A).Nodup := by
      have e1 : (((a :: S) ++ T) ++ A).Perm (T ++ ((a :: S) ++ A)) := by
        rw [← List.append_assoc]
        exact List.perm_append_comm.append_right A
      refine e1.nodup_iff.mpr (List.nodup_append.mpr ⟨st.nd, ndF, fun b hb b' hb' => ?_⟩)
      rintro rfl
      exact far b hb hb'
    refine ⟨.ins c ns xs :: ds, (a :: S) ++ T, _, .cons r1 (by simpa only [List.append_nil] using ra), (List.nodup_append.mp ndA).1, q, fun v d ds' ws H' S1 S2 q r lw hw rw' st2 => ?_⟩
    obtain ⟨y, rfl⟩ : ∃ y, ws = [y] := by
      match ws, lw with
      | [y], _ => exact ⟨y, rfl⟩
    have e2 := hw 0 (by simp)
    obtain rfl : y = .ref a := by simpa using e2
    cases rw' with
    | @cons _ _ x' ds2 S3 T3 r3 rn =>
      cases rn
      rw [List.append_nil] at st2
      have mm : ∀ b ∈ (a :: S) ++ T, Mu (H1 b) := fun b hb => by
        rcases List.mem_append.mp hb with z | z
        · exact Rep.mut _ _ _ r1 b z
        · exact RepA.mut _ _ _ ra b z
      have kk : Keep (a :: S) H H' := fun b o nb eb => by
        have hb := st.keep b o (by simp) eb
        refine st2.keep b o (fun z => ?_) hb
        rcases List.mem_append.mp z with z | z
        · exact nb z
        · rw [nx b z] at eb; cases eb
      obtain ⟨F', s', p'⟩ := h4 H' x' S3 kk r3
      refine k v d _ H' S1 F' (q x' rfl) r s' ?_
      -- all that is owned at the end
      have stA : Step F H (A ++ ((a :: S) ++ T)) H1 := by
        refine ⟨fun b o nb eb => st.keep b o (by simp) eb, (List.perm_append_comm.nodup_iff).mp ndA, fun b hb => ?_⟩
        rcases List.mem_append.mp hb with z | z
        · exact .inl (h3.mem_iff.mpr (List.mem_append_right _ z))
        · rcases List.mem_append.mp z with z | z
          · exact .inl (h3.mem_iff.mpr (List.mem_append_left _ z))
          · exact .inr (nx b z)
      have mA : ∀ b ∈ A, Mu (H1 b) := fun b hb => by
        have z := mF b (List.mem_append_right _ hb)
        cases e : H b with
        | none => rw [e] at z; exact z.elim
        | some o => rw [st.keep b o (by simp) e, ← e]; exact z
      have fin := stA.aside mA st2
      refine fin.perm ?_
      refine List.perm_append_comm.trans ?_
      rw [List.append_assoc]
      exact (p'.symm).append_left S1
/-- C(..) -/
theorem d_make (h : DAL K ar ρ fun as ρ1 => ∃ ds ρ2, Take ρ1 as ds ρ2 ∧ P (.ins c ns [] :: ds) fun d r => d = .non ∧ ∀ x' r', r = x' :: r' → Qd x' (giveR ρ2 (.inl .non :: as) M r')) (hM : (0 :: M).Nodup) : DE K (tMake (gA c K) (spD K (0 :: M) P) [] E ar) ρ Qd := fun σ H F Q s n k => by
  refine h σ H F _ s n fun vs as ρ1 H1 S F1 q ra s1 st => ?_
  obtain ⟨ds, ρ2, tk, q⟩ := q
  intro x dx hx hdx hne
  obtain ⟨S', A, g1, g2, g3⟩ := take_rep ra s1 tk
  have st1 := st.perm g3
  obtain ⟨l1, l2⟩ := take_lent tk
  -- the new instance
  have k1 : Keep [] H1 (upd (upd H1 dx (.own x)) x (.ins (gA c K) dx [])) := ((Keep.refl H1).put (.inr hdx)).put (.inr hx)
  have rx : Rep K (upd (upd H1 dx (.own x)) x (.ins (gA c K) dx [])) (.ref x) (.ins c ns []) [x] := .ins (xs := []) (by rw [upd_same, List.zip_nil_right]) .nil
  have ra1 := RepA.mono k1 (by simp) _ _ _ g1 (by simp)
  have s2 := g2.mono k1 (by simp) (by simp)
  have mF : ∀ b ∈ S' ++ A, Mu (H1 b) := fun b hb => by
    rcases List.mem_append.mp hb with z | z
    · exact RepA.mut _ _ _ g1 b z
    · exact g2.mut b z
  have nxF : x ∉ S' ++ A := fun z => by
    have := mF x z
    rw [hx] at this
    exact this
  have st2 : Step F H (x :: (S' ++ A)) (upd (upd H1 dx (.own x)) x (.ins (gA c K) dx [])) := ⟨fun a o na e => k1 a o (by simp) (st1.keep a o na e), List.nodup_cons.mpr ⟨nxF, st1.nd⟩, fun a ha => by
    rcases List.mem_cons.mp ha with rfl | ha
    · by_cases q : a ∈ F
      · exact .inl q
      · refine .inr ?_
        cases eo : H a with
        | none => rfl
        | some o => rw [st1.keep a o q eo] at hx; cases hx
    · exact st1.sub a ha⟩
  have e1 : RepA K (upd (upd H1 dx (.own x)) x (.ins (gA c K) dx [])) (.ref x :: (vs ++ [])) (.ins c ns [] :: ds) (x :: S') := by
    rw [List.append_nil]
    exact .cons rx ra1
  refine ⟨.ins c ns [] :: ds, x :: S', _, e1, (List.nodup_append.mp (show ((x :: S') ++ A).Nodup from st2.nd)).1, q, fun v d r ws H' S1 S2 q rv lw hw rw' st3 => ?_⟩
  obtain ⟨rfl, q⟩ := q
  cases rv
  refine ⟨rfl, ?_⟩
  cases rw' with
  | nil => simp at lw
  | @cons y ws x' r' S3 S4 r3 r4 =>
    have e2 := hw 0 (by simp)
    obtain rfl : y = .ref x := by simpa using e2
    have st3' : Step (x :: S') (upd (upd H1 dx (.own x)) x (.ins (gA c K) dx [])) (S3 ++ S4) H' := st3
    have mS : ∀ a ∈ x :: S', Mu (upd (upd H1 dx (.own x)) x (.ins (gA c K) dx []) a) := RepA.mut _ _ _ e1
    have s3 := s2.mono st3'.keep mS fun a ha hb => by
      rcases List.mem_cons.mp hb with rfl | hb
      · exact nxF (List.mem_append_right _ ha)
      · exact st1.far a hb ha
    have hw' : ∀ j, j < M.length → ws[j]? = (V.ref x :: vs)[M.getD j 0]? := fun j hj => by
      have z := hw (j + 1) (by simpa using hj)
      simpa using z
    obtain ⟨n1, n2⟩ := List.nodup_cons.mp hM
    obtain ⟨B, C, s4, p4⟩ := give_sl (σ := σ) (as := .inl .non :: as) (vs := V.ref x :: vs) n2 (by simpa using lw) hw' r4 s3 (fun k hk i e => by
      cases k with
      | zero => simp at e
      | succ k =>
        have e' : as[k]? = some (.inr i) := by simpa using e
        exact ⟨l1 i (List.mem_of_getElem? e'), by simpa using ra.lentAt e'⟩) (fun k l i hk hl => by
      cases k with
      | zero => simp at hk
      | succ k =>
        cases l with
        | zero => simp at hl
        | succ l => rw [l2 k l i (by simpa using hk) (by simpa using hl)])
    refine k (.ref x) x' _ H' S3 B (q x' r' rfl) r3 s4 ?_
    have mA : ∀ a ∈ A, Mu (upd (upd H1 dx (.own x)) x (.ins (gA c K) dx []) a) := s2.mut
    have st4 : Step F H (A ++ (x :: S')) _ := st2.perm (List.perm_append_comm (l₁ := x :: S') (l₂ := A))
    have st5 := st4.aside mA st3'
    have pp : (A ++ (S3 ++ S4)).Perm ((S3 ++ B) ++ C) := by
      refine List.perm_append_comm.trans ?_
      rw [List.append_assoc, List.append_assoc]
      exact p4.append_left S3
    exact (st5.perm pp).subl (List.sublist_append_left ..)
end
/-! ### dicts whose keys are rows of ints; sorted rows -/
section
variable {K : PySem.W.Frag} {H H' H1 H2 : Hp} {F F1 F2 S T A G G1 G2 : List Addr} {σ : L2.St} {ρ ρ1 ρ2 : Rho} {d e : D} {v : V} {i j n : Nat} {M : List Nat} {w : Nat → V} {De : DEnds} {te ta tb tv ti td ty : TE} {ar : TA} {Qd : D → Rho → Prop} {Qb : D → Prop} {put : D → Rho} {ks : List (List Int)} {xs : List D} {ds : List D} {k : List Int}
theorem inl_inj : ∀ {a b : List Int}, (a.map (Sum.inl : Int → Key)) = b.map Sum.inl → a = b
  | [], [], _ => rfl
  | [], _ :: _, h => by simp at h
  | _ :: _, [], h => by simp at h
  | x :: a, y :: b, h => by
    rw [List.map_cons, List.map_cons] at h
    obtain ⟨h1, h2⟩ := List.cons.inj h
    rw [Sum.inl.inj h1, inl_inj h2]
theorem kv_map (k : List Int) : (k.map (Sum.inl : Int → Key)).map kV = k.map V.int := by rw [List.map_map]; rfl
theorem kz_some : ∀ {ks : List (List Int)} {vs : List V}, vs.length = ks.length → (valV (kz ks vs) (k.map Sum.inl)).isSome = decide (k ∈ ks)
  | [], _, _ => by simp [kz, valV]
  | a :: ks, [], h => by simp at h
  | a :: ks, v :: vs, h => by
    have ih := kz_some (ks := ks) (vs := vs) (by simpa using h)
    unfold valV kz at ih ⊢
    rw [List.zip_cons_cons, List.map_cons, List.find?_cons]
    by_cases e : a = k
    · subst e
      simp
    · have e' : ¬ (a.map (Sum.inl : Int → Key)) = k.map Sum.inl := fun z => e (inl_inj z)
      have e2 : ¬ k = a := fun z => e z.symm
      simp only [decide_eq_false e']
      rw [ih]
      simp [e2]
theorem kz_at : ∀ {ks : List (List Int)} {vs : List V} {j : Nat} {v : V}, ks.Nodup → vs.length = ks.length → ks[j]? = some k → vs[j]? = some v → valV (kz ks vs) (k.map Sum.inl) = some v
  | [], _, j, _, _, _, h, _ => by simp at h
  | a :: ks, [], _, _, _, h, _, _ => by simp at h
  | a :: ks, u :: vs, 0, v, nd, h, h1, h2 => by
    obtain rfl : a = k := by simpa using h1
    obtain rfl : u = v := by simpa using h2
    simp [valV, kz]
  | a :: ks, u :: vs, j + 1, v, nd, h, h1, h2 => by
    obtain ⟨n1, n2⟩ := List.nodup_cons.mp nd
    have ih := kz_at (j := j) n2 (by simpa using h) (by simpa using h1) (by simpa using h2)
    have e : ¬ a = k := by
      rintro rfl
      exact n1 (List.mem_of_getElem? (by simpa using h1))
    have e' : ¬ (a.map (Sum.inl : Int → Key)) = k.map Sum.inl := fun z => e (inl_inj z)
    unfold valV kz at ih ⊢
    rw [List.zip_cons_cons, List.map_cons, List.find?_cons]
    simp only [decide_eq_false e']
    exact ih
theorem kz_put {vs : List V} {v : V} (hl : vs.length = ks.length) (h : k ∉ ks) : putK (kz ks vs) (k.map Sum.inl) v = kz (ks ++ [k]) (vs ++ [v]) := by
  have z := kz_some (k := k) hl
  rw [decide_eq_false h] at z
  have z2 : ((kz ks vs).any fun kv => decide (kv.1 = k.map Sum.inl)) = false := by
    unfold valV at z
    rw [Option.isSome_map] at z
    rw [← List.isSome_find?]
    exact z
  unfold putK
  rw [z2, if_neg (by simp)]
  unfold kz
  rw [List.zip_append (by rw [hl]), List.map_append]
  rfl
theorem kz_len {vs : List V} (hl : vs.length = ks.length) : (kz ks vs).length = ks.length := by simp [kz, hl]
theorem n_dic (h : Qb (.dic [] [])) : DN K tDNewT ρ Qb := fun σ H F Q s n k => fun p hp => k (.ref p) (.dic [] []) _ [p] h (.dic (xs := []) upd_same rfl .nil) (stepN hp)
/-- k in d -/
theorem d_din (h : DE K ty ρ fun y ρ1 => ∃ k, y = .key k ∧ DB K td ρ1 fun x => ∃ ks xs, x = .dic ks xs ∧ Qd (.bl (decide (k ∈ ks))) ρ1) : DE K (tDIn ty td) ρ Qd := fun σ H F Q s n k => h σ H F _ s n fun v y ρ1 H1 S F1 q ry s1 st => by
  obtain ⟨kk, rfl, q⟩ := q
  cases ry with
  | key hk =>
    refine q σ H1 F1 _ s1 st.nd fun u x T q rx hT => ?_
    obtain ⟨ks, xs, rfl, q⟩ := q
    cases rx with
    | @dic a _ vs _ _ g1 g2 g3 =>
      refine ⟨a, _, rfl, DGet.t g1 (by rw [kv_map]; exact hk), ?_⟩
      rw [kz_some g2]
      exact k _ _ ρ1 H1 [] F1 q (.bl _) s1 st
theorem d_dnotin (h : DE K ty ρ fun y ρ1 => ∃ k, y = .key k ∧ DB K td ρ1 fun x => ∃ ks xs, x = .dic ks xs ∧ Qd (.bl (!decide (k ∈ ks))) ρ1) : DE K (tDNotIn ty td) ρ Qd := fun σ H F Q s n k => h σ H F _ s n fun v y ρ1 H1 S F1 q ry s1 st => by
  obtain ⟨kk, rfl, q⟩ := q
  cases ry with
  | key hk =>
    refine q σ H1 F1 _ s1 st.nd fun u x T q rx hT => ?_
    obtain ⟨ks, xs, rfl, q⟩ := q
    cases rx with
    | @dic a _ vs _ _ g1 g2 g3 =>
      refine ⟨a, _, rfl, DGet.t g1 (by rw [kv_map]; exact hk), ?_⟩
      rw [kz_some g2]
      exact k _ _ ρ1 H1 [] F1 q (.bl _) s1 st
/-- d[k], there; what it gives holds nothing that is owned -/
theorem d_dget (h : DB K td ρ fun x => ∃ (ks : List (List Int)) (xs : List D), x = .dic ks xs ∧ DB K ty ρ fun y => ∃ (k : List Int) (j : Nat) (d : D), y = .key k ∧ ks.Nodup ∧ ks[j]? = some k ∧ xs[j]? = some d ∧ d.imm = true ∧ Qd d ρ) : DE K (tDGet td ty) ρ Qd := fun σ H F Q s n k => h σ H F _ s n fun u x T q rx hT => by
  obtain ⟨ks, xs, rfl, q⟩ := q
  refine q σ H F _ s n fun v y S q ry hS => ?_
  obtain ⟨kk, j, d, rfl, nd, e1, e2, im, q⟩ := q
  cases ry with
  | key hk =>
    cases rx with
    | @dic a _ vs _ _ g1 g2 g3 =>
      obtain ⟨w, T0, A0, p1, p2, p3, _⟩ := g3.at_ e2
      obtain rfl := Rep.imm_nil _ _ _ p2 im
      refine ⟨a, w, rfl, ?_, k w d ρ H [] F q p2 s (.refl n)⟩
      have := DGet.t (k := kk.map Sum.inl) g1 (by rw [kv_map]; exact hk)
      rw [kz_at nd g2 e1 p1] at this
      exact this
/-- d[k] = e, k new -/
theorem s_dput (h : DE K tv ρ fun y ρ1 => ∃ (ks : List (List Int)) (xs : List D) (put : D → Rho), y.imm = true ∧ Pl K td ρ1 (.dic ks xs) put ∧ DN K ty ρ1 fun z => ∃ k, z = .key k ∧ k ∉ ks ∧ ks.length < sizeLine ∧ De.nx (put (.dic (ks ++ [k]) (xs ++ [y])))) : DS K M (sDPut td ty tv) ρ De := fun w σ H F D0 s n p cn => h σ H F _ s n fun v y ρ1 H1 Sy F1 q ry s1 st => by
  obtain ⟨ks, xs, put, im, pl, q⟩ := q
  obtain rfl := Rep.imm_nil _ _ _ ry im
  have n1 : F1.Nodup := st.nd
  obtain ⟨u, Se, A, h1, h2, h3, h4⟩ := pl σ H1 F1 s1 n1
  cases h2 with
  | @dic a _ vs _ S g1 g2 g3 =>
    refine h1 _ (q σ H1 F1 _ s1 n1 fun kv kd H2 Sk q rk st2 => ?_)
    obtain ⟨k, rfl, hk, hl, q⟩ := q
    cases rk with
    | @key b _ hb =>
      have ga : H2 a = some (.dT (kz ks vs)) := st2.keep a _ (by simp) g1
      refine ⟨a, _, rfl, DPut.t (k := k.map Sum.inl) ga (by rw [kv_map]; exact hb) (by rw [kz_len g2]; exact hl), ?_⟩
      rw [kz_put g2 hk]
      have ndF := h3.nodup_iff.mp n1
      have na : a ∉ S ++ A := (List.nodup_cons.mp ndF).1
      have k0 : Keep [a] H2 (upd H2 a (.dT (kz (ks ++ [k]) (vs ++ [v])))) := upd_keep (by simp)
      have m0 : ∀ b ∈ [a], Mu (H2 b) := fun b hb => by
        obtain rfl : b = a := by simpa using hb
        rw [ga]; trivial
      have g3' := RepA.mono st2.keep (by simp) _ _ _ g3 (by simp)
      have ry' := Rep.mono st2.keep (by simp) _ _ _ ry (by simp)
      have ra := g3'.append (.cons ry' .nil)
      simp only [List.append_nil] at ra
      have r : Rep K (upd H2 a (.dT (kz (ks ++ [k]) (vs ++ [v])))) (.ref a) (.dic (ks ++ [k]) (xs ++ [y])) (a :: S) := .dic upd_same (by simp [g2]) (RepA.mono k0 m0 _ _ _ ra fun b hb z => by
        obtain rfl : b = a := by simpa using z
        exact na (List.mem_append_left _ hb))
      obtain ⟨F', s', st'⟩ := place_put (T := []) (put := put) st h3 h4 (fun b o nb eb => by
        have hb := st2.keep b o (by simp) eb
        rw [upd_ne (fun z => nb (by rw [z]; simp))]
        exact hb) r ndF fun b hb => .inl (by simpa using hb)
      exact cn.nx σ _ _ F' q s' st' p
/-- list(d) -/
theorem cb_listDT (h : Qb (.lst (ks.map D.key))) : CbN K (rListU K) (.dic ks xs) Qb := fun v S H Q rx kk => by
  cases rx with
  | @dic a _ vs _ _ g1 g2 g3 =>
    refine .inr ⟨a, _, rfl, .inl g1, fun p bs hp hk => ?_⟩
    have ra : ∀ {ks : List (List Int)} {vs : List V} {bs : List Addr}, vs.length = ks.length → IsKeys H (kz ks vs) bs → RepA K H (bs.map V.ref) (ks.map D.key) [] := by
      intro ks
      induction ks with
      | nil =>
        intro vs bs hl hk
        have : kz [] vs = [] := by simp [kz]
        rw [this] at hk
        cases hk
        exact .nil
      | cons k ks ih =>
        intro vs bs hl hk
        match vs, hl with
        | v :: vs, hl =>
          have e : kz (k :: ks) (v :: vs) = (k.map Sum.inl, v) :: kz ks vs := by simp [kz]
          rw [e] at hk
          cases hk with
          | cons h1 h2 =>
            refine .cons (S := []) (.key ?_) (ih (by simpa using hl) h2)
            have h1 := h1
            rw [kv_map] at h1
            exact h1
    exact kk (.ref p) _ _ [p] h (newL hp (ra g2 hk)) (stepN hp)
theorem cb_listU (hd : SqD d ds) (im : immA ds = true) (h : Qb (.lst ds)) : CbN K (rListU K) d Qb := fun v S H Q rx k => .inl (cb_list hd im h v S H Q rx k)
/-- sorted(xs), xs rows of ints -/
theorem repK_zip : ∀ {ks : List (List Int)} {us : List V}, RepA K H us (ks.map D.key) [] → ∃ T : List (V × List Int), T.map (·.1) = us ∧ T.map (·.2) = ks ∧ ∀ t ∈ T, Rep K H t.1 (.key t.2) []
  | [], us, h => by
    cases h
    exact ⟨[], rfl, rfl, by simp⟩
  | k :: ks, us, h => by
    obtain ⟨v, us, rfl, h1, h2⟩ := repA_cons0 h
    obtain ⟨T, h3, h4, h5⟩ := repK_zip h2
    exact ⟨(v, k) :: T, by simp [h3], by simp [h4], fun t ht => by
      rcases List.mem_cons.mp ht with rfl | ht
      · exact h1
      · exact h5 t ht⟩
theorem repK_of : ∀ {T : List (V × List Int)}, (∀ t ∈ T, Rep K H t.1 (.key t.2) []) → RepA K H (T.map (·.1)) ((T.map (·.2)).map D.key) []
  | [], _ => .nil
  | t :: T, h => .cons (S := []) (h t (List.mem_cons_self ..)) (repK_of fun s hs => h s (List.mem_cons_of_mem _ hs))
theorem imm_keys : ∀ ks : List (List Int), immA (ks.map D.key) = true
  | [] => rfl
  | k :: ks => by simp [immA, D.imm, imm_keys ks]
theorem cb_sortedR (h : ∀ ks', List.Perm ks' ks → ks'.Pairwise (fun a b => HT.lexLt b a = false) → Qb (.lst (ks'.map D.key))) : CbN K (rSortedU K) (.lst (ks.map D.key)) Qb := fun v S H Q rx k => by
  cases rx with
  | @lst a us _ S h1 h2 =>
    obtain rfl := RepA.imm_nil _ _ _ h2 (imm_keys ks)
    obtain ⟨T, t1, t2, t3⟩ := repK_zip h2
    refine .inr ⟨a, T, rfl, by rw [t1]; exact SqL.of h1, fun x hx => ?_, fun ps' p hp hs hn => ?_⟩
    · have r := t3 x hx
      obtain ⟨x1, x2⟩ := x
      cases r with
      | key g => exact ⟨_, rfl, SqT.of g⟩
    · have hr := repK_of (K := K) (H := H) fun t ht => t3 t (hp.mem_iff.mp ht)
      exact k (.ref p) _ _ [p] (h (ps'.map (·.2)) (by rw [← t2]; exact hp.map _) (List.pairwise_map.mpr hs)) (newL hn hr) (stepN hn)
theorem cb_sortedE {es : List (List Int × Val)} (nd : (es.map (·.1)).Nodup) (h : ∀ es', List.Perm es' es → es'.Pairwise (fun e f => HT.lexLt e.1 f.1 = true) → Qb (.lst (dtM es'))) : CbN K (rSortedU K) (.lst (dtM es)) Qb := fun v S H Q rx k => .inl (cb_sorted nd h v S H Q rx k)
end
/-! ### further rules -/
mutual
def litD : Lit → D
  | .non => .non
  | .bl b => .bl b
  | .int i => .int i
  | .str x => .str x
  | .tup ls => .tup (litA ls)
def litA : List Lit → List D
  | [] => []
  | l :: ls => litD l :: litA ls
end
mutual
theorem rep_lit {K : PySem.W.Frag} {H : Hp} : ∀ {l : Lit} {v : V}, LitIs K v l → Rep K H v (litD l) []
  | .non, _, h => by obtain rfl := h; exact .non
  | .bl _, _, h => by obtain rfl := h; exact .bl _
  | .int _, _, h => by obtain rfl := h; exact .int _
  | .str _, _, h => by obtain rfl := h; exact .str _
  | .tup ls, _, h => by
    obtain ⟨a, xs, rfl, h1, h2⟩ := h
    exact .tup (h1 H) (rep_lits h2)
theorem rep_lits {K : PySem.W.Frag} {H : Hp} : ∀ {ls : List Lit} {vs : List V}, LitsAre K vs ls → RepA K H vs (litA ls) []
  | [], _, h => by obtain rfl := h; exact .nil
  | l :: ls, _, h => by
    obtain ⟨y, ys, rfl, h1, h2⟩ := h
    exact .cons (S := []) (rep_lit h1) (rep_lits h2)
end
mutual
theorem imm_lit : ∀ l : Lit, (litD l).imm = true
  | .non | .bl _ | .int _ | .str _ => rfl
  | .tup ls => by simp [litD, D.imm, imm_lits ls]
theorem imm_lits : ∀ ls : List Lit, immA (litA ls) = true
  | [] => rfl
  | l :: ls => by simp [litA, immA, imm_lit l, imm_lits ls]
end
section
variable {K : PySem.W.Frag} {H H' H1 H2 : Hp} {F F1 F2 S T A G G1 G2 : List Addr} {σ : L2.St} {ρ ρ1 ρ2 : Rho} {d e : D} {v : V} {i j n : Nat} {M : List Nat} {De : DEnds} {te ta tb tv ti td ty : TE} {ar : TA} {Qd : D → Rho → Prop} {Qb : D → Prop} {put : D → Rho} {P : SpD} {E : XK} {c : Str} {ns : List Str} {a : Addr} {l : Lit}
theorem b_lit (h : LitIs K (.ref a) l) (q : Qb (litD l)) : DB K (tC (.ref a)) ρ Qb := fun σ H F Q s n k => k _ _ [] q (rep_lit h) (by simp)
theorem d_lit (h : LitIs K (.ref a) l) (q : Qd (litD l) ρ) : DE K (tC (.ref a)) ρ Qd := DB.toE (b_lit h ⟨imm_lit l, q⟩)
theorem o_isB {x y : Bool} (h : Qb (.bl (decide (x = y)))) : OpP K rIsB (.bl x) (.bl y) Qb := fun _ _ _ _ H Q r1 r2 k => by cases r1; cases r2; exact i_isB (k _ _ h (.bl _))
theorem o_notB {x y : Bool} (h : Qb (.bl (!decide (x = y)))) : OpP K rNotB (.bl x) (.bl y) Qb := fun _ _ _ _ H Q r1 r2 k => by cases r1; cases r2; exact i_notB (k _ _ h (.bl _))
mutual
theorem eqv_self : ∀ d : D, PyData.eqv d.py d.py = true
  | .non => by simp [D.py, PyData.eqv]
  | .bl _ => by simp [D.py, PyData.eqv]
  | .int _ => by simp [D.py, PyData.eqv]
  | .str _ => by simp [D.py, PyData.eqv]
  | .ins _ _ _ => by simp [D.py, PyData.eqv]
  | .dic _ _ => by simp [D.py, PyData.eqv]
  | .key ns => by
    have : ∀ ns : List Int, PyData.eqvAll (ns.map PyData.int) (ns.map PyData.int) = true := fun ns => by
      induction ns with
      | nil => simp [PyData.eqvAll]
      | cons n ns ih => simp [PyData.eqvAll, PyData.eqv, ih]
    simp [D.py, PyData.eqv, this]
  | .tup ds => by simp [D.py, PyData.eqv, eqv_selfA ds]
  | .lst ds => by simp [D.py, PyData.eqv, eqv_selfA ds]
  | .rol ds => by simp [D.py, PyData.eqv, eqv_selfA ds]
theorem eqv_selfA : ∀ ds : List D, PyData.eqvAll (pyA ds) (pyA ds) = true
  | [] => by simp [pyA, PyData.eqvAll]
  | d :: ds => by simp [pyA, PyData.eqvAll, eqv_self d, eqv_selfA ds]
end
/-- a call whose one argument is a place that is lent -/
theorem d_callP (pl : Pl K ta ρ d put) (h : P [d] fun x r => ∀ x', r = [x'] → Qd x (put x')) : DE K (tCall (spD K [0] P) [] E (tCons ta tNil)) ρ Qd := fun σ H F Q s n k => by
  obtain ⟨u, Se, A, h1, h2, h3, h4⟩ := pl σ H F s n
  refine i_call (i_cons (h1 _ (i_nil ?_)))
  have ndF := h3.nodup_iff.mp n
  have ra : RepA K H [u] [d] Se := by
    have := RepA.cons h2 .nil
    rwa [List.append_nil] at this
  refine ⟨[d], Se, _, ra, (List.nodup_append.mp ndF).1, h, fun v x ds' ws H' S1 S2 q r lw hw rw' st2 => ?_⟩
  obtain ⟨y, rfl⟩ : ∃ y, ws = [y] := by
    match ws, lw with
    | [y], _ => exact ⟨y, rfl⟩
  have e2 := hw 0 (by simp)
  obtain rfl : y = u := by simpa using e2
  cases rw' with
  | @cons _ _ x' ds2 S3 T3 r3 rn =>
    cases rn
    rw [List.append_nil] at st2
    obtain ⟨F', s', p'⟩ := h4 H' x' S3 st2.keep r3
    refine k v x _ H' S1 F' (q x' rfl) r s' ?_
    have mA : ∀ b ∈ A, Mu (H b) := fun b hb => s.mut b (h3.mem_iff.mpr (List.mem_append_right _ hb))
    have stA : Step F H (A ++ Se) H := (Step.refl n).perm (h3.trans List.perm_append_comm)
    have fin := stA.aside mA st2
    refine fin.perm ?_
    refine List.perm_append_comm.trans ?_
    rw [List.append_assoc]
    exact (p'.symm).append_left S1
/-- C(..), what is new alone -/
theorem n_make (h : DNA K ar ρ fun ds => P (.ins c ns [] :: ds) fun d r => d = .non ∧ ∀ x', r = [x'] → Qb x') : DN K (tMake (gA c K) (spD K [0] P) [] E ar) ρ Qb := fun σ H F Q s n k => by
  refine h σ H F _ s n fun vs ds H1 S q ra st => ?_
  intro x dx hx hdx hne
  have k1 : Keep [] H1 (upd (upd H1 dx (.own x)) x (.ins (gA c K) dx [])) := ((Keep.refl H1).put (.inr hdx)).put (.inr hx)
  have rx : Rep K (upd (upd H1 dx (.own x)) x (.ins (gA c K) dx [])) (.ref x) (.ins c ns []) [x] := .ins (xs := []) (by rw [upd_same, List.zip_nil_right]) .nil
  have ra1 := RepA.mono k1 (by simp) _ _ _ ra (by simp)
  have nxF : x ∉ S := fun z => by
    have := RepA.mut _ _ _ ra x z
    rw [hx] at this
    exact this
  have e1 : RepA K (upd (upd H1 dx (.own x)) x (.ins (gA c K) dx [])) (.ref x :: (vs ++ [])) (.ins c ns [] :: ds) (x :: S) := by
    rw [List.append_nil]
    exact .cons rx ra1
  have st2 : Step [] H (x :: S) (upd (upd H1 dx (.own x)) x (.ins (gA c K) dx [])) := ⟨fun a o na e => k1 a o (by simp) (st.keep a o na e), List.nodup_cons.mpr ⟨nxF, st.nd⟩, fun a ha => by
    rcases List.mem_cons.mp ha with rfl | ha
    · refine .inr ?_
      cases eo : H a with
      | none => rfl
      | some o => rw [st.keep a o (by simp) eo] at hx; cases hx
    · exact st.sub a ha⟩
  refine ⟨.ins c ns [] :: ds, x :: S, _, e1, st2.nd, q, fun v d r ws H' S1 S2 q rv lw hw rw' st3 => ?_⟩
  obtain ⟨rfl, q⟩ := q
  cases rv
  refine ⟨rfl, ?_⟩
  obtain ⟨y, rfl⟩ : ∃ y, ws = [y] := by
    match ws, lw with
    | [y], _ => exact ⟨y, rfl⟩
  have e2 := hw 0 (by simp)
  obtain rfl : y = .ref x := by simpa using e2
  cases rw' with
  | @cons _ _ x' ds2 S3 T3 r3 rn =>
    cases rn
    have st3' : Step (x :: S) (upd (upd H1 dx (.own x)) x (.ins (gA c K) dx [])) (S3 ++ []) H' := st3
    rw [List.append_nil] at st3'
    exact k (.ref x) x' H' S3 (q x' rfl) r3 (st2.trans st3')
/-- isinstance(x, T), T a built-in class -/
def tyName : D → String
  | .non => "NoneType"
  | .bl _ => "bool"
  | .int _ => "int"
  | .str _ => "str"
  | .tup _ => "tuple"
  | .key _ => "tuple"
  | .lst _ => "list"
  | .rol _ => "list"
  | .ins _ _ _ => ""
  | .dic _ _ => "dict"
theorem ty_sqT {xs : List V} (h : SqT K H a xs) : TyX K H (.ref a) (.type "tuple") := by
  rcases h with (h | ⟨o, h⟩) | ⟨o, its, n, h1, h2, _⟩
  · exact .base (.tup h)
  · exact .fTuple h
  · exact .kTuple h1 h2
theorem ty_sqL {xs : List V} (h : SqL K H a xs) : TyX K H (.ref a) (.type "list") := by
  rcases h with (h | ⟨o, h⟩) | ⟨o, its, n, h1, h2, _⟩
  · exact .base (.lst h)
  · exact .base (.frz h)
  · exact .kList h1 h2
theorem ty_rep (r : Rep K H v d S) (h : ∀ c ns xs, d ≠ .ins c ns xs) : TyX K H v (.type (tyName d)) := by
  cases r with
  | non => exact .base .non
  | bl b => exact .base (.bl b)
  | int i => exact .base (.int i)
  | str s => exact .base (.str s)
  | tup h1 _ => exact ty_sqT h1
  | key h1 => exact ty_sqT (SqT.of h1)
  | lst h1 _ => exact ty_sqL (SqL.of h1)
  | rol h1 _ =>
    rcases h1 with ⟨o, h1⟩ | h1
    · exact ty_sqL (.inl (.inr ⟨o, h1⟩))
    · exact ty_sqL (h1 H)
  | ins _ _ => exact absurd rfl (h _ _ _)
  | dic h1 _ _ => exact .base (.dT h1)
theorem d_isi {T : String} (h : DB K ta ρ fun x => (∀ c ns xs, x ≠ .ins c ns xs) ∧ ∃ b, kitB (tyName x) T = some b ∧ Qd (.bl b) ρ) : DE K (tCB (rIsi K) (tCons ta (tCons (tC (.ty T)) tNil))) ρ Qd := fun σ H F Q s n k => h σ H F _ s n fun v x S q rx hS => by
  obtain ⟨hn, b, hb, q⟩ := q
  exact ⟨v, .ty T, .type (tyName x), .type T, b, rfl, .ty T, ty_rep rx hn, kit_ty hb, k _ _ ρ H [] F q (.bl b) s (.refl n)⟩
theorem isi_ok {T : String} {b : Bool} {P : Prop} (hn : ∀ c ns xs, d ≠ .ins c ns xs) (hb : kitB (tyName d) T = some b) (h : Qd (.bl b) ρ) : (∀ c ns xs, d ≠ .ins c ns xs) ∧ ∃ b, kitB (tyName d) T = some b ∧ Qd (.bl b) ρ := ⟨hn, b, hb, h⟩
theorem fld_new {f : Str} {xs : List D} {y : D} {R : Rho → Prop} (pl : Pl K ta ρ (.ins c ns xs) put) (k : Kls K c ns) (hf : ns[xs.length]? = some f) (hl : ns.length ≤ 900) (h : R (put (.ins c ns (xs ++ [y])))) :
    ∃ (c : Str) (ns : List Str) (xs : List D) (put : D → Rho) (j : Nat), Pl K ta ρ (.ins c ns xs) put ∧ Kls K c ns ∧ ns[j]? = some f ∧ ns.length ≤ 900 ∧ ((j < xs.length ∧ R (put (.ins c ns (xs.set j y)))) ∨ (j = xs.length ∧ R (put (.ins c ns (xs ++ [y]))))) := ⟨c, ns, xs, put, xs.length, pl, k, hf, hl, .inr ⟨rfl, h⟩⟩
theorem fld_set {f : Str} {xs : List D} {y : D} {R : Rho → Prop} (j : Nat) (pl : Pl K ta ρ (.ins c ns xs) put) (k : Kls K c ns) (hf : ns[j]? = some f) (hl : ns.length ≤ 900) (hj : j < xs.length) (h : R (put (.ins c ns (xs.set j y)))) :
    ∃ (c : Str) (ns : List Str) (xs : List D) (put : D → Rho) (j : Nat), Pl K ta ρ (.ins c ns xs) put ∧ Kls K c ns ∧ ns[j]? = some f ∧ ns.length ≤ 900 ∧ ((j < xs.length ∧ R (put (.ins c ns (xs.set j y)))) ∨ (j = xs.length ∧ R (put (.ins c ns (xs ++ [y]))))) := ⟨c, ns, xs, put, j, pl, k, hf, hl, .inl ⟨hj, h⟩⟩
theorem d_tup0 (h : Qd (.key []) ρ) : DE K (tTup tNil) ρ Qd := d_tupK (a_nil ⟨by simp, [], rfl, h⟩)
theorem n_var {x : D} (e : ρ[i]? = some (some x)) (m : x.imm = true) (h : Qb x) : DN K (tVar i) ρ Qb := n_b (b_var e ⟨m, h⟩)
theorem nt_ok {ds : List D} (c : ds.length ≤ 1000000) (h : Qb (.tup ds)) : ds.length ≤ sizeLine ∧ Qb (.tup ds) := ⟨small_of c, h⟩
theorem ix_last {α : Type} (xs : List α) (x : α) : ixN (xs ++ [x]).length (-1) = some xs.length := by
  unfold ixN
  rw [if_neg (by decide), if_pos (by simp; omega)]
  simp
  omega
theorem at_last {α : Type} (xs : List α) (x : α) : (xs ++ [x])[xs.length]? = some x := by simp
theorem set_last {α : Type} (xs : List α) (x y : α) : (xs ++ [x]).set xs.length y = xs ++ [y] := by simp
/-- o[-1], a place -/
theorem pl_last {x : D} {xs : List D} (h : Pl K ta ρ (.lst (xs ++ [x])) put) : Pl K (tOp (rIxU K) ta (tUn rNegI (tC (.int 1)))) ρ x fun y => put (.lst (xs ++ [y])) := by
  have := pl_ix (j := xs.length) h (b_neg (b_int ⟨1, rfl, -1, rfl, ix_last xs x⟩)) (at_last xs x)
  simpa only [set_last] using this
theorem atI_zero {α : Type} (x : α) (r : List α) : atI (x :: r) 0 = some x := by
  unfold atI ixN
  rw [if_pos (by decide), if_pos (by simp)]
  rfl
end
/-! ### the law by data: its script is locked -/
def sp_law (K : PySem.W.Frag) : Sp := fun vs H Q _ => ∃ (a : Addr) (ns : List Int), vs = [.ref a] ∧ SqL K H a (ns.map V.int) ∧ ns.length ≤ 63 ∧ Only H ∧ ∀ H', Q (.bl true) H'
def p_law : SpD := fun ds Q => ∃ ns : List Int, ns.length ≤ 63 ∧ ds = [.rol (ns.map .int)] ∧ Q = fun d _ => d = .bl true
section
variable {K : PySem.W.Frag} {vs : List V} {H : Hp} {Q : VK} {E : XK}
theorem rep_ints0 : ∀ ns : List Int, RepA K H (ns.map V.int) (ns.map D.int) []
  | [] => .nil
  | n :: ns => .cons (S := []) (.int n) (rep_ints0 ns)
theorem law_spD (h : sp_law K vs H Q E) : spD K [] p_law vs H Q E := by
  obtain ⟨a, ns, rfl, hq, hl, ho, hv⟩ := h
  refine ⟨[.rol (ns.map .int)], [], fun d _ => d = .bl true, .cons (S := []) (.rol (xs := ns.map V.int) ?_ (rep_ints0 ns)) .nil, .nil, ⟨ns, hl, rfl, rfl⟩, fun v d ds' ws H' S1 S2 q r _ _ _ _ => ?_⟩
  · rcases hq with (h | h) | h
    · rcases ho a with z | ⟨o, xs, z⟩
      · rw [h] at z; cases z
      · rw [h] at z; cases z
    · exact .inl h
    · exact .inr fun _ => .inr h
  · obtain rfl : d = .bl true := q
    cases r
    exact hv H'
theorem len_law (h : sp_law K vs H Q E) : vs.length = 1 := by
  obtain ⟨a, ns, rfl, _⟩ := h
  rfl
theorem law_of {N : List Str} {t : TS} (hd : ∀ ns : List Int, ns.length ≤ 63 → DS K [] t (rho0 N [.rol (ns.map .int)]) (endsD [] fun d _ => d = .bl true)) (h : sp_law K vs H Q E) : t { nx := fun _ H' => Q .non H', rt := Q } (L2.start N vs) H := by
  refine body_of (by decide) (by simp) (fun ds Qd hP => ?_) (law_spD h)
  obtain ⟨ns, hl, rfl, rfl⟩ := hP
  exact hd ns hl
end
theorem spD_no {K : PySem.W.Frag} {M : List Nat} {P : SpD} {vs : List V} {H : Hp} {Q : VK} {E : XK} (hP : ∀ ds Qd, ¬ P ds Qd) (h : spD K M P vs H Q E) : False := by
  obtain ⟨ds, S, Qd, _, _, hp, _⟩ := h
  exact hP ds Qd hp
/-! ### xs.insert(i, y), xs a slot, all of it immutable -/
def rInsert : V → List V → Hp → VK → Prop := fun x vs H Q => ∃ (l : Addr) (xs : List V) (i : Int) (y : V), x = .ref l ∧ vs = [.int i, y] ∧ H l = some (.lst xs) ∧ xs.length < sizeLine ∧ 0 ≤ i ∧ i < 2 ^ 63 ∧ Q .non (upd H l (.lst (xs.take i.toNat ++ [y] ++ xs.drop i.toNat)))
section
variable {K : PySem.W.Frag} {H H' H1 H2 : Hp} {F F1 F2 S T A G G1 G2 : List Addr} {σ : L2.St} {ρ ρ1 ρ2 : Rho} {d e : D} {v : V} {i j n : Nat} {M : List Nat} {De : DEnds} {te ta tb tv ti td ty : TE} {ar : TA} {Qd : D → Rho → Prop}
theorem RepA.take0 : ∀ (n : Nat) {ds : List D} {vs : List V}, RepA K H vs ds [] → RepA K H (vs.take n) (ds.take n) []
  | 0, _, _, _ => by simpa using RepA.nil
  | n + 1, [], vs, h => by cases h; exact .nil
  | n + 1, d :: ds, vs, h => by
    obtain ⟨v, us, rfl, h1, h2⟩ := repA_cons0 h
    exact .cons (S := []) h1 (RepA.take0 n h2)
theorem RepA.drop0 : ∀ (n : Nat) {ds : List D} {vs : List V}, RepA K H vs ds [] → RepA K H (vs.drop n) (ds.drop n) []
  | 0, _, _, h => by simpa using h
  | n + 1, [], vs, h => by cases h; exact .nil
  | n + 1, d :: ds, vs, h => by
    obtain ⟨v, us, rfl, h1, h2⟩ := repA_cons0 h
    exact RepA.drop0 n h2
theorem s_ins {ds0 : List D} (e0 : ρ[i]? = some (some (.lst ds0))) (h : DA K ar ρ fun xs ρ1 => ∃ (ds : List D) (k : Nat) (y : D), xs = [.int k, y] ∧ ρ1[i]? = some (some (.lst ds)) ∧ y.imm = true ∧ immA ds = true ∧ k ≤ 1000000 ∧ ds.length < sizeLine ∧ De.nx (ρ1.set i (some (.lst (ds.take k ++ [y] ++ ds.drop k))))) :
    DS K M (tDrop (tBM K "list" rInsert (tVar i) ar)) ρ De := fun w σ H F D0 s n p c => by
  obtain ⟨v0, S0, A0, hv0, r0, s0, p0⟩ := s.out e0
  cases r0 with
  | @lst a xs0 _ S0 h1 h2 =>
    refine i_drop (show tBM K "list" rInsert (tVar i) ar σ H _ from ⟨_, hv0, ty_lst h1, h σ H F _ s n fun us xs ρ1 H1 T F1 q rx s1 st => ?_⟩)
    obtain ⟨ds, k, y, rfl, e1, im, imd, kl, cl, q⟩ := q
    obtain rfl : T = [] := RepA.imm_nil _ _ _ rx (by simp [immA, Fa.D.imm, im])
    obtain ⟨ki, us, rfl, rk, rx⟩ := repA_cons0 rx
    obtain ⟨u, us, rfl, ru, rx⟩ := repA_cons0 rx
    cases rx
    cases rk
    obtain ⟨v1, S1, A1, hv1, r1, s2, p1⟩ := s1.out e1
    rw [hv0] at hv1
    obtain rfl : V.ref a = v1 := by simpa using hv1
    cases r1 with
    | @lst _ xs1 _ S1 h3 h4 =>
      obtain rfl : S1 = [] := RepA.imm_nil _ _ _ h4 imd
      have hlen : i < ρ1.length := (List.getElem?_eq_some_iff.mp e1).1
      have st0 : Step F H F1 H1 := by simpa using st
      have ra : RepA K H1 (xs1.take k ++ [u] ++ xs1.drop k) (ds.take k ++ [y] ++ ds.drop k) [] := by
        have := (RepA.append (RepA.take0 k h4) (.cons ru .nil)).append (RepA.drop0 k h4)
        simpa using this
      obtain ⟨B, s3, p3⟩ := slot_put (xs' := xs1.take k ++ [u] ++ xs1.drop k) (ds' := ds.take k ++ [y] ++ ds.drop k) s2 hv0 (by rw [List.getElem?_set_self hlen]) h3 ra fun b hb => by
        rintro rfl
        have nd := (st0.perm p1).nd
        simp at nd hb
        first
          | exact nd.1 hb
          | exact absurd hb nd.1
      rw [List.set_set] at s3
      refine ⟨a, xs1, k, u, rfl, rfl, h3, by rw [h4.length]; exact cl, by omega, by omega, c.nx σ _ _ B q (by simpa using s3) ?_ p⟩
      exact step_upd ((st0.perm p1).perm (by simpa using p3.symm)) (p3.mem_iff.mpr (by simp))
end
local macro_rules | `(tactic| walk_at "imm") => `(tactic| first
  | with_reducible rfl
  | assumption
  | rfl
  | exact imm_ints _
  | exact immM _
  | exact immL _
  | exact Val.imm _
  | (simp only [D.imm, immA, imm_ints, imm_strs, Val.imm, immL, immM, Bool.and_true, Bool.true_and, Bool.and_self]; done))
local macro_rules | `(tactic| walk_at "b1") => `(tactic| first
  | ((with_reducible refine b_var (d := ?kd) ?ke ?kh); (case ke => rfl))
  | with_reducible refine b_int ?_
  | with_reducible refine b_str ?_
  | with_reducible refine b_bl ?_
  | with_reducible refine b_non ?_
  | with_reducible refine b_ix ?_
  | ((with_reducible refine fl_ok (d := ?kd) (by assumption) 0 ?kf ?ke ?kh); (case kf => rfl); (case ke => rfl))
  | ((with_reducible refine fl_ok (d := ?kd) (by assumption) 1 ?kf ?ke ?kh); (case kf => rfl); (case ke => rfl))
  | ((with_reducible refine fl_ok (d := ?kd) (by assumption) 2 ?kf ?ke ?kh); (case kf => rfl); (case ke => rfl))
  | ((with_reducible refine fl_ok (d := ?kd) (by assumption) 3 ?kf ?ke ?kh); (case kf => rfl); (case ke => rfl))
  | ((with_reducible refine fl_ok (d := ?kd) (by assumption) 4 ?kf ?ke ?kh); (case kf => rfl); (case ke => rfl))
  | ((with_reducible refine fl_ok (d := ?kd) (by assumption) 5 ?kf ?ke ?kh); (case kf => rfl); (case ke => rfl))
  | ((with_reducible refine fl_ok (d := ?kd) (by assumption) 6 ?kf ?ke ?kh); (case kf => rfl); (case ke => rfl))
  | ((with_reducible refine fl_ok (d := ?kd) (by assumption) 7 ?kf ?ke ?kh); (case kf => rfl); (case ke => rfl))
  | ((with_reducible refine fl_ok (d := ?kd) (by assumption) 8 ?kf ?ke ?kh); (case kf => rfl); (case ke => rfl))
  | ((with_reducible refine fl_ok (d := ?kd) (by assumption) 9 ?kf ?ke ?kh); (case kf => rfl); (case ke => rfl))
  | ((with_reducible refine fl_ok (d := ?kd) (by assumption) 10 ?kf ?ke ?kh); (case kf => rfl); (case ke => rfl))
  | ((with_reducible refine fl_ok (d := ?kd) (by assumption) 11 ?kf ?ke ?kh); (case kf => rfl); (case ke => rfl))
  | ((with_reducible refine fl_ok (d := ?kd) (by assumption) 12 ?kf ?ke ?kh); (case kf => rfl); (case ke => rfl))
  | ((with_reducible refine fl_ok (d := ?kd) (by assumption) 13 ?kf ?ke ?kh); (case kf => rfl); (case ke => rfl))
  | with_reducible refine b_op ?_
  | with_reducible refine b_len ?_
  | with_reducible refine len_l ?_
  | with_reducible refine len_t ?_
  | with_reducible refine len_r ?_
  | with_reducible refine len_k ?_
  | with_reducible refine b_neg ?_
  | with_reducible refine int_ex ?_
  | ((with_reducible refine ixL (d := ?kd) ?ke ?kh); (case ke => first | assumption | rfl))
  | ((with_reducible refine ixT (d := ?kd) ?ke ?kh); (case ke => first | assumption | rfl))
  | ((with_reducible refine ixK (d := ?kd) ?ke ?kh); (case ke => first | assumption | rfl))
  | ((with_reducible refine ixR (d := ?kd) ?ke ?kh); (case ke => first | assumption | rfl))
  | with_reducible refine o_add ?_
  | with_reducible refine o_sub ?_
  | ((with_reducible refine o_mulL ?_ ?_); (first | decide | omega))
  | ((with_reducible refine o_mulR ?_ ?_); (first | decide | omega))
  | ((with_reducible refine o_div ?_ ?_); (first | decide | omega))
  | ((with_reducible refine o_mod ?_ ?_); (first | decide | omega))
  | ((with_reducible refine o_pow ?_ ?_); (first | decide | omega))
  | with_reducible refine o_lt ?_
  | with_reducible refine o_le ?_
  | with_reducible refine o_gt ?_
  | with_reducible refine o_ge ?_
  | with_reducible refine o_eqI ?_
  | with_reducible refine o_neI ?_
  | with_reducible refine o_eqS ?_
  | with_reducible refine o_neS ?_
  | with_reducible refine o_eqB ?_
  | with_reducible refine o_neB ?_
  | with_reducible refine o_isB ?_
  | with_reducible refine o_notB ?_
  | with_reducible refine b_fld ?_
  | with_reducible refine o_isN ?_
  | with_reducible refine o_notN ?_)
local macro_rules | `(tactic| walk_at "bs") => `(tactic| ((repeat (walk_at "b1")); with_reducible refine OpG.id' ?_))
local macro_rules | `(tactic| walk_at "d1") => `(tactic| first
  | with_reducible refine s_seq ?_
  | ((with_reducible refine s_asg ?_ ?_); (exact of_decide_eq_true rfl))
  | ((with_reducible refine s_setL (ds0 := ?kd) ?ke ?kh); (case ke => rfl))
  | with_reducible refine s_asgT ?_
  | ((with_reducible refine s_retV (d := ?kd) ?ke ?kh); (case ke => rfl))
  | with_reducible refine s_ret ?_
  | with_reducible refine s_retN ?_
  | ((with_reducible refine s_app (ds0 := ?kd) ?ke ?kh); (case ke => rfl))
  | ((with_reducible refine s_ext (ds0 := ?kd) ?ke ?kh); (case ke => rfl))
  | with_reducible refine s_fld ?_
  | with_reducible refine s_drop ?_
  | with_reducible refine s_if ?_
  | with_reducible refine s_next ?_
  | with_reducible refine s_cont ?_
  | with_reducible refine s_break ?_
  | ((with_reducible refine s_forV (ds := ?kd) ?ke ?km ?kh); (case ke => rfl); (case km => walk_at "imm"))
  | with_reducible refine s_for ?_
  | ((with_reducible refine d_var (d := ?kd) ?ke ?km ?kh); (case ke => rfl); (case km => walk_at "imm"))
  | with_reducible refine d_int ?_
  | with_reducible refine d_str ?_
  | with_reducible refine d_bl ?_
  | with_reducible refine d_non ?_
  | ((with_reducible refine d_opB ?_); walk_at "bs")
  | ((with_reducible refine d_opV (x0 := ?kd) ?ke ?kh); (case ke => rfl))
  | ((with_reducible refine d_op ?_))
  | with_reducible refine d_neg ?_
  | with_reducible refine a_cons ?_
  | with_reducible refine a_nil ?_
  | with_reducible refine d_test ?_
  | with_reducible refine d_tB ?_
  | with_reducible refine bl_ok ?_
  | with_reducible refine i_T ?_
  | with_reducible refine i_F ?_
  | with_reducible refine i_NT ?_
  | with_reducible refine i_NF ?_
  | with_reducible refine i_NN ?_
  | with_reducible refine d_and ?_
  | with_reducible refine d_or ?_
  | with_reducible refine d_not ?_
  | with_reducible refine d_andV ?_
  | with_reducible refine d_orV ?_
  | with_reducible refine d_notV ?_
  | with_reducible refine d_if ?_
  | with_reducible refine d_chain ?_
  | ((with_reducible refine n_var (x := ?kd) ?ke ?km ?kh); (case ke => rfl); (case km => walk_at "imm"))
  | with_reducible refine n_tup ?_
  | with_reducible refine n_lst ?_
  | with_reducible refine na_cons ?_
  | with_reducible refine na_nil ?_
  | with_reducible refine n_dic ?_
  | ((with_reducible refine n_b ?_); (repeat (walk_at "b1")); (with_reducible refine imm_ok ?_ ?_); (walk_at "imm"))
  | with_reducible refine n_op ?_
  | with_reducible refine n_call ?_
  | with_reducible refine n_make ?_
  | with_reducible refine n_cb ?_
  | with_reducible refine d_tup0 ?_
  | with_reducible refine d_tup ?_
  | with_reducible refine d_lst ?_
  | ((with_reducible refine lst_ok ?_ ?_); (exact Nat.le_of_ble_eq_true rfl))
  | ((with_reducible refine d_call0 (x0 := ?kd) ?ke ?kh); (case ke => rfl))
  | with_reducible refine d_call ?_
  | ((with_reducible refine d_callL ?_ ?_); (exact of_decide_eq_true rfl))
  | ((with_reducible refine l_cons ?_); (with_reducible refine d_var (d := ?kd) ?ke ?km ?kh); (case ke => rfl); (case km => walk_at "imm"))
  | ((with_reducible refine l_lent (x0 := ?kd) ?ke ?kh); (case ke => rfl))
  | with_reducible refine l_cons ?_
  | with_reducible refine l_nil ?_
  | with_reducible refine take_nil ?_
  | with_reducible refine take_inl ?_
  | ((with_reducible refine take_inr (d := ?kd) ?ke ?kh); (case ke => rfl))
  | ((with_reducible refine slot_ok (d := ?kd) ?ke ?kh); (case ke => rfl))
  | with_reducible refine d_isi ?_
  | ((with_reducible refine d_meth (ns := ?kn) (x0 := ?kd) ?km ?ke ?kh); (case ke => rfl); (case km => decide))
  | ((with_reducible refine d_cbB ?_); (repeat (walk_at "b1")); with_reducible refine CbN.id' ?_)
  | with_reducible refine d_cb ?_
  | with_reducible refine d_slB ?_
  | ((with_reducible refine e_lcV (ds := ?kd) cw_name ?kj ?ke ?km ?kh); (case ke => rfl); (case kj => decide); (case km => walk_at "imm"))
  | with_reducible refine e_lcN ?_
  | with_reducible refine t_yes ?_
  | with_reducible refine d_din ?_
  | with_reducible refine d_dnotin ?_
  | with_reducible refine di_rng1 ?_
  | with_reducible refine di_rng2 ?_
  | with_reducible refine di_U ?_
  | with_reducible refine di_enU ?_
  | ((with_reducible refine it_lst ?_ ?_); (walk_at "imm"))
  | ((with_reducible refine it_tup ?_ ?_); (walk_at "imm"))
  | ((with_reducible refine it_rol ?_ ?_); (walk_at "imm"))
  | with_reducible refine it_key ?_
  | with_reducible refine it_str ?_
  | ((with_reducible refine rng1_ok ?_ ?_); (first | decide | omega))
  | ((with_reducible refine rng2_ok ?_ ?_); (first | decide | omega))
  | with_reducible refine int_ex ?_
  | ((with_reducible refine g_name ?_ ?_); (exact of_decide_eq_true rfl))
  | with_reducible refine g_nil ?_
  | with_reducible refine g_cons ?_
  | ((with_reducible refine g_tup ?_ ?_ ?_); (rfl); (walk_at "imm"))
  | with_reducible refine cb_abs ?_
  | with_reducible refine cb_int ?_
  | with_reducible refine cb_intB ?_
  | with_reducible refine cb_lenL ?_
  | with_reducible refine cb_lenT ?_
  | with_reducible refine cb_lenR ?_
  | with_reducible refine cb_lenK ?_
  | with_reducible refine cb_bool ?_
  | ((with_reducible refine g_ix ?_); (walk_at "b1"))
  | ((with_reducible refine imm_ok ?_ ?_); (walk_at "imm"))
  | ((with_reducible refine OpP.g ?_); walk_at "b1")
  | walk_at "b1")
local macro_rules | `(tactic| walk_at "d") => `(tactic| repeat (walk_at "d1"))
local macro_rules | `(tactic| walk_at "D") => `(tactic| first
  | ((with_reducible apply i_D); all_goals intro)
  | ((with_reducible apply i_ND); all_goals intro)
  | ((with_reducible apply i_B); all_goals intro))
/-! ### the law's draws, by data -/
def StD (left last : Int) (x : D) : Prop := ∃ (nums : List Int) (at_ : Int) (sc : List Int), x = .lst [.lst (nums.map .int), .int at_, .int left, .rol (sc.map .int), .int last] ∧ 0 ≤ at_ ∧ nums.length = 120
def p_cell : SpD := fun ds Q => ∃ (ns : List Int) (k : Int), ds = [.rol (ns.map .int), .int k] ∧ 0 ≤ k ∧ ∀ z, Q (.int z) []
def p_numbers : SpD := fun ds Q => ∃ (c : Int) (m : Nat), ds = [.int c, .int m] ∧ m ≤ 1000 ∧ ∀ ns : List Int, ns.length = m → Q (.lst (ns.map .int)) []
def p_state : SpD := fun ds Q => ∃ (ns : List Int) (left : Int), ds = [.rol (ns.map .int), .int left] ∧ ∀ x, StD left 3 x → Q x []
def p_next : SpD := fun ds Q => ∃ (x : D) (left last m : Int), ds = [x, .int m] ∧ 0 < m ∧ StD left last x ∧ ∀ r x', 0 ≤ r → r < m → StD left last x' → Q (.int r) [x']
abbrev sp__law_cell (K : PySem.W.Frag) : Sp := spD K [] p_cell
abbrev sp__law_numbers (K : PySem.W.Frag) : Sp := spD K [] p_numbers
abbrev sp__law_state (K : PySem.W.Frag) : Sp := spD K [] p_state
abbrev sp__law_next (K : PySem.W.Frag) : Sp := spD K [0] p_next
abbrev sp__law_big (K : PySem.W.Frag) : Sp := spD K [0] p_next
theorem len_of {K : PySem.W.Frag} {M : List Nat} {P : SpD} {vs : List V} {H : Hp} {Q : VK} {E : XK} {n : Nat} (h : spD K M P vs H Q E) (hn : ∀ ds Qd, P ds Qd → ds.length = n) : vs.length = n := by
  obtain ⟨ds, S, Qd, ra, _, hP, _⟩ := h
  rw [ra.length]
  exact hn ds Qd hP
/-! _law_cell(_law_script, _law_k) : _law_script=0 _law_k=1 -/
def N__law_cell : List Str := ["_law_script", "_law_k"]
def t__law_cell_0a_0 (K : PySem.W.Frag) : TS := (tRet (tOp (rIxU K) (tVar 0) (tVar 1)))
def t__law_cell_1 (K : PySem.W.Frag) : TS := (tRet (tC (.int 0)))
def t__law_cell_0 (K : PySem.W.Frag) : TS := tSeq (tIfS (tTest (tOp (rLtU K) (tVar 1) (tCB (rLen K) (tCons (tVar 0) tNil)))) (t__law_cell_0a_0 K) tNext) (t__law_cell_1 K)
/-! _law_numbers(_law_cell_here, _law_many) : _law_cell_here=0 _law_many=1 _law_rest=2 _law_size=3 _law_numbers_here=4 _law_k=5 _law_mixed=6 -/
def N__law_numbers : List Str := ["_law_cell_here", "_law_many", "_law_rest", "_law_size", "_law_numbers_here", "_law_k", "_law_mixed"]
def t__law_numbers_3a_0a_1 (K : PySem.W.Frag) : TS := (tAsg (tOp rDivU (tVar 2) (tC (.int 1000))) (gName 2))
def t__law_numbers_3a_0a_0 (K : PySem.W.Frag) : TS := tSeq (tDrop (tBM K "list" rAppend (tVar 4) (tCons (tOp rModI (tCB rInt1 (tCons (tVar 2) tNil)) (tC (.int 1000))) tNil))) (t__law_numbers_3a_0a_1 K)
def t__law_numbers_3a_0b_2 (K : PySem.W.Frag) : TS := (tDrop (tBM K "list" rAppend (tVar 4) (tCons (tOp rModI (tCB rInt1 (tCons (tOp rDivU (tVar 6) (tC (.int 7))) tNil)) (tC (.int 1000))) tNil)))
def t__law_numbers_3a_0b_1 (K : PySem.W.Frag) : TS := tSeq (tAsg (tOp rModI (tCB rInt1 (tCons (tOp (rAddU K) (tOp (rAddU K) (tOp rMulU (tVar 6) (tVar 6)) (tOp rMulU (tC (.int 40692)) (tVar 5))) (tC (.int 3))) tNil)) (tC (.int 2147483629))) (gName 6)) (t__law_numbers_3a_0b_2 K)
def t__law_numbers_3a_0b_0 (K : PySem.W.Frag) : TS := tSeq (tAsg (tOp rModI (tCB rInt1 (tCons (tOp (rAddU K) (tOp (rAddU K) (tOp rMulU (tVar 3) (tC (.int 48271))) (tOp rMulU (tVar 5) (tC (.int 69621)))) (tC (.int 11))) tNil)) (tC (.int 2147483647))) (gName 6)) (t__law_numbers_3a_0b_1 K)
def t__law_numbers_3a_0 (K : PySem.W.Frag) : TS := (tIfS (tAnd (tTest (tOp rGeI (tVar 3) (tOp rPowI (tC (.int 10)) (tC (.int 18))))) (tTest (tOp rGtI (tVar 2) (tC (.int 0))))) (t__law_numbers_3a_0a_0 K) (t__law_numbers_3a_0b_0 K))
def t__law_numbers_4 (K : PySem.W.Frag) : TS := (tRet (tVar 4))
def t__law_numbers_3 (K : PySem.W.Frag) : TS := tSeq (tFor (iRng1 (tCons (tVar 1) tNil)) (gName 5) (t__law_numbers_3a_0 K)) (t__law_numbers_4 K)
def t__law_numbers_2 (K : PySem.W.Frag) : TS := tSeq (tAsg (tLst tNil) (gName 4)) (t__law_numbers_3 K)
def t__law_numbers_1 (K : PySem.W.Frag) : TS := tSeq (tAsg (tVar 2) (gName 3)) (t__law_numbers_2 K)
def t__law_numbers_0 (K : PySem.W.Frag) : TS := tSeq (tAsg (tCB rAbs (tCons (tVar 0) tNil)) (gName 2)) (t__law_numbers_1 K)
/-! _law_state(_law_script, _law_left) : _law_script=0 _law_left=1 _law_numbers_here=2 _law_parted=3 _law_k=4 -/
def N__law_state : List Str := ["_law_script", "_law_left", "_law_numbers_here", "_law_parted", "_law_k"]
def t__law_state_2a_2 (K : PySem.W.Frag) : TS := (tDrop (tBM K "list" rAppend (tVar 2) (tCons (tOp (rIxU K) (tOp (rIxU K) (tVar 3) (tC (.int 2))) (tVar 4)) tNil)))
def t__law_state_2a_1 (K : PySem.W.Frag) : TS := tSeq (tDrop (tBM K "list" rAppend (tVar 2) (tCons (tOp (rIxU K) (tOp (rIxU K) (tVar 3) (tC (.int 1))) (tVar 4)) tNil))) (t__law_state_2a_2 K)
def t__law_state_2a_0 (K : PySem.W.Frag) : TS := tSeq (tDrop (tBM K "list" rAppend (tVar 2) (tCons (tOp (rIxU K) (tOp (rIxU K) (tVar 3) (tC (.int 0))) (tVar 4)) tNil))) (t__law_state_2a_1 K)
def t__law_state_3 (K : PySem.W.Frag) : TS := (tRet (tLst (tCons (tVar 2) (tCons (tC (.int 0)) (tCons (tVar 1) (tCons (tVar 0) (tCons (tC (.int 3)) tNil)))))))
def t__law_state_2 (K : PySem.W.Frag) : TS := tSeq (tFor (iRng1 (tCons (tC (.int 40)) tNil)) (gName 4) (t__law_state_2a_0 K)) (t__law_state_3 K)
def t__law_state_1 (K : PySem.W.Frag) : TS := tSeq (tAsg (tLc (iRng1 (tCons (tC (.int 3)) tNil)) (gName 4) tYes (tCall (sp__law_numbers K) [] E0 (tCons (tCall (sp__law_cell K) [] E0 (tCons (tVar 0) (tCons (tVar 4) tNil))) (tCons (tC (.int 40)) tNil))) [4]) (gName 3)) (t__law_state_2 K)
def t__law_state_0 (K : PySem.W.Frag) : TS := tSeq (tAsg (tLst tNil) (gName 2)) (t__law_state_1 K)
/-! _law_next(_law_state_here, _law_many) : _law_state_here=0 _law_many=1 _law_at=2 -/
def N__law_next : List Str := ["_law_state_here", "_law_many", "_law_at"]
def t__law_next_2 (K : PySem.W.Frag) : TS := (tRet (tOp rModI (tCB rInt1 (tCons (tOp (rAddU K) (tOp (rIxU K) (tOp (rIxU K) (tVar 0) (tC (.int 0))) (tOp rModI (tVar 2) (tC (.int 120)))) (tOp rMulU (tC (.int 7)) (tOp rDivU (tVar 2) (tC (.int 120))))) tNil)) (tVar 1)))
def t__law_next_1 (K : PySem.W.Frag) : TS := tSeq (tAsg (tOp (rAddU K) (tVar 2) (tC (.int 1))) (gSub (tVar 0) (tC (.int 1)) rSetL)) (t__law_next_2 K)
def t__law_next_0 (K : PySem.W.Frag) : TS := tSeq (tAsg (tOp (rIxU K) (tVar 0) (tC (.int 1))) (gName 2)) (t__law_next_1 K)
/-! _law_big(_law_state_here, _law_many) : _law_state_here=0 _law_many=1 _law_cell_here=2 -/
def N__law_big : List Str := ["_law_state_here", "_law_many", "_law_cell_here"]
def t__law_big_1 (K : PySem.W.Frag) : TS := (tRet (tOp rModI (tCB rInt1 (tCons (tOp (rAddU K) (tOp rMulU (tVar 2) (tC (.int 1009))) (tCall (sp__law_next K) [] E0 (tCons (tVar 0) (tCons (tC (.int 1000)) tNil)))) tNil)) (tVar 1)))
def t__law_big_0 (K : PySem.W.Frag) : TS := tSeq (tAsg (tCB rAbs (tCons (tCall (sp__law_cell K) [] E0 (tCons (tOp (rIxU K) (tVar 0) (tC (.int 3))) (tCons (tOp (rAddU K) (tC (.int 3)) (tCall (sp__law_next K) [] E0 (tCons (tVar 0) (tCons (tC (.int 30)) tNil)))) tNil))) tNil)) (gName 2)) (t__law_big_1 K)
theorem out0 {ρ : Rho} {d : D} {Qd : D → List D → Prop} (h : Qd d []) : ∃ r, Outs ρ [] r ∧ Qd d r := ⟨[], rfl, h⟩
theorem out1 {ρ : Rho} {d x : D} {Qd : D → List D → Prop} (e : ρ[0]? = some (some x)) (h : Qd d [x]) : ∃ r, Outs ρ [0] r ∧ Qd d r := ⟨[x], ⟨x, [], rfl, e, rfl⟩, h⟩
section
variable {K : PySem.W.Frag} {vs : List V} {H : Hp} {Q : VK} {E : XK}
theorem len__law_cell (h : sp__law_cell K vs H Q E) : vs.length = 2 := len_of h fun ds Qd ⟨_, _, e, _⟩ => by rw [e]; rfl
theorem r__law_cell (h : sp__law_cell K vs H Q E) : t__law_cell_0 K { nx := fun _ H' => Q .non H', rt := Q } (L2.start N__law_cell vs) H := by
  refine body_of (by decide) (by simp) (fun ds Qd hP => ?_) h
  obtain ⟨ns, k, rfl, hk, hq⟩ := hP
  obtain ⟨j, rfl⟩ : ∃ j : Nat, k = j := ⟨k.toNat, by omega⟩
  unfold t__law_cell_0
  walk_at "d"
  walk_at "D"
  all_goals rename_i h
  · unfold t__law_cell_0a_0
    walk_at "d"
    have h' : j < ns.length := by simpa using h
    refine g_ix (ixR (atI_mapD h') ⟨rfl, ?_⟩)
    exact out0 (hq _)
  · walk_at "d"
    unfold t__law_cell_1
    walk_at "d"
    exact out0 (hq _)
theorem len__law_next (h : sp__law_next K vs H Q E) : vs.length = 2 := len_of h fun ds Qd ⟨_, _, _, _, e, _⟩ => by rw [e]; rfl
theorem r__law_next (h : sp__law_next K vs H Q E) : t__law_next_0 K { nx := fun _ H' => Q .non H', rt := Q } (L2.start N__law_next vs) H := by
  refine body_of (by decide) (fun ds Qd hP => ?_) (fun ds Qd hP => ?_) h
  · obtain ⟨x, left, last, m, rfl, _⟩ := hP
    simp
  obtain ⟨x, left, last, m, rfl, hm, ⟨nums, at_, sc, rfl, ha, hn⟩, hq⟩ := hP
  unfold t__law_next_0
  walk_at "d"
  unfold t__law_next_1
  walk_at "d"
  refine ⟨_, _, 1, rfl, rfl, rfl, ?_⟩
  unfold t__law_next_2
  walk_at "d"
  obtain ⟨j, hj, hj2⟩ : ∃ j : Nat, at_ % 120 = j ∧ j < nums.length := ⟨(at_ % 120).toNat, by omega, by omega⟩
  rw [hj]
  refine g_ix (ixL (atI_mapD hj2) ⟨rfl, ?_⟩)
  walk_at "d"
  exact out1 rfl (hq _ _ (Int.emod_nonneg _ (by omega)) (Int.emod_lt_of_pos _ hm) ⟨nums, at_ + 1, sc, rfl, by omega, hn⟩)
theorem len__law_big (h : sp__law_big K vs H Q E) : vs.length = 2 := len__law_next h
theorem r__law_big (h : sp__law_big K vs H Q E) : t__law_big_0 K { nx := fun _ H' => Q .non H', rt := Q } (L2.start N__law_big vs) H := by
  refine body_of (by decide) (fun ds Qd hP => ?_) (fun ds Qd hP => ?_) h
  · obtain ⟨x, left, last, m, rfl, _⟩ := hP
    simp
  obtain ⟨x, left, last, m, rfl, hm, hst, hq⟩ := hP
  obtain ⟨nums, at_, sc, rfl, ha, hn⟩ := id hst
  unfold t__law_big_0
  walk_at "d"
  refine ⟨_, left, last, 30, rfl, by decide, hst, fun r x1 r0 r1 hst1 x1' e1 => ?_⟩
  cases e1
  walk_at "d"
  refine ⟨sc, 3 + r, rfl, by omega, fun z => ?_⟩
  walk_at "d"
  unfold t__law_big_1
  walk_at "d"
  refine ⟨_, left, last, 1000, rfl, by decide, hst1, fun r x2 r0 r1 hst2 x2' e2 => ?_⟩
  cases e2
  walk_at "d"
  exact out1 rfl (hq _ _ (Int.emod_nonneg _ (by omega)) (Int.emod_lt_of_pos _ hm) hst2)
theorem len__law_numbers (h : sp__law_numbers K vs H Q E) : vs.length = 2 := len_of h fun ds Qd ⟨_, _, e, _⟩ => by rw [e]; rfl
theorem r__law_numbers (h : sp__law_numbers K vs H Q E) : t__law_numbers_0 K { nx := fun _ H' => Q .non H', rt := Q } (L2.start N__law_numbers vs) H := by
  refine body_of (by decide) (by simp) (fun ds Qd hP => ?_) h
  obtain ⟨c, m, rfl, hm, hq⟩ := hP
  unfold t__law_numbers_0
  walk_at "d"
  generalize (if c < 0 then -c else c) = s
  unfold t__law_numbers_1
  walk_at "d"
  unfold t__law_numbers_2
  walk_at "d"
  unfold t__law_numbers_3
  walk_at "d"
  refine Lp.of (fun i ρ => ∃ (r : Int) (ns : List Int) (k mx : Option D), ρ = [some (.int c), some (.int m), some (.int r), some (.int s), some (.lst (ns.map .int)), k, mx] ∧ ns.length = i) ⟨s, [], none, none, rfl, rfl⟩ ?_ ?_
  · rintro i ρ hi ⟨r, ns, k, mx, rfl, hl⟩
    have hi' : i < m := by simpa using hi
    walk_at "d"
    unfold t__law_numbers_3a_0
    walk_at "d"
    have fin : ∀ (ρ : Rho) (De : DEnds) (v : Int) (r : Int) (k mx : Option D), ρ = [some (.int c), some (.int m), some (.int r), some (.int s), some (.lst (ns.map .int ++ [.int v])), k, mx] → ∃ (r : Int) (ns : List Int) (k mx : Option D), ρ = [some (.int c), some (.int m), some (.int r), some (.int s), some (.lst (ns.map .int)), k, mx] ∧ ns.length = i + 1 := fun ρ De v r k mx e => ⟨r, ns ++ [v], k, mx, by rw [e]; simp, by simp [hl]⟩
    refine i_DJ ?_ (fun two h1 => ?_)
    · unfold t__law_numbers_3a_0b_0
      walk_at "d"
      generalize hz : ((s * 48271 + (i : Int) * 69621 + 11) % 2147483647) = z
      have z0 : 0 ≤ z ∧ z < 2147483647 := by omega
      unfold t__law_numbers_3a_0b_1
      walk_at "d"
      generalize ((z * z + 40692 * (i : Int) + 3) % 2147483629) = y
      unfold t__law_numbers_3a_0b_2
      walk_at "d"
      refine app_ok (by simp; omega) ?_
      exact fin _ (endsD [] Qd) _ _ _ _ rfl
    · walk_at "d"
      refine i_D (fun h2 => ?_) (fun _ => two)
      unfold t__law_numbers_3a_0a_0
      walk_at "d"
      refine app_ok (by simp; omega) ?_
      unfold t__law_numbers_3a_0a_1
      walk_at "d"
      exact fin _ (endsD [] Qd) _ _ _ _ rfl
  · rintro ρ ⟨r, ns, k, mx, rfl, hl⟩
    unfold t__law_numbers_4
    walk_at "d"
    exact out0 (hq ns (by simpa using hl))
theorem len__law_state (h : sp__law_state K vs H Q E) : vs.length = 2 := len_of h fun ds Qd ⟨_, _, e, _⟩ => by rw [e]; rfl
theorem r__law_state (h : sp__law_state K vs H Q E) : t__law_state_0 K { nx := fun _ H' => Q .non H', rt := Q } (L2.start N__law_state vs) H := by
  refine body_of (by decide) (by simp) (fun ds Qd hP => ?_) h
  obtain ⟨ns, left, rfl, hq⟩ := hP
  unfold t__law_state_0
  walk_at "d"
  unfold t__law_state_1
  walk_at "d"
  refine Lc.of (fun i acc ρ => ∃ rows : List (List Int), acc = rows.map (fun r => D.lst (r.map .int)) ∧ rows.length = i ∧ (∀ r ∈ rows, r.length = 40) ∧ ρ = [some (.rol (ns.map .int)), some (.int left), some (.lst []), none, none]) ⟨[], rfl, rfl, by simp, rfl⟩ ?_ ?_
  · rintro i acc ρ hi ⟨rows, rfl, hl, hr, rfl⟩
    walk_at "d"
    refine ⟨ns, i, rfl, by omega, fun z => ?_⟩
    walk_at "d"
    refine ⟨z, 40, rfl, by decide, fun r hr40 => ?_⟩
    have hi3 : i < 3 := by simpa using hi
    refine ⟨small_lt (by simp; omega), rows ++ [r], by simp, by simp [hl], fun r' hr' => ?_, rfl⟩
    rcases List.mem_append.mp hr' with h | h
    · exact hr r' h
    · obtain rfl : r' = r := by simpa using h
      exact hr40
  · rintro acc ρ ⟨rows, rfl, hl, hr, rfl⟩
    have hl3 : rows.length = 3 := by simpa using hl
    obtain ⟨r0, r1, r2, rfl⟩ : ∃ r0 r1 r2, rows = [r0, r1, r2] := by
      match rows, hl3 with
      | [r0, r1, r2], _ => exact ⟨r0, r1, r2, rfl⟩
    have q0 := hr r0 (by simp)
    have q1 := hr r1 (by simp)
    have q2 := hr r2 (by simp)
    walk_at "d"
    unfold t__law_state_2
    walk_at "d"
    refine Lp.of (fun i ρ => ∃ (nums : List Int) (k : Option D), ρ = [some (.rol (ns.map .int)), some (.int left), some (.lst (nums.map .int)), some (.lst [.lst (r0.map .int), .lst (r1.map .int), .lst (r2.map .int)]), k] ∧ nums.length = 3 * i) ⟨[], none, rfl, rfl⟩ ?_ ?_
    · rintro i ρ hi ⟨nums, k, rfl, hn⟩
      have hi40 : i < 40 := by simpa using hi
      walk_at "d"
      unfold t__law_state_2a_0
      walk_at "d"
      refine g_ix (ixL (atI_mapD (by omega)) ⟨rfl, ?_⟩)
      refine app_ok (by simp; omega) ?_
      unfold t__law_state_2a_1
      walk_at "d"
      refine g_ix (ixL (atI_mapD (by omega)) ⟨rfl, ?_⟩)
      refine app_ok (by simp; omega) ?_
      unfold t__law_state_2a_2
      walk_at "d"
      refine g_ix (ixL (atI_mapD (by omega)) ⟨rfl, ?_⟩)
      refine app_ok (by simp; omega) ?_
      exact ⟨nums ++ [r0[i]'(by omega), r1[i]'(by omega), r2[i]'(by omega)], _, by simp; rfl, by simp [hn]; omega⟩
    · rintro ρ ⟨nums, k, rfl, hn⟩
      unfold t__law_state_3
      walk_at "d"
      refine d_mov rfl ?_
      walk_at "d"
      exact out0 (hq _ ⟨nums, 0, ns, rfl, by decide, by simpa using hn⟩)
end
/-! ### drawn values: promises -/
def okPt (c : Int) : Prop := 0 ≤ c ∧ c ≤ 1114111 ∧ ¬ (55296 ≤ c ∧ c ≤ 57343)
def okOct (c : Int) : Prop := 0 ≤ c ∧ c ≤ 255
def okNum (m e : Int) : Prop := ((m = 0 ∧ e = 0) ∨ m % 10 ≠ 0) ∧ m.natAbs < 10 ^ 400 ∧ -1000 ≤ e ∧ e ≤ 10000
def p_normal : SpD := fun ds Q => ∃ m e : Int, ds = [.int m, .int e] ∧ m.natAbs < 10 ^ 3001 ∧ ∀ m' e' : Int, ((m' = 0 ∧ e' = 0) ∨ (m' % 10 ≠ 0 ∧ e ≤ e' ∧ e' ≤ e + 3001)) → m'.natAbs ≤ m.natAbs → Q (.tup [.int m', .int e']) []
def p_number : SpD := fun ds Q => ∃ (x : D) (left last : Int), ds = [x] ∧ StD left last x ∧ ∀ (m e last' : Int) (x' : D), okNum m e → StD left last' x' → Q (.tup [.str "number", .int m, .int e]) [x']
def p_points : SpD := fun ds Q => ∃ (x : D) (left last : Int), ds = [x] ∧ StD left last x ∧ ∀ (ns : List Int) (last' : Int) (x' : D), ns.length ≤ 200 → (∀ c ∈ ns, okPt c) → StD left last' x' → Q (tI ns) [x']
def p_octets : SpD := fun ds Q => ∃ (x : D) (left last : Int), ds = [x] ∧ StD left last x ∧ ∀ (ns : List Int) (last' : Int) (x' : D), ns.length ≤ 300 → (∀ c ∈ ns, okOct c) → StD left last' x' → Q (tI ns) [x']
def okLeaf : Val → Prop
  | .num m e => okNum m e
  | .bytes os => os.length ≤ 300 ∧ ∀ c ∈ os, okOct c
  | .text ps => ps.length ≤ 200 ∧ ∀ c ∈ ps, okPt c
  | .list _ => False
  | .map _ => False
  | _ => True
def Val.kind : Val → Str
  | .null => "null"
  | .truth _ => "truth"
  | .num _ _ => "number"
  | .bytes _ => "bytes"
  | .text _ => "text"
  | .list _ => "list"
  | .map _ => "map"
abbrev kindsOf (ks : List Str) : D := .lst (ks.map .str)
def p_leaf : SpD := fun ds Q => ∃ (x : D) (left last : Int) (ks : List Str), ds = [x, kindsOf ks] ∧ 0 < ks.length ∧ (∀ k ∈ ks, k ∈ (["null", "truth", "number", "bytes", "text"] : List Str)) ∧ StD left last x ∧ ∀ (v : Val) (last' : Int) (x' : D), okLeaf v → v.kind ∈ ks → StD left last' x' → Q v.dt [x', kindsOf ks]
/-- a value of at most n levels, its lists and maps of at most 49 parts -/
def Val.good (ks : List Str) (hm : Bool) : Nat → Val → Prop
  | 0, v => okLeaf v ∧ v.kind ∈ ks
  | n + 1, .list xs => xs.length ≤ 49 ∧ ∀ x ∈ xs, x.good ks hm n
  | n + 1, .map es => hm = true ∧ es.length ≤ 49 ∧ (∀ e ∈ es, e.1.length ≤ 200 ∧ (∀ c ∈ e.1, okPt c) ∧ e.2.good ks hm n) ∧ es.Pairwise fun e f => HT.lexLt e.1 f.1 = true
  | _ + 1, v => okLeaf v ∧ v.kind ∈ ks
mutual
/-- how many lists and maps -/
def Val.conts : Val → Nat
  | .list xs => 1 + contsL xs
  | .map es => 1 + contsM es
  | _ => 0
def contsL : List Val → Nat
  | [] => 0
  | x :: xs => x.conts + contsL xs
def contsM : List (List Int × Val) → Nat
  | [] => 0
  | (_, x) :: es => x.conts + contsM es
end
def pos (z : Int) : Int := max z 0
def p_value (n : Nat) : SpD := fun ds Q => ∃ (x : D) (left last : Int) (deep : Nat) (ks : List Str) (hm : Bool), ds = [x, .int deep, kindsOf ks, .bl hm] ∧ deep + 1 ≤ n ∧ 0 < ks.length ∧ (∀ k ∈ ks, k ∈ (["null", "truth", "number", "bytes", "text"] : List Str)) ∧ StD left last x ∧
  ∀ (v : Val) (left' last' : Int) (x' : D), v.good ks hm deep → (v.conts : Int) ≤ pos left - pos left' → left' ≤ left → StD left' last' x' → Q v.dt [x', kindsOf ks]
abbrev sp__law_normal (K : PySem.W.Frag) : Sp := spD K [] p_normal
abbrev sp__law_number (K : PySem.W.Frag) : Sp := spD K [0] p_number
abbrev sp__law_points (K : PySem.W.Frag) : Sp := spD K [0] p_points
abbrev sp__law_octets (K : PySem.W.Frag) : Sp := spD K [0] p_octets
abbrev sp__law_leaf (K : PySem.W.Frag) : Sp := spD K [0, 1] p_leaf
abbrev sp__law_value (K : PySem.W.Frag) (n : Nat) : Sp := spD K [0, 2] (p_value n)
/-! _law_normal(_law_m, _law_e) : _law_m=0 _law_e=1 _law_k=2 -/
def N__law_normal : List Str := ["_law_m", "_law_e", "_law_k"]
def t__law_normal_0a_0 (K : PySem.W.Frag) : TS := (tRet (tTup (tCons (tC (.int 0)) (tCons (tC (.int 0)) tNil))))
def t__law_normal_1a_0a_0 (K : PySem.W.Frag) : TS := (tRet (tTup (tCons (tVar 0) (tCons (tVar 1) tNil))))
def t__law_normal_1a_2 (K : PySem.W.Frag) : TS := (tAsg (tOp (rAddU K) (tVar 1) (tC (.int 1))) (gName 1))
def t__law_normal_1a_1 (K : PySem.W.Frag) : TS := tSeq (tAsg (tOp rDivU (tVar 0) (tC (.int 10))) (gName 0)) (t__law_normal_1a_2 K)
def t__law_normal_1a_0 (K : PySem.W.Frag) : TS := tSeq (tIfS (tTest (tOp (rNeU K) (tOp rModI (tVar 0) (tC (.int 10))) (tC (.int 0)))) (t__law_normal_1a_0a_0 K) tNext) (t__law_normal_1a_1 K)
def t__law_normal_2 (K : PySem.W.Frag) : TS := (tRet (tTup (tCons (tVar 0) (tCons (tVar 1) tNil))))
def t__law_normal_1 (K : PySem.W.Frag) : TS := tSeq (tFor (iRng1 (tCons (tC (.int 3001)) tNil)) (gName 2) (t__law_normal_1a_0 K)) (t__law_normal_2 K)
def t__law_normal_0 (K : PySem.W.Frag) : TS := tSeq (tIfS (tTest (tOp (rEqU K) (tVar 0) (tC (.int 0)))) (t__law_normal_0a_0 K) tNext) (t__law_normal_1 K)
/-! _law_number(_law_state_here) : _law_state_here=0 _law_pick=1 _law_m=2 _law_e=3 _law_edges=4 _law_power=5 _law_k=6 -/
def N__law_number : List Str := ["_law_state_here", "_law_pick", "_law_m", "_law_e", "_law_edges", "_law_power", "_law_k"]
def t__law_number_3a_1 (K : PySem.W.Frag) : TS := (tAsg (tOp rSubI (tOp (rAddU K) (tOp (rIxU K) (tVar 4) (tCall (sp__law_next K) [] E0 (tCons (tVar 0) (tCons (tC (.int 13)) tNil)))) (tCall (sp__law_next K) [] E0 (tCons (tVar 0) (tCons (tC (.int 3)) tNil)))) (tC (.int 1))) (gName 2))
def t__law_number_3a_0 (K : PySem.W.Frag) : TS := tSeq (tAsg (tLst (tCons (tC (.int 23)) (tCons (tC (.int 24)) (tCons (tC (.int 127)) (tCons (tC (.int 128)) (tCons (tC (.int 255)) (tCons (tC (.int 256)) (tCons (tC (.int 65535)) (tCons (tC (.int 65536)) (tCons (tOp rPowI (tC (.int 2)) (tC (.int 31))) (tCons (tOp rPowI (tC (.int 2)) (tC (.int 32))) (tCons (tOp rPowI (tC (.int 2)) (tC (.int 63))) (tCons (tOp rPowI (tC (.int 2)) (tC (.int 64))) (tCons (tOp rPowI (tC (.int 10)) (tC (.int 30))) tNil)))))))))))))) (gName 4)) (t__law_number_3a_1 K)
def t__law_number_3b_0a_1 (K : PySem.W.Frag) : TS := (tAsg (tOp rSubI (tCall (sp__law_next K) [] E0 (tCons (tVar 0) (tCons (tC (.int 60)) tNil))) (tC (.int 30))) (gName 3))
def t__law_number_3b_0a_0 (K : PySem.W.Frag) : TS := tSeq (tAsg (tCall (sp__law_next K) [] E0 (tCons (tVar 0) (tCons (tC (.int 1000)) tNil))) (gName 2)) (t__law_number_3b_0a_1 K)
def t__law_number_3b_0b_0a_1 (K : PySem.W.Frag) : TS := (tAsg (tOp (rIxU K) (tLst (tCons (tC (.int 62)) (tCons (tC (.int 63)) (tCons (tC (.int 64)) (tCons (tC (.int 65)) (tCons (tC (.int 66)) (tCons (tC (.int 100)) (tCons (tC (.int 799)) (tCons (tC (.int 800)) (tCons (tUn rNegI (tC (.int 400))) (tCons (tUn rNegI (tC (.int 1))) tNil))))))))))) (tCall (sp__law_next K) [] E0 (tCons (tVar 0) (tCons (tC (.int 10)) tNil)))) (gName 3))
def t__law_number_3b_0b_0a_0 (K : PySem.W.Frag) : TS := tSeq (tAsg (tOp (rAddU K) (tC (.int 1)) (tCall (sp__law_next K) [] E0 (tCons (tVar 0) (tCons (tC (.int 9)) tNil)))) (gName 2)) (t__law_number_3b_0b_0a_1 K)
def t__law_number_3b_0b_0b_0a_1a_0 (K : PySem.W.Frag) : TS := (tAsg (tOp rMulU (tVar 5) (tC (.int 10))) (gName 5))
def t__law_number_3b_0b_0b_0a_4a_1a_0 (K : PySem.W.Frag) : TS := (tAsg (tOp (rAddU K) (tOp rMulU (tVar 2) (tOp (rAddU K) (tOp rPowI (tC (.int 10)) (tC (.int 40))) (tC (.int 7)))) (tCall (sp__law_next K) [] E0 (tCons (tVar 0) (tCons (tC (.int 1000)) tNil)))) (gName 2))
def t__law_number_3b_0b_0b_0a_4a_1 (K : PySem.W.Frag) : TS := (tFor (iRng1 (tCons (tCall (sp__law_next K) [] E0 (tCons (tVar 0) (tCons (tC (.int 8)) tNil))) tNil)) (gName 6) (t__law_number_3b_0b_0b_0a_4a_1a_0 K))
def t__law_number_3b_0b_0b_0a_4a_0 (K : PySem.W.Frag) : TS := tSeq (tAsg (tOp rSubI (tOp (rIxU K) (tVar 0) (tC (.int 4))) (tC (.int 1))) (gSub (tVar 0) (tC (.int 4)) rSetL)) (t__law_number_3b_0b_0b_0a_4a_1 K)
def t__law_number_3b_0b_0b_0a_4 (K : PySem.W.Frag) : TS := (tIfS (tAnd (tTest (tOp (rEqU K) (tVar 1) (tC (.int 12)))) (tTest (tOp rGtI (tOp (rIxU K) (tVar 0) (tC (.int 4))) (tC (.int 0))))) (t__law_number_3b_0b_0b_0a_4a_0 K) tNext)
def t__law_number_3b_0b_0b_0a_3 (K : PySem.W.Frag) : TS := tSeq (tAsg (tOp rSubI (tCall (sp__law_next K) [] E0 (tCons (tVar 0) (tCons (tC (.int 90)) tNil))) (tC (.int 45))) (gName 3)) (t__law_number_3b_0b_0b_0a_4 K)
def t__law_number_3b_0b_0b_0a_2 (K : PySem.W.Frag) : TS := tSeq (tAsg (tCall (sp__law_big K) [] E0 (tCons (tVar 0) (tCons (tVar 5) tNil))) (gName 2)) (t__law_number_3b_0b_0b_0a_3 K)
def t__law_number_3b_0b_0b_0a_1 (K : PySem.W.Frag) : TS := tSeq (tFor (iRng1 (tCons (tCall (sp__law_next K) [] E0 (tCons (tVar 0) (tCons (tC (.int 40)) tNil))) tNil)) (gName 6) (t__law_number_3b_0b_0b_0a_1a_0 K)) (t__law_number_3b_0b_0b_0a_2 K)
def t__law_number_3b_0b_0b_0a_0 (K : PySem.W.Frag) : TS := tSeq (tAsg (tC (.int 10)) (gName 5)) (t__law_number_3b_0b_0b_0a_1 K)
def t__law_number_3b_0b_0b_0 (K : PySem.W.Frag) : TS := (tIfS (tTest (tOp rGtI (tVar 1) (tC (.int 9)))) (t__law_number_3b_0b_0b_0a_0 K) tNext)
def t__law_number_3b_0b_0 (K : PySem.W.Frag) : TS := (tIfS (tTest (tOp (rEqU K) (tVar 1) (tC (.int 9)))) (t__law_number_3b_0b_0a_0 K) (t__law_number_3b_0b_0b_0 K))
def t__law_number_3b_0 (K : PySem.W.Frag) : TS := (tIfS (tTest (tOp (rInU K false) (tVar 1) (tLst (tCons (tC (.int 6)) (tCons (tC (.int 7)) (tCons (tC (.int 8)) tNil)))))) (t__law_number_3b_0a_0 K) (t__law_number_3b_0b_0 K))
def t__law_number_5 (K : PySem.W.Frag) : TS := (tRet (tTup (tCons (tC (.str "number")) (tCons (tVar 2) (tCons (tVar 3) tNil)))))
def t__law_number_4 (K : PySem.W.Frag) : TS := tSeq (tAsg (tCall (sp__law_normal K) [] E0 (tCons (tOp (rIxU K) (tLst (tCons (tVar 2) (tCons (tUn rNegI (tVar 2)) tNil))) (tCall (sp__law_next K) [] E0 (tCons (tVar 0) (tCons (tC (.int 2)) tNil)))) (tCons (tVar 3) tNil))) (gTup K 2 (gCons (gName 2) (gCons (gName 3) gNil)))) (t__law_number_5 K)
def t__law_number_3 (K : PySem.W.Frag) : TS := tSeq (tIfS (tTest (tOp (rInU K false) (tVar 1) (tLst (tCons (tC (.int 4)) (tCons (tC (.int 5)) tNil))))) (t__law_number_3a_0 K) (t__law_number_3b_0 K)) (t__law_number_4 K)
def t__law_number_2 (K : PySem.W.Frag) : TS := tSeq (tAsg (tC (.int 0)) (gName 3)) (t__law_number_3 K)
def t__law_number_1 (K : PySem.W.Frag) : TS := tSeq (tAsg (tCall (sp__law_next K) [] E0 (tCons (tVar 0) (tCons (tC (.int 300)) tNil))) (gName 2)) (t__law_number_2 K)
def t__law_number_0 (K : PySem.W.Frag) : TS := tSeq (tAsg (tCall (sp__law_next K) [] E0 (tCons (tVar 0) (tCons (tC (.int 13)) tNil))) (gName 1)) (t__law_number_1 K)
/-! _law_points(_law_state_here) : _law_state_here=0 _law_menu=1 _law_many=2 _law_points_here=3 _law_k=4 _law_pick=5 _law_point=6 -/
def N__law_points : List Str := ["_law_state_here", "_law_menu", "_law_many", "_law_points_here", "_law_k", "_law_pick", "_law_point"]
def t__law_points_2a_1 (K : PySem.W.Frag) : TS := (tAsg (tOp (rAddU K) (tC (.int 20)) (tCall (sp__law_next K) [] E0 (tCons (tVar 0) (tCons (tC (.int 120)) tNil)))) (gName 2))
def t__law_points_2a_0 (K : PySem.W.Frag) : TS := tSeq (tAsg (tOp rSubI (tOp (rIxU K) (tVar 0) (tC (.int 4))) (tC (.int 1))) (gSub (tVar 0) (tC (.int 4)) rSetL)) (t__law_points_2a_1 K)
def t__law_points_4a_2a_0 (K : PySem.W.Frag) : TS := (tAsg (tOp (rIxU K) (tVar 1) (tCall (sp__law_next K) [] E0 (tCons (tVar 0) (tCons (tC (.int 12)) tNil)))) (gName 6))
def t__law_points_4a_3a_0 (K : PySem.W.Frag) : TS := (tAsg (tCall (sp__law_next K) [] E0 (tCons (tVar 0) (tCons (tC (.int 32)) tNil))) (gName 6))
def t__law_points_4a_4a_1 (K : PySem.W.Frag) : TS := (tAsg (tOp (rAddU K) (tVar 6) (tOp rMulU (tC (.int 2048)) (tCB rInt1 (tCons (tOp rGtI (tVar 6) (tC (.int 55295))) tNil)))) (gName 6))
def t__law_points_4a_4a_0 (K : PySem.W.Frag) : TS := tSeq (tAsg (tOp (rAddU K) (tOp rMulU (tC (.int 1112)) (tCall (sp__law_next K) [] E0 (tCons (tVar 0) (tCons (tC (.int 1000)) tNil)))) (tCall (sp__law_next K) [] E0 (tCons (tVar 0) (tCons (tC (.int 1000)) tNil)))) (gName 6)) (t__law_points_4a_4a_1 K)
def t__law_points_4a_5 (K : PySem.W.Frag) : TS := (tDrop (tBM K "list" rAppend (tVar 3) (tCons (tVar 6) tNil)))
def t__law_points_4a_4 (K : PySem.W.Frag) : TS := tSeq (tIfS (tTest (tOp (rEqU K) (tVar 5) (tC (.int 2)))) (t__law_points_4a_4a_0 K) tNext) (t__law_points_4a_5 K)
def t__law_points_4a_3 (K : PySem.W.Frag) : TS := tSeq (tIfS (tTest (tOp (rEqU K) (tVar 5) (tC (.int 1)))) (t__law_points_4a_3a_0 K) tNext) (t__law_points_4a_4 K)
def t__law_points_4a_2 (K : PySem.W.Frag) : TS := tSeq (tIfS (tTest (tOp (rEqU K) (tVar 5) (tC (.int 0)))) (t__law_points_4a_2a_0 K) tNext) (t__law_points_4a_3 K)
def t__law_points_4a_1 (K : PySem.W.Frag) : TS := tSeq (tAsg (tOp (rAddU K) (tC (.int 32)) (tCall (sp__law_next K) [] E0 (tCons (tVar 0) (tCons (tC (.int 95)) tNil)))) (gName 6)) (t__law_points_4a_2 K)
def t__law_points_4a_0 (K : PySem.W.Frag) : TS := tSeq (tAsg (tCall (sp__law_next K) [] E0 (tCons (tVar 0) (tCons (tC (.int 7)) tNil))) (gName 5)) (t__law_points_4a_1 K)
def t__law_points_5 (K : PySem.W.Frag) : TS := (tRet (tCB (rTupOf K) (tCons (tVar 3) tNil)))
def t__law_points_4 (K : PySem.W.Frag) : TS := tSeq (tFor (iRng1 (tCons (tVar 2) tNil)) (gName 4) (t__law_points_4a_0 K)) (t__law_points_5 K)
def t__law_points_3 (K : PySem.W.Frag) : TS := tSeq (tAsg (tLst tNil) (gName 3)) (t__law_points_4 K)
def t__law_points_2 (K : PySem.W.Frag) : TS := tSeq (tIfS (tAnd (tTest (tOp rGtI (tOp (rIxU K) (tVar 0) (tC (.int 4))) (tC (.int 0)))) (tTest (tOp (rEqU K) (tCall (sp__law_next K) [] E0 (tCons (tVar 0) (tCons (tC (.int 12)) tNil))) (tC (.int 1))))) (t__law_points_2a_0 K) tNext) (t__law_points_3 K)
def t__law_points_1 (K : PySem.W.Frag) : TS := tSeq (tAsg (tCall (sp__law_next K) [] E0 (tCons (tVar 0) (tCons (tC (.int 5)) tNil))) (gName 2)) (t__law_points_2 K)
def t__law_points_0 (K : PySem.W.Frag) : TS := tSeq (tAsg (tLst (tCons (tC (.int 34)) (tCons (tC (.int 92)) (tCons (tC (.int 47)) (tCons (tC (.int 127)) (tCons (tC (.int 128)) (tCons (tC (.int 2047)) (tCons (tC (.int 2048)) (tCons (tC (.int 55295)) (tCons (tC (.int 57344)) (tCons (tC (.int 65535)) (tCons (tC (.int 65536)) (tCons (tC (.int 1114111)) tNil))))))))))))) (gName 1)) (t__law_points_1 K)
/-! _law_octets(_law_state_here) : _law_state_here=0 _law_many=1 _law_low=2 _law_span=3 _law_k=4 -/
def N__law_octets : List Str := ["_law_state_here", "_law_many", "_law_low", "_law_span", "_law_k"]
def t__law_octets_1a_1 (K : PySem.W.Frag) : TS := (tAsg (tOp (rAddU K) (tC (.int 20)) (tCall (sp__law_next K) [] E0 (tCons (tVar 0) (tCons (tC (.int 260)) tNil)))) (gName 1))
def t__law_octets_1a_0 (K : PySem.W.Frag) : TS := tSeq (tAsg (tOp rSubI (tOp (rIxU K) (tVar 0) (tC (.int 4))) (tC (.int 1))) (gSub (tVar 0) (tC (.int 4)) rSetL)) (t__law_octets_1a_1 K)
def t__law_octets_3 (K : PySem.W.Frag) : TS := (tRet (tCB (rTupOf K) (tCons (tLc (iRng1 (tCons (tVar 1) tNil)) (gName 4) tYes (tOp (rAddU K) (tVar 2) (tCall (sp__law_next K) [] E0 (tCons (tVar 0) (tCons (tVar 3) tNil)))) [4]) tNil)))
def t__law_octets_2 (K : PySem.W.Frag) : TS := tSeq (tAsg (tOp (rIxU K) (tLst (tCons (tTup (tCons (tC (.int 0)) (tCons (tC (.int 256)) tNil))) (tCons (tTup (tCons (tC (.int 32)) (tCons (tC (.int 95)) tNil))) (tCons (tTup (tCons (tC (.int 97)) (tCons (tC (.int 26)) tNil))) tNil)))) (tCall (sp__law_next K) [] E0 (tCons (tVar 0) (tCons (tC (.int 3)) tNil)))) (gTup K 2 (gCons (gName 2) (gCons (gName 3) gNil)))) (t__law_octets_3 K)
def t__law_octets_1 (K : PySem.W.Frag) : TS := tSeq (tIfS (tAnd (tTest (tOp rGtI (tOp (rIxU K) (tVar 0) (tC (.int 4))) (tC (.int 0)))) (tTest (tOp (rEqU K) (tCall (sp__law_next K) [] E0 (tCons (tVar 0) (tCons (tC (.int 12)) tNil))) (tC (.int 1))))) (t__law_octets_1a_0 K) tNext) (t__law_octets_2 K)
def t__law_octets_0 (K : PySem.W.Frag) : TS := tSeq (tAsg (tCall (sp__law_next K) [] E0 (tCons (tVar 0) (tCons (tC (.int 5)) tNil))) (gName 1)) (t__law_octets_1 K)
/-! _law_leaf(_law_state_here, _law_kinds) : _law_state_here=0 _law_kinds=1 _law_kind=2 -/
def N__law_leaf : List Str := ["_law_state_here", "_law_kinds", "_law_kind"]
def t__law_leaf_1a_0 (K : PySem.W.Frag) : TS := (tRet (tTup (tCons (tC (.str "truth")) (tCons (tOp (rEqU K) (tCall (sp__law_next K) [] E0 (tCons (tVar 0) (tCons (tC (.int 2)) tNil))) (tC (.int 0))) tNil))))
def t__law_leaf_2a_0 (K : PySem.W.Frag) : TS := (tRet (tCall (sp__law_number K) [] E0 (tCons (tVar 0) tNil)))
def t__law_leaf_3a_0 (K : PySem.W.Frag) : TS := (tRet (tTup (tCons (tC (.str "bytes")) (tCons (tCall (sp__law_octets K) [] E0 (tCons (tVar 0) tNil)) tNil))))
def t__law_leaf_4a_0 (K : PySem.W.Frag) : TS := (tRet (tTup (tCons (tC (.str "text")) (tCons (tCall (sp__law_points K) [] E0 (tCons (tVar 0) tNil)) tNil))))
def t__law_leaf_5 (K : PySem.W.Frag) : TS := (tRet (tTup (tCons (tC (.str "null")) tNil)))
def t__law_leaf_4 (K : PySem.W.Frag) : TS := tSeq (tIfS (tTest (tOp (rEqU K) (tVar 2) (tC (.str "text")))) (t__law_leaf_4a_0 K) tNext) (t__law_leaf_5 K)
def t__law_leaf_3 (K : PySem.W.Frag) : TS := tSeq (tIfS (tTest (tOp (rEqU K) (tVar 2) (tC (.str "bytes")))) (t__law_leaf_3a_0 K) tNext) (t__law_leaf_4 K)
def t__law_leaf_2 (K : PySem.W.Frag) : TS := tSeq (tIfS (tTest (tOp (rEqU K) (tVar 2) (tC (.str "number")))) (t__law_leaf_2a_0 K) tNext) (t__law_leaf_3 K)
def t__law_leaf_1 (K : PySem.W.Frag) : TS := tSeq (tIfS (tTest (tOp (rEqU K) (tVar 2) (tC (.str "truth")))) (t__law_leaf_1a_0 K) tNext) (t__law_leaf_2 K)
def t__law_leaf_0 (K : PySem.W.Frag) : TS := tSeq (tAsg (tOp (rIxU K) (tVar 1) (tCall (sp__law_next K) [] E0 (tCons (tVar 0) (tCons (tCB (rLen K) (tCons (tVar 1) tNil)) tNil)))) (gName 2)) (t__law_leaf_1 K)
/-! _law_value(_law_state_here, _law_deep, _law_kinds, _law_has_maps) : _law_state_here=0 _law_deep=1 _law_kinds=2 _law_has_maps=3 _law_pick=4 _law_many=5 _law_k=6 _law_entries=7 _law_key=8 _law_entry=9 -/
def N__law_value : List Str := ["_law_state_here", "_law_deep", "_law_kinds", "_law_has_maps", "_law_pick", "_law_many", "_law_k", "_law_entries", "_law_key", "_law_entry"]
def t__law_value_2a_0 (K : PySem.W.Frag) (n : Nat) : TS := (tRet (tCall (sp__law_leaf K) [] E0 (tCons (tVar 0) (tCons (tVar 2) tNil))))
def t__law_value_4a_1 (K : PySem.W.Frag) (n : Nat) : TS := (tAsg (tOp (rAddU K) (tC (.int 20)) (tCall (sp__law_next K) [] E0 (tCons (tVar 0) (tCons (tC (.int 30)) tNil)))) (gName 5))
def t__law_value_4a_0 (K : PySem.W.Frag) (n : Nat) : TS := tSeq (tAsg (tOp rSubI (tOp (rIxU K) (tVar 0) (tC (.int 4))) (tC (.int 1))) (gSub (tVar 0) (tC (.int 4)) rSetL)) (t__law_value_4a_1 K n)
def t__law_value_5a_0 (K : PySem.W.Frag) (n : Nat) : TS := (tRet (tTup (tCons (tC (.str "list")) (tCons (tCB (rTupOf K) (tCons (tLc (iRng1 (tCons (tVar 5) tNil)) (gName 6) tYes (tCall (sp__law_value K n) [] E0 (tCons (tVar 0) (tCons (tOp rSubI (tVar 1) (tC (.int 1))) (tCons (tVar 2) (tCons (tVar 3) tNil))))) [6]) tNil)) tNil))))
def t__law_value_7a_1a_0 (K : PySem.W.Frag) (n : Nat) : TS := (tDrop (tBM K "list" rAppend (tVar 7) (tCons (tTup (tCons (tVar 8) (tCons (tCall (sp__law_value K n) [] E0 (tCons (tVar 0) (tCons (tOp rSubI (tVar 1) (tC (.int 1))) (tCons (tVar 2) (tCons (tVar 3) tNil))))) tNil))) tNil)))
def t__law_value_7a_1 (K : PySem.W.Frag) (n : Nat) : TS := (tIfS (tTest (tOp (rInU K true) (tVar 8) (tLc (iU K (tVar 7)) (gName 9) tYes (tOp (rIxU K) (tVar 9) (tC (.int 0))) [9]))) (t__law_value_7a_1a_0 K n) tNext)
def t__law_value_7a_0 (K : PySem.W.Frag) (n : Nat) : TS := tSeq (tAsg (tCall (sp__law_points K) [] E0 (tCons (tVar 0) tNil)) (gName 8)) (t__law_value_7a_1 K n)
def t__law_value_8 (K : PySem.W.Frag) (n : Nat) : TS := (tRet (tTup (tCons (tC (.str "map")) (tCons (tCB (rTupOf K) (tCons (tCB (rSortedU K) (tCons (tVar 7) tNil)) tNil)) tNil))))
def t__law_value_7 (K : PySem.W.Frag) (n : Nat) : TS := tSeq (tFor (iRng1 (tCons (tVar 5) tNil)) (gName 6) (t__law_value_7a_0 K n)) (t__law_value_8 K n)
def t__law_value_6 (K : PySem.W.Frag) (n : Nat) : TS := tSeq (tAsg (tLst tNil) (gName 7)) (t__law_value_7 K n)
def t__law_value_5 (K : PySem.W.Frag) (n : Nat) : TS := tSeq (tIfS (tOr (tTest (tOp (rEqU K) (tVar 4) (tC (.int 2)))) (tNot (tB (tVar 3)))) (t__law_value_5a_0 K n) tNext) (t__law_value_6 K n)
def t__law_value_4 (K : PySem.W.Frag) (n : Nat) : TS := tSeq (tIfS (tAnd (tTest (tOp rGtI (tOp (rIxU K) (tVar 0) (tC (.int 4))) (tC (.int 0)))) (tTest (tOp (rEqU K) (tCall (sp__law_next K) [] E0 (tCons (tVar 0) (tCons (tC (.int 12)) tNil))) (tC (.int 1))))) (t__law_value_4a_0 K n) tNext) (t__law_value_5 K n)
def t__law_value_3 (K : PySem.W.Frag) (n : Nat) : TS := tSeq (tAsg (tCall (sp__law_next K) [] E0 (tCons (tVar 0) (tCons (tC (.int 5)) tNil))) (gName 5)) (t__law_value_4 K n)
def t__law_value_2 (K : PySem.W.Frag) (n : Nat) : TS := tSeq (tIfS (tOr (tTest (tOp (rEqU K) (tVar 1) (tC (.int 0)))) (tOr (tTest (tOp rLeI (tOp (rIxU K) (tVar 0) (tC (.int 2))) (tC (.int 0)))) (tTest (tOp (rLtU K) (tVar 4) (tC (.int 2)))))) (t__law_value_2a_0 K n) tNext) (t__law_value_3 K n)
def t__law_value_1 (K : PySem.W.Frag) (n : Nat) : TS := tSeq (tAsg (tCall (sp__law_next K) [] E0 (tCons (tVar 0) (tCons (tC (.int 5)) tNil))) (gName 4)) (t__law_value_2 K n)
def t__law_value_0 (K : PySem.W.Frag) (n : Nat) : TS := tSeq (tAsg (tOp rSubI (tOp (rIxU K) (tVar 0) (tC (.int 2))) (tC (.int 1))) (gSub (tVar 0) (tC (.int 2)) rSetL)) (t__law_value_1 K n)
section
variable {K : PySem.W.Frag} {vs : List V} {H : Hp} {Q : VK} {E : XK}
theorem len__law_normal (h : sp__law_normal K vs H Q E) : vs.length = 2 := len_of h fun ds Qd ⟨_, _, e, _⟩ => by rw [e]; rfl
theorem tenth {x : Int} {k : Nat} (h : x.natAbs < 10 ^ (k + 1)) : (x / 10).natAbs < 10 ^ k ∨ x % 10 ≠ 0 := by
  by_cases z : x % 10 = 0
  · left
    rw [Nat.pow_succ] at h
    generalize 10 ^ k = P at *
    omega
  · exact .inr z
theorem r__law_normal (h : sp__law_normal K vs H Q E) : t__law_normal_0 K { nx := fun _ H' => Q .non H', rt := Q } (L2.start N__law_normal vs) H := by
  refine body_of (by decide) (by simp) (fun ds Qd hP => ?_) h
  obtain ⟨m, e, rfl, hm, hq⟩ := hP
  unfold t__law_normal_0
  walk_at "d"
  refine i_D (fun h0 => ?_) (fun h0 => ?_)
  · unfold t__law_normal_0a_0
    walk_at "d"
    exact out0 (hq 0 0 (.inl ⟨rfl, rfl⟩) (by omega))
  · walk_at "d"
    unfold t__law_normal_1
    walk_at "d"
    refine Lp.of (N := 3001) (fun i ρ => ∃ (x y : Int) (k : Option D), ρ = [some (.int x), some (.int y), k] ∧ x ≠ 0 ∧ x.natAbs < 10 ^ (3001 - i) ∧ x.natAbs ≤ m.natAbs ∧ y = e + i) ⟨m, e, none, rfl, h0, hm, Nat.le_refl _, by simp⟩ ?_ ?_
    · rintro i ρ hi ⟨x, y, k, rfl, hx0, hx, hxm, hy⟩
      walk_at "d"
      unfold t__law_normal_1a_0
      walk_at "d"
      refine i_ND (fun h1 => ?_) (fun h1 => ?_)
      · unfold t__law_normal_1a_0a_0
        walk_at "d"
        exact out0 (hq x y (.inr ⟨h1, by omega, by omega⟩) hxm)
      · walk_at "d"
        unfold t__law_normal_1a_1
        walk_at "d"
        unfold t__law_normal_1a_2
        walk_at "d"
        have e1 : 3001 - i = (3001 - (i + 1)) + 1 := by omega
        rw [e1] at hx
        refine ⟨x / 10, y + 1, some (.int i), rfl, by omega, ?_, by omega, by omega⟩
        rcases tenth hx with z | z
        · exact z
        · exact absurd h1 z
    · rintro ρ ⟨x, y, k, rfl, hx0, hx, hxm, hy⟩
      exfalso
      rw [Nat.sub_self, Nat.pow_zero] at hx
      omega
/-- a draw -/
theorem nx_ok {x : D} {left last m : Int} {Q : D → List D → Prop} (hm : 0 < m) (hs : StD left last x) (h : ∀ r x', 0 ≤ r → r < m → StD left last x' → Q (.int r) [x']) : p_next [x, .int m] Q := ⟨x, left, last, m, rfl, hm, hs, h⟩
theorem nx_ok0 {x : D} {left last m : Int} {R : D → D → Prop} (hm : 0 < m) (hs : StD left last x) (h : ∀ r x', 0 ≤ r → r < m → StD left last x' → R (.int r) x') : p_next [x, .int m] fun d r => ∀ x', r = [x'] → R d x' := ⟨x, left, last, m, rfl, hm, hs, fun r x' h0 h1 h2 y e => by
  cases e
  exact h r x' h0 h1 h2⟩
/-- a display of ints, one of them -/
theorem pick_ok {xs : List D} {ns : List Int} {r : Int} {Q : D → Prop} (e : xs = ns.map .int) (r0 : 0 ≤ r) (r1 : r < ns.length) (h : ∀ v ∈ ns, Q (.int v)) : IxD (.lst xs) (.int r) fun z => z.imm = true ∧ Q z := by
  subst e
  obtain ⟨j, rfl⟩ : ∃ j : Nat, r = j := ⟨r.toNat, by omega⟩
  have hj : j < ns.length := by omega
  exact ixL (atI_mapD hj) ⟨rfl, h _ (List.getElem_mem hj)⟩
/-- the state's cells -/
theorem StD.at4 {left last : Int} {x : D} (h : StD left last x) : ∃ nums at_ sc, x = .lst [nums, at_, .int left, sc, .int last] := by
  obtain ⟨_, _, _, e, _⟩ := h
  exact ⟨_, _, _, e⟩
theorem b_cell {ρ : Rho} {i : Nat} {x : D} {left last : Int} {Qb : D → Prop} (e : ρ[i]? = some (some x)) (hs : StD left last x) : (Qb (.int last) → DB K (tOp (rIxU K) (tVar i) (tC (.int 4))) ρ Qb) ∧ (Qb (.int left) → DB K (tOp (rIxU K) (tVar i) (tC (.int 2))) ρ Qb) := by
  obtain ⟨nums, at_, sc, rfl, _⟩ := hs
  exact ⟨fun h => b_ix (b_var e (b_int (ixL (k := 4) rfl h))), fun h => b_ix (b_var e (b_int (ixL (k := 2) rfl h)))⟩
theorem d_cell4 {ρ : Rho} {i : Nat} {x : D} {left last : Int} {Qd : D → Rho → Prop} (e : ρ[i]? = some (some x)) (hs : StD left last x) (h : Qd (.int last) ρ) : DE K (tOp (rIxU K) (tVar i) (tC (.int 4))) ρ Qd := DB.toE ((b_cell e hs).1 ⟨rfl, h⟩)
theorem d_cell2 {ρ : Rho} {i : Nat} {x : D} {left last : Int} {Qd : D → Rho → Prop} (e : ρ[i]? = some (some x)) (hs : StD left last x) (h : Qd (.int left) ρ) : DE K (tOp (rIxU K) (tVar i) (tC (.int 2))) ρ Qd := DB.toE ((b_cell e hs).2 ⟨rfl, h⟩)
theorem g_c4 {left last : Int} {x : D} {Q : D → Prop} (hs : StD left last x) (h : Q (.int last)) : OpG K (rIxU K) x (.int 4) Q := by
  obtain ⟨nums, at_, sc, rfl, _⟩ := hs
  exact g_ix (ixL (k := 4) rfl ⟨rfl, h⟩)
theorem g_c2 {left last : Int} {x : D} {Q : D → Prop} (hs : StD left last x) (h : Q (.int left)) : OpG K (rIxU K) x (.int 2) Q := by
  obtain ⟨nums, at_, sc, rfl, _⟩ := hs
  exact g_ix (ixL (k := 2) rfl ⟨rfl, h⟩)
theorem s_cell4 {ρ : Rho} {i : Nat} {x : D} {left last : Int} {M : List Nat} {te : TE} {De : DEnds} (e : ρ[i]? = some (some x)) (hs : StD left last x) (h : DE K te ρ fun y ρ1 => ∃ z x1 l t, y = .int z ∧ ρ1[i]? = some (some x1) ∧ StD l t x1 ∧ ∀ x2, StD l z x2 → De.nx (ρ1.set i (some x2))) : DS K M (tAsg te (gSub (tVar i) (tC (.int 4)) rSetL)) ρ De := by
  obtain ⟨nums, at_, sc, rfl, _⟩ := hs
  refine s_setL e (h.ma fun y ρ1 q => ?_)
  obtain ⟨z, x1, l, t, rfl, e1, ⟨nums, at_, sc, rfl, h1, h2⟩, q⟩ := q
  exact b_int ⟨_, 4, 4, rfl, e1, rfl, q _ ⟨nums, at_, sc, rfl, h1, h2⟩⟩
theorem s_cell2 {ρ : Rho} {i : Nat} {x : D} {left last : Int} {M : List Nat} {te : TE} {De : DEnds} (e : ρ[i]? = some (some x)) (hs : StD left last x) (h : DE K te ρ fun y ρ1 => ∃ z x1 l t, y = .int z ∧ ρ1[i]? = some (some x1) ∧ StD l t x1 ∧ ∀ x2, StD z t x2 → De.nx (ρ1.set i (some x2))) : DS K M (tAsg te (gSub (tVar i) (tC (.int 2)) rSetL)) ρ De := by
  obtain ⟨nums, at_, sc, rfl, _⟩ := hs
  refine s_setL e (h.ma fun y ρ1 q => ?_)
  obtain ⟨z, x1, l, t, rfl, e1, ⟨nums, at_, sc, rfl, h1, h2⟩, q⟩ := q
  exact b_int ⟨_, 2, 2, rfl, e1, rfl, q _ ⟨nums, at_, sc, rfl, h1, h2⟩⟩
end
section
variable {K : PySem.W.Frag} {vs : List V} {H : Hp} {Q : VK} {E : XK}
theorem len1 {M : List Nat} {P : SpD} (h : spD K M P vs H Q E) (hn : ∀ ds Qd, P ds Qd → ∃ x, ds = [x]) : vs.length = 1 := len_of h fun ds Qd hP => by
  obtain ⟨x, rfl⟩ := hn ds Qd hP
  rfl
theorem len__law_octets (h : sp__law_octets K vs H Q E) : vs.length = 1 := len1 h fun ds Qd ⟨x, _, _, e, _⟩ => ⟨x, e⟩
theorem r__law_octets (h : sp__law_octets K vs H Q E) : t__law_octets_0 K { nx := fun _ H' => Q .non H', rt := Q } (L2.start N__law_octets vs) H := by
  refine body_of (by decide) (fun ds Qd hP => ?_) (fun ds Qd hP => ?_) h
  · obtain ⟨x, _, _, rfl, _⟩ := hP
    simp
  obtain ⟨x, left, last, rfl, hs, hq⟩ := hP
  have rest : ∀ (last' many : Int) (x : D), StD left last' x → 0 ≤ many → many ≤ 280 → DS K [0] (t__law_octets_2 K) [some x, some (.int many), none, none, none] (endsD [0] Qd) := fun last' many x hs m0 m1 => by
    unfold t__law_octets_2
    walk_at "d"
    refine nx_ok0 (by decide) hs fun r x1 r0 r1 hs1 => ?_
    have go : ∀ (lo sp : Int), 0 ≤ lo → 0 < sp → lo + sp ≤ 256 → DS K [0] (t__law_octets_3 K) [some x1, some (.int many), some (.int lo), some (.int sp), none] (endsD [0] Qd) := fun lo sp l0 s0 ls => by
      unfold t__law_octets_3
      walk_at "d"
      refine Lc.of (fun i acc ρ => ∃ (ns : List Int) (x : D), acc = ns.map .int ∧ ns.length = i ∧ (∀ c ∈ ns, okOct c) ∧ StD left last' x ∧ ρ = [some x, some (.int many), some (.int lo), some (.int sp), none]) ⟨[], x1, rfl, rfl, by simp, hs1, rfl⟩ ?_ ?_
      · rintro i acc ρ hi ⟨ns, x, rfl, hl, hok, hs2, rfl⟩
        walk_at "d"
        refine nx_ok0 s0 hs2 fun r x1 r0 r1 hs3 => ?_
        walk_at "d"
        refine ⟨small_lt (by rw [List.length_map]; omega), ns ++ [lo + r], x1, by simp, by simp [hl], fun y hy => ?_, hs3, rfl⟩
        rcases List.mem_append.mp hy with z | z
        · exact hok y z
        · obtain rfl : y = lo + r := by simpa using z
          unfold okOct
          omega
      · rintro acc ρ ⟨ns, x, rfl, hl, hok, hs2, rfl⟩
        refine cb_key (.inl (.lst _)) ?_
        exact out1 rfl (hq ns last' x (by omega) hok hs2)
    rcases (show r = ((0 : Nat) : Int) ∨ r = ((1 : Nat) : Int) ∨ r = ((2 : Nat) : Int) by omega) with rfl | rfl | rfl
    · refine g_ix (ixL (d := .tup [.int 0, .int 256]) rfl ⟨rfl, ?_⟩)
      walk_at "d"
      exact go 0 256 (by decide) (by decide) (by decide)
    · refine g_ix (ixL (d := .tup [.int 32, .int 95]) rfl ⟨rfl, ?_⟩)
      walk_at "d"
      exact go 32 95 (by decide) (by decide) (by decide)
    · refine g_ix (ixL (d := .tup [.int 97, .int 26]) rfl ⟨rfl, ?_⟩)
      walk_at "d"
      exact go 97 26 (by decide) (by decide) (by decide)
  unfold t__law_octets_0
  walk_at "d"
  refine nx_ok0 (by decide) hs fun many x1 m0 m1 hs1 => ?_
  walk_at "d"
  unfold t__law_octets_1
  walk_at "d"
  refine g_c4 hs1 ?_
  walk_at "d"
  refine i_D (fun c0 => ?_) (fun c0 => ?_)
  · walk_at "d"
    refine nx_ok0 (by decide) hs1 fun r x2 r0 r1 hs2 => ?_
    walk_at "d"
    refine i_D (fun c1 => ?_) (fun c1 => ?_)
    · unfold t__law_octets_1a_0
      walk_at "d"
      refine s_cell4 rfl hs2 ?_
      walk_at "d"
      refine g_c4 hs2 ?_
      walk_at "d"
      refine ⟨_, _, _, _, rfl, rfl, hs2, fun x3 hs3 => ?_⟩
      unfold t__law_octets_1a_1
      walk_at "d"
      refine nx_ok0 (by decide) hs3 fun m x4 m0 m1 hs4 => ?_
      walk_at "d"
      exact rest _ _ _ hs4 (by omega) (by omega)
    · walk_at "d"
      exact rest _ _ _ hs2 m0 (by omega)
  · walk_at "d"
    exact rest _ _ _ hs1 m0 (by omega)
end
section
variable {K : PySem.W.Frag} {vs : List V} {H : Hp} {Q : VK} {E : XK}
theorem len__law_points (h : sp__law_points K vs H Q E) : vs.length = 1 := len1 h fun ds Qd ⟨x, _, _, e, _⟩ => ⟨x, e⟩
theorem r__law_points (h : sp__law_points K vs H Q E) : t__law_points_0 K { nx := fun _ H' => Q .non H', rt := Q } (L2.start N__law_points vs) H := by
  refine body_of (by decide) (fun ds Qd hP => ?_) (fun ds Qd hP => ?_) h
  · obtain ⟨x, _, _, rfl, _⟩ := hP
    simp
  obtain ⟨x, left, last, rfl, hs, hq⟩ := hP
  let menu : List Int := [34, 92, 47, 127, 128, 2047, 2048, 55295, 57344, 65535, 65536, 1114111]
  have rest : ∀ (last' many : Int) (x : D), StD left last' x → 0 ≤ many → many ≤ 140 → DS K [0] (t__law_points_3 K) [some x, some (.lst (menu.map .int)), some (.int many), none, none, none, none] (endsD [0] Qd) := fun last' many x hs m0 m1 => by
    unfold t__law_points_3
    walk_at "d"
    unfold t__law_points_4
    walk_at "d"
    let Pv : Nat → Rho → Prop := fun i ρ => ∃ (ns : List Int) (x : D) (x4 x5 x6 : Option D), ρ = [some x, some (.lst (menu.map .int)), some (.int many), some (.lst (ns.map .int)), x4, x5, x6] ∧ ns.length = i ∧ (∀ c ∈ ns, okPt c) ∧ StD left last' x
    refine Lp.of Pv ⟨[], x, none, none, none, rfl, rfl, by simp, hs⟩ ?_ ?_
    · rintro i ρ hi ⟨ns, x, x4, x5, x6, rfl, hl, hok, hs1⟩
      have fin : ∀ (pick c : Int) (x : D), okPt c → StD left last' x → DS K [0] (t__law_points_4a_5 K) [some x, some (.lst (menu.map .int)), some (.int many), some (.lst (ns.map .int)), some (.int i), some (.int pick), some (.int c)] (((endsD [0] Qd).sq fun ρ1 => DS K [0] (t__law_points_5 K) ρ1 (endsD [0] Qd)).lp (Pv (i + 1))) := fun pick c x hc hs => by
        unfold t__law_points_4a_5
        walk_at "d"
        refine app_ok (by rw [List.length_map]; omega) ?_
        refine ⟨ns ++ [c], x, _, _, _, by rw [List.map_append]; rfl, by simp [hl], fun y hy => ?_, hs⟩
        rcases List.mem_append.mp hy with z | z
        · exact hok y z
        · obtain rfl : y = c := by simpa using z
          exact hc
      walk_at "d"
      unfold t__law_points_4a_0
      walk_at "d"
      refine nx_ok0 (by decide) hs1 fun pick x2 p0 p1 hs2 => ?_
      walk_at "d"
      unfold t__law_points_4a_1
      walk_at "d"
      refine nx_ok0 (by decide) hs2 fun pt x3 q0 q1 hs3 => ?_
      walk_at "d"
      unfold t__law_points_4a_2
      walk_at "d"
      refine i_D (fun c0 => ?_) (fun c0 => ?_)
      · unfold t__law_points_4a_2a_0
        walk_at "d"
        refine nx_ok0 (by decide) hs3 fun r x4 r0 r1 hs4 => ?_
        walk_at "d"
        refine g_ix (pick_ok (ns := menu) rfl r0 r1 fun v hv => ?_)
        have hvo : okPt v := by
          unfold okPt
          simp [menu] at hv
          omega
        walk_at "d"
        unfold t__law_points_4a_3
        walk_at "d"
        refine i_DF (by omega) ?_
        walk_at "d"
        unfold t__law_points_4a_4
        walk_at "d"
        refine i_DF (by omega) ?_
        walk_at "d"
        exact fin _ v x4 hvo hs4
      · walk_at "d"
        unfold t__law_points_4a_3
        walk_at "d"
        refine i_D (fun c1 => ?_) (fun c1 => ?_)
        · unfold t__law_points_4a_3a_0
          walk_at "d"
          refine nx_ok0 (by decide) hs3 fun r x4 r0 r1 hs4 => ?_
          walk_at "d"
          unfold t__law_points_4a_4
          walk_at "d"
          refine i_DF (by omega) ?_
          walk_at "d"
          exact fin _ r x4 (by unfold okPt; omega) hs4
        · walk_at "d"
          unfold t__law_points_4a_4
          walk_at "d"
          refine i_D (fun c2 => ?_) (fun c2 => ?_)
          · unfold t__law_points_4a_4a_0
            walk_at "d"
            refine nx_ok0 (by decide) hs3 fun r x4 r0 r1 hs4 => ?_
            walk_at "d"
            refine nx_ok0 (by decide) hs4 fun s x5 s0 s1 hs5 => ?_
            walk_at "d"
            unfold t__law_points_4a_4a_1
            walk_at "d"
            refine fin _ _ x5 ?_ hs5
            unfold okPt
            by_cases z : 1112 * r + s > 55295
            · rw [if_pos (decide_eq_true (show 55295 < 1112 * r + s from z))]
              omega
            · rw [if_neg (by simpa using z)]
              omega
          · walk_at "d"
            exact fin _ _ x3 (by unfold okPt; omega) hs3
    · rintro ρ ⟨ns, x, x4, x5, x6, rfl, hl, hok, hs1⟩
      unfold t__law_points_5
      walk_at "d"
      refine cb_key (.inl (.lst _)) ?_
      exact out1 rfl (hq ns last' x (by omega) hok hs1)
  unfold t__law_points_0
  walk_at "d"
  unfold t__law_points_1
  walk_at "d"
  refine nx_ok0 (by decide) hs fun many x1 m0 m1 hs1 => ?_
  walk_at "d"
  unfold t__law_points_2
  walk_at "d"
  refine g_c4 hs1 ?_
  walk_at "d"
  refine i_D (fun c0 => ?_) (fun c0 => ?_)
  · walk_at "d"
    refine nx_ok0 (by decide) hs1 fun r x2 r0 r1 hs2 => ?_
    walk_at "d"
    refine i_D (fun c1 => ?_) (fun c1 => ?_)
    · unfold t__law_points_2a_0
      walk_at "d"
      refine s_cell4 rfl hs2 ?_
      walk_at "d"
      refine g_c4 hs2 ?_
      walk_at "d"
      refine ⟨_, _, _, _, rfl, rfl, hs2, fun x3 hs3 => ?_⟩
      unfold t__law_points_2a_1
      walk_at "d"
      refine nx_ok0 (by decide) hs3 fun m x4 m0 m1 hs4 => ?_
      walk_at "d"
      exact rest _ _ _ hs4 (by omega) (by omega)
    · walk_at "d"
      exact rest _ _ _ hs2 m0 (by omega)
  · walk_at "d"
    exact rest _ _ _ hs1 m0 (by omega)
end
/-! ### numbers: the mathematics -/
def nz (m e : Int) : Int × Int := if h0 : m = 0 then (0, 0) else if h : m % 10 = 0 then nz (m / 10) (e + 1) else (m, e)
termination_by m.natAbs
decreasing_by omega
theorem nz_zero (e : Int) : nz 0 e = (0, 0) := by unfold nz; simp
theorem nz_step {m e : Int} (h0 : m ≠ 0) (h : m % 10 = 0) : nz m e = nz (m / 10) (e + 1) := by rw [nz]; simp [h0, h]
theorem nz_stop {m e : Int} (h0 : m ≠ 0) (h : m % 10 ≠ 0) : nz m e = (m, e) := by rw [nz]; simp [h0, h]
theorem nz_spec : ∀ (n : Nat) (m e : Int), m.natAbs = n → m ≠ 0 → ∃ k : Nat, m = (nz m e).1 * 10 ^ k ∧ (nz m e).2 = e + k ∧ (nz m e).1 % 10 ≠ 0 := by
  intro n
  induction n using Nat.strongRecOn with
  | ind n ih =>
    intro m e hn h0
    by_cases h : m % 10 = 0
    · obtain ⟨k, h1, h2, h3⟩ := ih (m / 10).natAbs (by omega) (m / 10) (e + 1) rfl (by omega)
      rw [nz_step h0 h]
      refine ⟨k + 1, ?_, by rw [h2]; omega, h3⟩
      rw [Int.pow_succ, ← Int.mul_assoc, ← h1]
      omega
    · rw [nz_stop h0 h]
      exact ⟨0, by simp, by simp, h⟩
theorem ten_le {k n : Nat} (h : (10 : Nat) ^ k < 10 ^ n) : k < n := by
  by_cases c : k < n
  · exact c
  · exact absurd h (Nat.not_lt.mpr (Nat.pow_le_pow_right (by decide) (Nat.not_lt.mp c)))
theorem ten_two (n : Nat) : (10 : Nat) ^ n ≤ 2 ^ (4 * n) := by
  rw [Nat.pow_mul]
  exact Nat.pow_le_pow_left (by decide) n
theorem cmulw {i j : Int} {a b : Nat} (ha : i.natAbs < 10 ^ a) (hb : j.natAbs < 10 ^ b) (h : a + b ≤ 200000) : CMulW i j :=
  wide_mul (a := 4 * a + 1) (b := 4 * b + 1) (Nat.lt_of_lt_of_le (Nat.lt_of_lt_of_le ha (ten_two a)) (Nat.pow_le_pow_right (by decide) (by omega))) (Nat.lt_of_lt_of_le (Nat.lt_of_lt_of_le hb (ten_two b)) (Nat.pow_le_pow_right (by decide) (by omega))) (by omega) (by omega) (by omega)
theorem lt_mul {i j : Int} {a b : Nat} (ha : i.natAbs < 10 ^ a) (hb : j.natAbs < 10 ^ b) : (i * j).natAbs < 10 ^ (a + b) := by
  rw [Int.natAbs_mul, Nat.pow_add]
  exact Nat.mul_lt_mul'' ha hb
theorem lt_pow {a b : Nat} (h : a < b) : ((10 : Int) ^ a).natAbs < 10 ^ b := by
  rw [Int.natAbs_pow]
  exact Nat.pow_lt_pow_right (by decide) h
theorem lt_mono {i : Int} {a b : Nat} (ha : i.natAbs < 10 ^ a) (h : a ≤ b) : i.natAbs < 10 ^ b := Nat.lt_of_lt_of_le ha (Nat.pow_le_pow_right (by decide) h)
section
theorem stepA {x A r P T : Nat} (h : x + 1 ≤ P) (hA : A + 1000 ≤ T) (hr : r ≤ 999) : x * A + r < P * T := by
  have h1 : (x + 1) * (A + 1000) ≤ P * T := Nat.mul_le_mul h hA
  have h2 : (x + 1) * (A + 1000) = x * A + x * 1000 + (A + 1000) := by rw [Nat.add_mul, Nat.one_mul, Nat.mul_add]
  omega
theorem absA (x : Int) (y : Nat) (h : 0 ≤ y) : (x * (y : Int)).natAbs = x.natAbs * y := by rw [Int.natAbs_mul]; rfl
theorem k40 : ((10 : Int) ^ 40 + 7) = ((10 ^ 40 + 7 : Nat) : Int) := by decide +kernel
theorem k41 : (10 : Nat) ^ 40 + 7 + 1000 ≤ 10 ^ 41 := by decide +kernel
theorem step41 {m r : Int} {k : Nat} (h : m.natAbs < 10 ^ k) (r0 : 0 ≤ r) (r1 : r < 1000) : (m * (10 ^ 40 + 7) + r).natAbs < 10 ^ (k + 41) := by
  rw [k40, Nat.pow_add]
  have k41 := k41
  generalize (10 : Nat) ^ 40 + 7 = A at *
  generalize (10 : Nat) ^ 41 = T at *
  generalize (10 : Nat) ^ k = P at *
  have h1 := absA m A (Nat.zero_le _)
  have h2 := stepA (x := m.natAbs) (A := A) (r := r.natAbs) h k41 (by omega)
  omega
end
section
variable {K : PySem.W.Frag} {vs : List V} {H : Hp} {Q : VK} {E : XK}
theorem len__law_number (h : sp__law_number K vs H Q E) : vs.length = 1 := len1 h fun ds Qd ⟨x, _, _, e, _⟩ => ⟨x, e⟩
/-- x in a display of ints, whatever the answer -/
theorem inAny {x : Int} {ns : List Int} {Q : D → Prop} (h : ∀ b, Q (.bl b)) : OpG K (rInU K false) (.int x) (.lst (ns.map .int)) Q := (o_inI (.lst _) (h _)).g
theorem lt400 {x : Int} {k : Nat} (h : x.natAbs < 10 ^ k) (hk : k ≤ 400) : x.natAbs < 10 ^ 400 := Nat.lt_of_lt_of_le h (Nat.pow_le_pow_right (by decide) hk)
/-- the end of the drawn number -/
theorem num_fin {Qd : D → List D → Prop} {left : Int} (hq : ∀ (m e last' : Int) (x' : D), okNum m e → StD left last' x' → Qd (.tup [.str "number", .int m, .int e]) [x']) {m e last : Int} {x : D} {x1 x4 x5 x6 : Option D} (hm : m.natAbs < 10 ^ 400) (h0 : -1000 ≤ e) (h1 : e ≤ 5000) (hs : StD left last x) :
    DS K [0] (t__law_number_4 K) [some x, x1, some (.int m), some (.int e), x4, x5, x6] (endsD [0] Qd) := by
  unfold t__law_number_4
  walk_at "d"
  refine nx_ok0 (by decide) hs fun s x2 s0 s1 hs2 => ?_
  refine g_ix (pick_ok (ns := [m, -m]) rfl s0 s1 fun v hv => ?_)
  have hv' : v.natAbs = m.natAbs := by
    simp at hv
    omega
  walk_at "d"
  refine ⟨v, e, rfl, ?_, fun m' e' hn hmm => ?_⟩
  · rw [hv']
    exact Nat.lt_of_lt_of_le hm (Nat.pow_le_pow_right (by decide) (by decide))
  walk_at "d"
  unfold t__law_number_5
  walk_at "d"
  refine out1 rfl (hq m' e' last x2 ⟨?_, ?_, ?_, ?_⟩ hs2)
  · rcases hn with z | z
    · exact .inl z
    · exact .inr z.1
  · rw [← hv'] at hm
    exact Nat.lt_of_le_of_lt hmm hm
  · rcases hn with z | z <;> omega
  · rcases hn with z | z <;> omega
theorem r__law_number (h : sp__law_number K vs H Q E) : t__law_number_0 K { nx := fun _ H' => Q .non H', rt := Q } (L2.start N__law_number vs) H := by
  refine body_of (by decide) (fun ds Qd hP => ?_) (fun ds Qd hP => ?_) h
  · obtain ⟨x, _, _, rfl, _⟩ := hP
    simp
  obtain ⟨x, left, last, rfl, hs, hq⟩ := hP
  unfold t__law_number_0
  walk_at "d"
  refine nx_ok0 (by decide) hs fun pk x1 p0 p1 hs1 => ?_
  walk_at "d"
  unfold t__law_number_1
  walk_at "d"
  refine nx_ok0 (by decide) hs1 fun m x2 m0 m1 hs2 => ?_
  have hm400 : m.natAbs < 10 ^ 400 := lt400 (k := 3) (by omega) (by decide)
  walk_at "d"
  unfold t__law_number_2
  walk_at "d"
  unfold t__law_number_3
  walk_at "d"
  refine inAny (ns := [4, 5]) fun b1 => ?_
  walk_at "d"
  refine i_B b1 (fun _ => ?_) (fun _ => ?_)
  · unfold t__law_number_3a_0
    walk_at "d"
    unfold t__law_number_3a_1
    walk_at "d"
    refine nx_ok0 (by decide) hs2 fun s x3 s0 s1 hs3 => ?_
    walk_at "d"
    refine g_ix (pick_ok (ns := [23, 24, 127, 128, 255, 256, 65535, 65536, 2147483648, 4294967296, 9223372036854775808, 18446744073709551616, 1000000000000000000000000000000]) rfl s0 s1 fun v hv => ?_)
    walk_at "d"
    refine nx_ok0 (by decide) hs3 fun t x4 t0 t1 hs4 => ?_
    walk_at "d"
    refine num_fin hq (lt400 (k := 31) ?_ (by decide)) (by decide) (by decide) hs4
    simp at hv
    omega
  · unfold t__law_number_3b_0
    walk_at "d"
    refine inAny (ns := [6, 7, 8]) fun b2 => ?_
    walk_at "d"
    refine i_B b2 (fun _ => ?_) (fun _ => ?_)
    · unfold t__law_number_3b_0a_0
      walk_at "d"
      refine nx_ok0 (by decide) hs2 fun s x3 s0 s1 hs3 => ?_
      walk_at "d"
      unfold t__law_number_3b_0a_1
      walk_at "d"
      refine nx_ok0 (by decide) hs3 fun t x4 t0 t1 hs4 => ?_
      walk_at "d"
      exact num_fin hq (lt400 (k := 4) (by omega) (by decide)) (by omega) (by omega) hs4
    · unfold t__law_number_3b_0b_0
      walk_at "d"
      refine i_D (fun c9 => ?_) (fun c9 => ?_)
      · unfold t__law_number_3b_0b_0a_0
        walk_at "d"
        refine nx_ok0 (by decide) hs2 fun s x3 s0 s1 hs3 => ?_
        walk_at "d"
        unfold t__law_number_3b_0b_0a_1
        walk_at "d"
        refine nx_ok0 (by decide) hs3 fun t x4 t0 t1 hs4 => ?_
        refine g_ix (pick_ok (ns := [62, 63, 64, 65, 66, 100, 799, 800, -400, -1]) rfl t0 t1 fun v hv => ?_)
        walk_at "d"
        refine num_fin hq (lt400 (k := 4) (by omega) (by decide)) ?_ ?_ hs4
        · simp at hv; omega
        · simp at hv; omega
      · unfold t__law_number_3b_0b_0b_0
        walk_at "d"
        refine i_D (fun c10 => ?_) (fun c10 => ?_)
        · unfold t__law_number_3b_0b_0b_0a_0
          walk_at "d"
          unfold t__law_number_3b_0b_0b_0a_1
          walk_at "d"
          refine nx_ok0 (by decide) hs2 fun n x3 n0 n1 hs3 => ?_
          walk_at "d"
          refine Lp.of (fun i ρ => ∃ (x6 : Option D), ρ = [some x3, some (.int pk), some (.int m), some (.int 0), none, some (.int (10 ^ (i + 1))), x6]) ⟨none, rfl⟩ ?_ ?_
          · rintro i ρ hi ⟨x6, rfl⟩
            walk_at "d"
            unfold t__law_number_3b_0b_0b_0a_1a_0
            walk_at "d"
            refine ⟨some (.int i), ?_⟩
            rw [Int.pow_succ (10 : Int) (i + 1)]
            rfl
          · rintro ρ ⟨x6, rfl⟩
            unfold t__law_number_3b_0b_0b_0a_2
            walk_at "d"
            refine nx_ok0 (Int.pow_pos (by decide)) hs3 fun r x4 r0 r1 hs4 => ?_
            walk_at "d"
            have hr : r.natAbs < 10 ^ 40 := by
              have e0 : (10 : Int) ^ (n.toNat + 1) = ((10 ^ (n.toNat + 1) : Nat) : Int) := by simp
              rw [e0] at r1
              have e1 : (10 : Nat) ^ (n.toNat + 1) ≤ 10 ^ 40 := Nat.pow_le_pow_right (by decide) (by omega)
              generalize (10 : Nat) ^ 40 = P at *
              generalize (10 : Nat) ^ (n.toNat + 1) = P2 at *
              omega
            unfold t__law_number_3b_0b_0b_0a_3
            walk_at "d"
            refine nx_ok0 (by decide) hs4 fun t x5 t0 t1 hs5 => ?_
            walk_at "d"
            unfold t__law_number_3b_0b_0b_0a_4
            walk_at "d"
            refine i_D (fun c12 => ?_) (fun c12 => ?_)
            · walk_at "d"
              refine g_c4 hs5 ?_
              walk_at "d"
              refine i_D (fun cl => ?_) (fun cl => ?_)
              · unfold t__law_number_3b_0b_0b_0a_4a_0
                walk_at "d"
                refine s_cell4 rfl hs5 ?_
                walk_at "d"
                refine g_c4 hs5 ?_
                walk_at "d"
                refine ⟨_, _, _, _, rfl, rfl, hs5, fun x6 hs6 => ?_⟩
                unfold t__law_number_3b_0b_0b_0a_4a_1
                walk_at "d"
                refine nx_ok0 (by decide) hs6 fun n2 x7 n20 n21 hs7 => ?_
                walk_at "d"
                refine Lp.of (fun i ρ => ∃ (x0 : D) (x6 : Option D) (x : Int), ρ = [some x0, some (.int pk), some (.int x), some (.int (t - 45)), none, some (.int (10 ^ (n.toNat + 1))), x6] ∧ x.natAbs < 10 ^ (40 + 41 * i) ∧ StD left (last - 1) x0) ⟨x7, _, r, rfl, hr, hs7⟩ ?_ ?_
                · rintro i ρ hi ⟨x0, x6, x, rfl, hx, hs8⟩
                  walk_at "d"
                  unfold t__law_number_3b_0b_0b_0a_4a_1a_0
                  walk_at "d"
                  refine (o_mulW (cmulw hx (b := 41) (by decide +kernel) (by omega)) ?_).g
                  walk_at "d"
                  refine nx_ok0 (by decide) hs8 fun y x9 y0 y1 hs9 => ?_
                  walk_at "d"
                  exact ⟨x9, _, _, rfl, step41 hx y0 y1, hs9⟩
                · rintro ρ ⟨x0, x6, x, rfl, hx, hs8⟩
                  exact num_fin hq (lt400 hx (by omega)) (by omega) (by omega) hs8
              · walk_at "d"
                exact num_fin hq (lt400 hr (by decide)) (by omega) (by omega) hs5
            · walk_at "d"
              exact num_fin hq (lt400 hr (by decide)) (by omega) (by omega) hs5
        · walk_at "d"
          exact num_fin hq hm400 (by decide) (by decide) hs2
end
section
variable {K : PySem.W.Frag} {vs : List V} {H : Hp} {Q : VK} {E : XK}
theorem len__law_leaf (h : sp__law_leaf K vs H Q E) : vs.length = 2 := len_of h fun ds Qd ⟨_, _, _, _, e, _⟩ => by rw [e]; rfl
theorem out01 {ρ : Rho} {d x y : D} {Qd : D → List D → Prop} (e : ρ[0]? = some (some x)) (e2 : ρ[1]? = some (some y)) (h : Qd d [x, y]) : ∃ r, Outs ρ [0, 1] r ∧ Qd d r := ⟨[x, y], ⟨x, [y], rfl, e, y, [], rfl, e2, rfl⟩, h⟩
theorem out02 {ρ : Rho} {d x y : D} {Qd : D → List D → Prop} (e : ρ[0]? = some (some x)) (e2 : ρ[2]? = some (some y)) (h : Qd d [x, y]) : ∃ r, Outs ρ [0, 2] r ∧ Qd d r := ⟨[x, y], ⟨x, [y], rfl, e, y, [], rfl, e2, rfl⟩, h⟩
/-- a draw for a def whose lent places are others -/
theorem nx_okL {x : D} {left last m : Int} {R : D → List D → Prop} (hm : 0 < m) (hs : StD left last x) (h : ∀ r x', 0 ≤ r → r < m → StD left last x' → R (.int r) [x']) : p_next [x, .int m] R := ⟨x, left, last, m, rfl, hm, hs, h⟩
theorem pickS {xs : List Str} {r : Int} {Q : D → Prop} (r0 : 0 ≤ r) (r1 : r < xs.length) (h : ∀ v ∈ xs, Q (.str v)) : IxD (kindsOf xs) (.int r) fun z => z.imm = true ∧ Q z := by
  obtain ⟨j, rfl⟩ : ∃ j : Nat, r = j := ⟨r.toNat, by omega⟩
  have hj : j < xs.length := by omega
  exact ixL (atI_mapD hj) ⟨rfl, h _ (List.getElem_mem hj)⟩
theorem r__law_leaf (h : sp__law_leaf K vs H Q E) : t__law_leaf_0 K { nx := fun _ H' => Q .non H', rt := Q } (L2.start N__law_leaf vs) H := by
  refine body_of (by decide) (fun ds Qd hP => ?_) (fun ds Qd hP => ?_) h
  · obtain ⟨x, _, _, ks, rfl, _⟩ := hP
    simp
  obtain ⟨x, left, last, ks, rfl, hk0, hks, hs, hq⟩ := hP
  unfold t__law_leaf_0
  walk_at "d"
  have kl : 0 < ((ks.map D.str).length : Int) := by simp; omega
  refine nx_ok0 kl hs fun r x1 r0 r1 hs1 => ?_
  walk_at "d"
  refine g_ix (pickS r0 (by simpa using r1) fun k hk => ?_)
  walk_at "d"
  unfold t__law_leaf_1
  walk_at "d"
  refine i_D (fun e => ?_) (fun e1 => ?_)
  · subst e
    unfold t__law_leaf_1a_0
    walk_at "d"
    refine nx_ok0 (by decide) hs1 fun r x2 r0 r1 hs2 => ?_
    walk_at "d"
    exact out01 rfl rfl (hq (.truth _) _ _ trivial hk hs2)
  · walk_at "d"
    unfold t__law_leaf_2
    walk_at "d"
    refine i_D (fun e => ?_) (fun e2 => ?_)
    · subst e
      unfold t__law_leaf_2a_0
      walk_at "d"
      refine ⟨x1, left, last, rfl, hs1, fun m e last' x2 hok hs2 x' ex => ?_⟩
      cases ex
      exact out01 rfl rfl (hq (.num m e) _ _ hok hk hs2)
    · walk_at "d"
      unfold t__law_leaf_3
      walk_at "d"
      refine i_D (fun e => ?_) (fun e3 => ?_)
      · subst e
        unfold t__law_leaf_3a_0
        walk_at "d"
        refine ⟨x1, left, last, rfl, hs1, fun ns last' x2 hl hok hs2 x' ex => ?_⟩
        cases ex
        walk_at "d"
        exact out01 rfl rfl (hq (.bytes ns) _ _ ⟨hl, hok⟩ hk hs2)
      · walk_at "d"
        unfold t__law_leaf_4
        walk_at "d"
        refine i_D (fun e => ?_) (fun e4 => ?_)
        · subst e
          unfold t__law_leaf_4a_0
          walk_at "d"
          refine ⟨x1, left, last, rfl, hs1, fun ns last' x2 hl hok hs2 x' ex => ?_⟩
          cases ex
          walk_at "d"
          exact out01 rfl rfl (hq (.text ns) _ _ ⟨hl, hok⟩ hk hs2)
        · walk_at "d"
          unfold t__law_leaf_5
          walk_at "d"
          have e0 : k = "null" := by
            have := hks k hk
            simp only [List.mem_cons, List.not_mem_nil, or_false] at this
            rcases this with h | h | h | h | h
            · exact h
            · exact absurd h e1
            · exact absurd h e2
            · exact absurd h e3
            · exact absurd h e4
          subst e0
          exact out01 rfl rfl (hq .null _ _ trivial hk hs1)
theorem len__law_value {n : Nat} (h : sp__law_value K n vs H Q E) : vs.length = 4 := len_of h fun ds Qd ⟨_, _, _, _, _, _, e, _⟩ => by rw [e]; rfl
theorem r__law_value {n : Nat} (h : sp__law_value K (n + 1) vs H Q E) : t__law_value_0 K n { nx := fun _ H' => Q .non H', rt := Q } (L2.start N__law_value vs) H := by
  refine body_of (by decide) (fun ds Qd hP => ?_) (fun ds Qd hP => ?_) h
  · obtain ⟨x, _, _, _, ks, _, rfl, _⟩ := hP
    simp
  obtain ⟨x, left, last, deep, ks, hm, rfl, hdn, hk0, hks, hs, hq⟩ := hP
  unfold t__law_value_0
  walk_at "d"
  refine s_cell2 rfl hs ?_
  walk_at "d"
  refine g_c2 hs ?_
  walk_at "d"
  refine ⟨_, _, _, _, rfl, rfl, hs, fun x1 hs1 => ?_⟩
  unfold t__law_value_1
  walk_at "d"
  refine nx_ok0 (by decide) hs1 fun pick x2 p0 p1 hs2 => ?_
  walk_at "d"
  unfold t__law_value_2
  walk_at "d"
  have leaf : ∀ De : DEnds, De.rt = (endsD [0, 2] Qd).rt → DS K [0, 2] (t__law_value_2a_0 K n) [some x2, some (.int deep), some (kindsOf ks), some (.bl hm), some (.int pick), none, none, none, none, none] De := fun De eD => by
    unfold t__law_value_2a_0
    walk_at "d"
    refine ⟨x2, left - 1, last, ks, rfl, hk0, hks, hs2, fun v last' x3 hok hk hs3 => ?_⟩
    rw [eD]
    refine out02 (x := x3) (y := kindsOf ks) rfl rfl (hq v (left - 1) last' x3 ?_ ?_ (by omega) hs3)
    · cases deep with
      | zero => exact ⟨hok, hk⟩
      | succ m =>
        cases v with
        | list _ => exact hok.elim
        | map _ => exact hok.elim
        | _ => exact ⟨hok, hk⟩
    · have : v.conts = 0 := by cases v <;> first | rfl | exact hok.elim
      rw [this]
      unfold pos
      omega
  refine i_D (fun c0 => ?_) (fun c0 => ?_)
  · walk_at "d"
    exact leaf _ rfl
  walk_at "d"
  refine g_c2 hs2 ?_
  walk_at "d"
  refine i_D (fun c1 => ?_) (fun c1 => ?_)
  · walk_at "d"
    exact leaf _ rfl
  walk_at "d"
  refine i_D (fun c2 => ?_) (fun c2 => ?_)
  · exact leaf _ rfl
  walk_at "d"
  obtain ⟨m, rfl⟩ : ∃ m, deep = m + 1 := ⟨deep - 1, by omega⟩
  have em : ((m + 1 : Nat) : Int) - 1 = (m : Int) := by omega
  -- behind the number of parts
  have rest : ∀ (last' many : Int) (x : D), StD (left - 1) last' x → 0 ≤ many → many ≤ 49 → DS K [0, 2] (t__law_value_5 K n) [some x, some (.int ((m + 1 : Nat) : Int)), some (kindsOf ks), some (.bl hm), some (.int pick), some (.int many), none, none, none, none] (endsD [0, 2] Qd) := fun last' many x hs m0 m1 => by
    have lst : ∀ De : DEnds, De.rt = (endsD [0, 2] Qd).rt → DS K [0, 2] (t__law_value_5a_0 K n) [some x, some (.int ((m + 1 : Nat) : Int)), some (kindsOf ks), some (.bl hm), some (.int pick), some (.int many), none, none, none, none] De := fun De eD => by
      unfold t__law_value_5a_0
      walk_at "d"
      refine Lc.of (fun i acc ρ => ∃ (xs : List Val) (x : D) (left' last' : Int), acc = xs.map Val.dt ∧ xs.length = i ∧ (∀ y ∈ xs, y.good ks hm m) ∧ (contsL xs : Int) ≤ pos (left - 1) - pos left' ∧ left' ≤ left - 1 ∧ StD left' last' x ∧ ρ = [some x, some (.int ((m + 1 : Nat) : Int)), some (kindsOf ks), some (.bl hm), some (.int pick), some (.int many), none, none, none, none]) ⟨[], x, left - 1, last', rfl, rfl, by simp, by simp [contsL], by omega, hs, rfl⟩ ?_ ?_
      · rintro i acc ρ hi ⟨xs, x, left', last', rfl, hl, hg, hc, hle, hs, rfl⟩
        walk_at "d"
        refine ⟨x, left', last', m, ks, hm, by rw [em], by omega, hk0, hks, hs, fun v l2 t2 x3 hgv hcv hlv hs3 => ?_⟩
        refine ⟨small_lt (by rw [List.length_map]; omega), xs ++ [v], x3, l2, t2, by rw [List.map_append]; rfl, by simp [hl], fun y hy => ?_, ?_, by omega, hs3, rfl⟩
        · rcases List.mem_append.mp hy with z | z
          · exact hg y z
          · obtain rfl : y = v := by simpa using z
            exact hgv
        · have : ∀ xs : List Val, contsL (xs ++ [v]) = contsL xs + v.conts := fun xs => by
            induction xs with
            | nil => simp [contsL]
            | cons y ys ih => simp [contsL, ih]; omega
          rw [this]
          unfold pos at *
          omega
      · rintro acc ρ ⟨xs, x, left', last', rfl, hl, hg, hc, hle, hs, rfl⟩
        refine cb_tuple (.lst _) (by rw [← dtL_map]; exact immL xs) ?_
        walk_at "d"
        rw [eD]
        refine out02 (x := x) (y := kindsOf ks) rfl rfl ?_
        rw [← dtL_map]
        refine hq (.list xs) left' last' x ⟨by omega, hg⟩ ?_ (by omega) hs
        simp only [Val.conts]
        unfold pos at *
        omega
    unfold t__law_value_5
    walk_at "d"
    refine i_D (fun c3 => ?_) (fun c3 => ?_)
    · exact lst _ rfl
    walk_at "d"
    refine i_B (!hm) (fun c4 => ?_) (fun c4 => ?_)
    · exact lst _ rfl
    have hm1 : hm = true := by simpa using c4
    walk_at "d"
    unfold t__law_value_6
    walk_at "d"
    unfold t__law_value_7
    walk_at "d"
    let Pv : Nat → Rho → Prop := fun i ρ => ∃ (es : List (List Int × Val)) (x : D) (left' last' : Int) (x6 x8 x9 : Option D), es.length ≤ i ∧ (∀ e ∈ es, e.1.length ≤ 200 ∧ (∀ c ∈ e.1, okPt c) ∧ e.2.good ks hm m) ∧ (es.map (·.1)).Nodup ∧ (contsM es : Int) ≤ pos (left - 1) - pos left' ∧ left' ≤ left - 1 ∧ StD left' last' x ∧
      ρ = [some x, some (.int ((m + 1 : Nat) : Int)), some (kindsOf ks), some (.bl hm), some (.int pick), some (.int many), x6, some (.lst (dtM es)), x8, x9]
    refine Lp.of Pv ⟨[], x, left - 1, last', none, none, none, by simp, by simp, by simp, by simp [contsM], by omega, hs, rfl⟩ ?_ ?_
    · rintro i ρ hi ⟨es, x, left', last', x6, x8, x9, hl, hg, hnd, hc, hle, hs, rfl⟩
      walk_at "d"
      unfold t__law_value_7a_0
      walk_at "d"
      refine ⟨x, left', last', rfl, hs, fun ns l1 x1 hnl hns hs1 x' ex => ?_⟩
      cases ex
      walk_at "d"
      unfold t__law_value_7a_1
      walk_at "d"
      have imE : ∀ j, j < es.length → atD (dtM es) j = entD (es.getD j ([], .null)) := fun j hj => by
        unfold atD
        rw [dtM_map, List.getD_eq_getElem?_getD, List.getElem?_map, List.getElem?_eq_getElem hj, List.getD_eq_getElem?_getD, List.getElem?_eq_getElem hj]
        rfl
      have lenM : (dtM es).length = es.length := by rw [dtM_map, List.length_map]
      refine ⟨fun j acc ρ => acc = (es.take j).map (fun e => tI e.1) ∧ j ≤ es.length ∧ ρ = [some x1, some (.int ((m + 1 : Nat) : Int)), some (kindsOf ks), some (.bl hm), some (.int pick), some (.int many), some (.int i), some (.lst (dtM es)), some (tI ns), none], ⟨by simp, by simp, rfl⟩, fun j acc ρ ⟨_, _, e⟩ => by rw [e]; rfl, ?_, ?_⟩
      · rintro j acc ρ hj ⟨rfl, hj2, rfl⟩
        rw [lenM] at hj
        walk_at "d"
        rw [imE j hj]
        refine g_ix (ixT (k := 0) (d := tI (es.getD j ([], .null)).1) rfl ⟨?_, ?_⟩)
        · rfl
        · refine ⟨small_lt (by simp; omega), ?_, by omega, rfl⟩
          rw [List.take_add_one, List.map_append, List.getElem?_eq_getElem hj]
          simp [List.getD_eq_getElem?_getD, List.getElem?_eq_getElem hj]
      · rintro acc ρ ⟨rfl, hj2, rfl⟩
        have e1 : (es.take (dtM es).length).map (fun e => tI e.1) = (es.map (·.1)).map tI := by
          rw [lenM, List.take_length, List.map_map]
          rfl
        rw [e1]
        walk_at "d"
        refine o_notInT ?_
        walk_at "d"
        refine i_ND (fun hin => ?_) (fun hin => ?_)
        · unfold t__law_value_7a_1a_0
          walk_at "d"
          refine ⟨x1, left', l1, m, ks, hm, by rw [em], by omega, hk0, hks, hs1, fun v l2 t2 x3 hgv hcv hlv hs3 => ?_⟩
          walk_at "d"
          refine app_ok (by rw [lenM]; omega) ?_
          refine ⟨es ++ [(ns, v)], x3, l2, t2, _, _, _, by simp; omega, fun e he => ?_, ?_, ?_, by omega, hs3, by rw [dtM_map, dtM_map, List.map_append]; rfl⟩
          · rcases List.mem_append.mp he with z | z
            · exact hg e z
            · obtain rfl : e = (ns, v) := by simpa using z
              exact ⟨hnl, hns, hgv⟩
          · rw [List.map_append, List.nodup_append]
            refine ⟨hnd, by simp, fun a ha b hb => ?_⟩
            obtain rfl : b = ns := by simpa using hb
            rintro rfl
            exact hin ha
          · have : ∀ es : List (List Int × Val), contsM (es ++ [(ns, v)]) = contsM es + v.conts := fun es => by
              induction es with
              | nil => simp [contsM]
              | cons y ys ih => obtain ⟨k, w⟩ := y; simp [contsM, ih]; omega
            rw [this]
            unfold pos at *
            omega
        · walk_at "d"
          exact ⟨es, x1, left', l1, _, _, _, by omega, hg, hnd, hc, hle, hs1, rfl⟩
    · rintro ρ ⟨es, x, left', last', x6, x8, x9, hl, hg, hnd, hc, hle, hs, rfl⟩
      unfold t__law_value_8
      walk_at "d"
      refine cb_sortedE hnd fun es' hp hs' => ?_
      refine cb_tuple (.lst _) (immM es') ?_
      walk_at "d"
      refine out02 (x := x) (y := kindsOf ks) rfl rfl (hq (.map es') left' last' x ⟨hm1, ?_, fun e he => hg e (hp.mem_iff.mp he), hs'⟩ ?_ (by omega) hs)
      · rw [hp.length_eq]
        omega
      · have : ∀ es : List (List Int × Val), contsM es = (es.map fun e => e.2.conts).sum := fun es => by
          induction es with
          | nil => rfl
          | cons e es ih => obtain ⟨k, v⟩ := e; simp [contsM, ih]
        simp only [Val.conts]
        rw [this es', (hp.map _).sum_nat, ← this es]
        unfold pos at *
        omega
  unfold t__law_value_3
  walk_at "d"
  refine nx_ok0 (by decide) hs2 fun many x3 m0 m1 hs3 => ?_
  walk_at "d"
  unfold t__law_value_4
  walk_at "d"
  refine g_c4 hs3 ?_
  walk_at "d"
  refine i_D (fun c0 => ?_) (fun c0 => ?_)
  · walk_at "d"
    refine nx_ok0 (by decide) hs3 fun r x4 r0 r1 hs4 => ?_
    walk_at "d"
    refine i_D (fun c1 => ?_) (fun c1 => ?_)
    · unfold t__law_value_4a_0
      walk_at "d"
      refine s_cell4 rfl hs4 ?_
      walk_at "d"
      refine g_c4 hs4 ?_
      walk_at "d"
      refine ⟨_, _, _, _, rfl, rfl, hs4, fun x5 hs5 => ?_⟩
      unfold t__law_value_4a_1
      walk_at "d"
      refine nx_ok0 (by decide) hs5 fun k x6 k0 k1 hs6 => ?_
      walk_at "d"
      exact rest _ _ _ hs6 (by omega) (by omega)
    · walk_at "d"
      exact rest _ _ _ hs4 m0 (by omega)
  · walk_at "d"
    exact rest _ _ _ hs3 m0 (by omega)
end
/-! ### values: what holds of them; rows sorted -/
theorem lex_trans : ∀ {a b c : List Int}, HT.lexLt a b = true → HT.lexLt b c = true → HT.lexLt a c = true := fun {a b c} h1 h2 => by
  cases z : HT.lexLt a c with
  | true => rfl
  | false =>
    have h3 := lex_asym _ _ h1
    have h4 : HT.lexLt b c = false := by
      have := lex_ntr c a b z h3
      exact this
    rw [h2] at h4
    cases h4
/-- keys that ascend strictly -/
def Asc (es : List (List Int × Val)) : Prop := es.Pairwise fun e f => HT.lexLt e.1 f.1 = true
theorem Asc.uniq : ∀ {es fs : List (List Int × Val)}, Asc es → Asc fs → List.Perm es fs → es = fs
  | [], fs, _, _, p => (List.Perm.nil_eq p)
  | e :: es, [], _, _, p => by simpa using p.length_eq
  | e :: es, f :: fs, h1, h2, p => by
    obtain ⟨a1, a2⟩ := List.pairwise_cons.mp h1
    obtain ⟨b1, b2⟩ := List.pairwise_cons.mp h2
    have ef : e = f := by
      have m1 : e ∈ f :: fs := p.mem_iff.mp (List.mem_cons_self ..)
      have m2 : f ∈ e :: es := p.mem_iff.mpr (List.mem_cons_self ..)
      rcases List.mem_cons.mp m1 with z | z
      · exact z
      · rcases List.mem_cons.mp m2 with y | y
        · exact y.symm
        · have q1 := b1 e z
          have q2 := a1 f y
          have q3 := lex_asym _ _ q1
          rw [q2] at q3
          cases q3
    subst ef
    rw [Asc.uniq a2 b2 (List.Perm.cons_inv p)]
theorem Asc.nodup {es : List (List Int × Val)} (h : Asc es) : (es.map (·.1)).Nodup := by
  refine List.pairwise_map.mpr (h.imp fun {a b} q z => ?_)
  rw [z, lex_refl] at q
  cases q
mutual
/-- in normal form, and not too wide -/
def Val.ok : Val → Prop
  | .list xs => xs.length ≤ 1000 ∧ okL xs
  | .map es => es.length ≤ 1000 ∧ Asc es ∧ okM es
  | _ => True
def okL : List Val → Prop
  | [] => True
  | x :: xs => x.ok ∧ okL xs
def okM : List (List Int × Val) → Prop
  | [] => True
  | (_, x) :: es => x.ok ∧ okM es
end
theorem okL_of : ∀ {xs : List Val}, (∀ x ∈ xs, x.ok) → okL xs
  | [], _ => trivial
  | x :: xs, h => ⟨h x (List.mem_cons_self ..), okL_of fun y hy => h y (List.mem_cons_of_mem _ hy)⟩
theorem okM_of : ∀ {es : List (List Int × Val)}, (∀ e ∈ es, e.2.ok) → okM es
  | [], _ => trivial
  | (k, x) :: es, h => ⟨h (k, x) (List.mem_cons_self ..), okM_of fun y hy => h y (List.mem_cons_of_mem _ hy)⟩
mutual
/-- how many levels -/
def Val.dep : Val → Nat
  | .list xs => 1 + depL xs
  | .map es => 1 + depM es
  | _ => 0
def depL : List Val → Nat
  | [] => 0
  | x :: xs => max x.dep (depL xs)
def depM : List (List Int × Val) → Nat
  | [] => 0
  | (_, x) :: es => max x.dep (depM es)
end
theorem depL_le {n : Nat} : ∀ {xs : List Val}, (∀ x ∈ xs, x.dep ≤ n) → depL xs ≤ n
  | [], _ => Nat.zero_le _
  | x :: xs, h => Nat.max_le.mpr ⟨h x (List.mem_cons_self ..), depL_le fun y hy => h y (List.mem_cons_of_mem _ hy)⟩
theorem depM_le {n : Nat} : ∀ {es : List (List Int × Val)}, (∀ e ∈ es, e.2.dep ≤ n) → depM es ≤ n
  | [], _ => Nat.zero_le _
  | (k, x) :: es, h => Nat.max_le.mpr ⟨h (k, x) (List.mem_cons_self ..), depM_le fun y hy => h y (List.mem_cons_of_mem _ hy)⟩
theorem le_depL {x : Val} : ∀ {xs : List Val}, x ∈ xs → x.dep ≤ depL xs
  | [], h => by cases h
  | y :: xs, h => by
    rcases List.mem_cons.mp h with rfl | h
    · exact Nat.le_max_left _ _
    · exact Nat.le_trans (le_depL h) (Nat.le_max_right _ _)
theorem le_depM {e : List Int × Val} : ∀ {es : List (List Int × Val)}, e ∈ es → e.2.dep ≤ depM es
  | [], h => by cases h
  | (k, y) :: es, h => by
    rcases List.mem_cons.mp h with rfl | h
    · exact Nat.le_max_left _ _
    · exact Nat.le_trans (le_depM h) (Nat.le_max_right _ _)
theorem leaf_dep {v : Val} (h : okLeaf v) : v.dep = 0 ∧ v.ok := by cases v <;> first | exact ⟨rfl, trivial⟩ | exact h.elim
theorem good_ok {ks : List Str} {hm : Bool} : ∀ {n : Nat} {v : Val}, v.good ks hm n → v.dep ≤ n ∧ v.ok := by
  intro n
  induction n with
  | zero => intro v h; obtain ⟨h1, h2⟩ := leaf_dep h.1; exact ⟨by omega, h2⟩
  | succ n ih =>
    intro v h
    cases v with
    | list xs =>
      refine ⟨?_, by have := h.1; omega, okL_of fun x hx => (ih (h.2 x hx)).2⟩
      have := depL_le fun x hx => (ih (h.2 x hx)).1
      show 1 + depL xs ≤ n + 1
      omega
    | map es =>
      obtain ⟨h0, h1, h2, h3⟩ := h
      refine ⟨?_, by omega, h3, okM_of fun e he => (ih (h2 e he).2.2).2⟩
      have := depM_le fun e he => (ih (h2 e he).2.2).1
      show 1 + depM es ≤ n + 1
      omega
    | null => exact ⟨by simp [Val.dep], trivial⟩
    | truth => exact ⟨by simp [Val.dep], trivial⟩
    | num => exact ⟨by simp [Val.dep], trivial⟩
    | bytes => exact ⟨by simp [Val.dep], trivial⟩
    | text => exact ⟨by simp [Val.dep], trivial⟩
/-! depth of the data -/
mutual
theorem py_dep : ∀ v : Val, v.dt.py.depth ≤ 3 * v.dep + 2
  | .null => by simp [Val.dt, D.py, pyA, PyData.depth, PyData.depthAll]
  | .truth b => by simp [Val.dt, D.py, pyA, PyData.depth, PyData.depthAll]
  | .num m e => by simp [Val.dt, D.py, pyA, PyData.depth, PyData.depthAll]
  | .bytes os => by
    have : PyData.depthAll (os.map PyData.int) = 0 := by
      induction os with
      | nil => simp [PyData.depthAll]
      | cons n ns ih => simp [PyData.depthAll, PyData.depth, ih]
    simp [Val.dt, D.py, pyA, PyData.depth, PyData.depthAll, this]
  | .text os => by
    have : PyData.depthAll (os.map PyData.int) = 0 := by
      induction os with
      | nil => simp [PyData.depthAll]
      | cons n ns ih => simp [PyData.depthAll, PyData.depth, ih]
    simp [Val.dt, D.py, pyA, PyData.depth, PyData.depthAll, this]
  | .list xs => by
    have := py_depL xs
    simp only [Val.dt, D.py, pyA, PyData.depth, PyData.depthAll, Val.dep]
    omega
  | .map es => by
    have := py_depM es
    simp only [Val.dt, D.py, pyA, PyData.depth, PyData.depthAll, Val.dep]
    omega
theorem py_depL : ∀ xs : List Val, PyData.depthAll (pyA (dtL xs)) ≤ 3 * depL xs + 2
  | [] => by simp [dtL, pyA, PyData.depthAll]
  | x :: xs => by
    have h1 := py_dep x
    have h2 := py_depL xs
    simp only [dtL, pyA, PyData.depthAll, depL]
    omega
theorem py_depM : ∀ es : List (List Int × Val), PyData.depthAll (pyA (dtM es)) ≤ 3 * depM es + 3
  | [] => by simp [dtM, pyA, PyData.depthAll]
  | (k, x) :: es => by
    have h1 := py_dep x
    have h2 := py_depM es
    have h3 : PyData.depthAll (k.map PyData.int) = 0 := by
      induction k with
      | nil => simp [PyData.depthAll]
      | cons n ns ih => simp [PyData.depthAll, PyData.depth, ih]
    simp only [dtM, pyA, D.py, PyData.depth, PyData.depthAll, depM, h3]
    omega
end
mutual
theorem dt_plain : ∀ v : Val, v.dt.plain = true
  | .null => by simp [Val.dt, D.plain, plainA]; decide +kernel
  | .truth b => by simp [Val.dt, D.plain, plainA]; decide +kernel
  | .num m e => by simp [Val.dt, D.plain, plainA]; decide +kernel
  | .bytes os => by simp [Val.dt, D.plain, plainA]; decide +kernel
  | .text os => by simp [Val.dt, D.plain, plainA]; decide +kernel
  | .list xs => by simp [Val.dt, D.plain, plainA, plainL xs]; decide +kernel
  | .map es => by simp [Val.dt, D.plain, plainA, plainM es]; decide +kernel
theorem plainL : ∀ xs : List Val, plainA (dtL xs) = true
  | [] => rfl
  | x :: xs => by simp [dtL, plainA, dt_plain x, plainL xs]
theorem plainM : ∀ es : List (List Int × Val), plainA (dtM es) = true
  | [] => rfl
  | (k, x) :: es => by simp [dtM, plainA, D.plain, dt_plain x, plainM es]
end
theorem no__law_value {K : PySem.W.Frag} {vs : List V} {H : Hp} {Q : VK} {E : XK} : sp__law_value K 0 vs H Q E → False := spD_no fun ds Qd hp => by
  obtain ⟨_, _, _, deep, _, _, _, h, _⟩ := hp
  omega
/-! ### events; the builder -/
def L_CLOSE : List Lit := [.str "close"]
inductive Ev where
  | openL | openM | key (k : List Int) | leaf (v : Val) | close
def Ev.dt : Ev → D
  | .openL => .tup [.str "open", .str "list"]
  | .openM => .tup [.str "open", .str "map"]
  | .key k => .tup [.str "key", .key k]
  | .leaf v => .tup [.str "leaf", v.dt]
  | .close => .tup [.str "close"]
mutual
def evs : Val → List Ev
  | .list xs => .openL :: (evL xs ++ [.close])
  | .map es => .openM :: (evM es ++ [.close])
  | v => [.leaf v]
def evL : List Val → List Ev
  | [] => []
  | x :: xs => evs x ++ evL xs
def evM : List (List Int × Val) → List Ev
  | [] => []
  | (k, x) :: es => .key k :: (evs x ++ evM es)
end
theorem Ev.imm : ∀ e : Ev, e.dt.imm = true
  | .openL | .openM | .close => rfl
  | .key k => rfl
  | .leaf v => by simp [Ev.dt, D.imm, immA, v.imm]
theorem imm_evs (es : List Ev) : immA (es.map Ev.dt) = true := imm_of fun d hd => by
  obtain ⟨e, _, rfl⟩ := List.mem_map.mp hd
  exact e.imm
/-- an open list or map -/
structure Fr where
  m : Bool
  rows : List (List Int × Val)
  key : List Int
abbrev F_Frame : List Str := ["kind", "rows", "key"]
abbrev F_Builder : List Str := ["frames", "is_done", "value"]
def kindD (m : Bool) : Str := if m then "map" else "list"
def Fr.rowsD (f : Fr) : List D := if f.m then dtM f.rows else dtL (f.rows.map (·.2))
def Fr.dt (f : Fr) : D := .ins "Frame" F_Frame [.str (kindD f.m), .lst f.rowsD, .key f.key]
def Fr.put (f : Fr) (v : Val) : Fr := { f with rows := f.rows ++ [(f.key, v)] }
/-- what is whole -/
def Fr.Whole (f : Fr) (v : Val) : Prop := (f.m = false ∧ v = .list (f.rows.map (·.2))) ∨ (f.m = true ∧ ∃ es, List.Perm es f.rows ∧ Asc es ∧ v = .map es)
/-- the builder: the frames, the top one first -/
structure BS where
  fs : List Fr
  done : Option Val
def BS.dt (b : BS) : D := .ins "Builder" F_Builder [.lst (b.fs.reverse.map Fr.dt), .bl b.done.isSome, (match b.done with | none => .non | some v => v.dt)]
def BS.put (b : BS) (v : Val) : BS := match b.fs with
  | [] => ⟨[], some v⟩
  | f :: fs => ⟨f.put v :: fs, none⟩
/-- an event may come -/
def BS.Okp (b : BS) (e : Ev) : Prop := b.done = none ∧ (match e with
  | .openL => True
  | .openM => True
  | .key _ => b.fs ≠ []
  | .leaf _ => ∀ f fs, b.fs = f :: fs → f.rows.length ≤ 1000
  | .close => ∃ f fs, b.fs = f :: fs ∧ f.rows.length ≤ 1000 ∧ (f.m = true → (f.rows.map (·.1)).Nodup) ∧ ∀ g gs, fs = g :: gs → g.rows.length ≤ 1000) ∧ b.fs.length ≤ 1000
/-- what comes of it -/
def BS.Stp (b : BS) (e : Ev) (b' : BS) : Prop := match e with
  | .openL => b' = ⟨⟨false, [], []⟩ :: b.fs, none⟩
  | .openM => b' = ⟨⟨true, [], []⟩ :: b.fs, none⟩
  | .key k => ∃ f fs, b.fs = f :: fs ∧ b' = ⟨{ f with key := k } :: fs, none⟩
  | .leaf v => b' = b.put v
  | .close => ∃ f fs v, b.fs = f :: fs ∧ f.Whole v ∧ b' = (⟨fs, none⟩ : BS).put v
def p_list_of : SpD := fun ds Q => ∃ xs : List Val, ds = [.lst (dtL xs)] ∧ Q (Val.list xs).dt [.lst (dtL xs)]
def p_map_of : SpD := fun ds Q => ∃ es : List (List Int × Val), ds = [.lst (dtM es)] ∧ (es.map (·.1)).Nodup ∧ es.length ≤ 1000000 ∧ ∀ es', List.Perm es' es → Asc es' → Q (Val.map es').dt [.lst (dtM es)]
def p_Frame_init : SpD := fun ds Q => ∃ m : Bool, ds = [.ins "Frame" F_Frame [], .str (kindD m)] ∧ Q .non [(⟨m, [], []⟩ : Fr).dt]
def p_Frame_put : SpD := fun ds Q => ∃ (f : Fr) (v : Val), ds = [f.dt, v.dt] ∧ f.rows.length ≤ 1000 ∧ Q .non [(f.put v).dt]
def p_Frame_whole : SpD := fun ds Q => ∃ f : Fr, ds = [f.dt] ∧ f.rows.length ≤ 1000 ∧ (f.m = true → (f.rows.map (·.1)).Nodup) ∧ ∀ v, f.Whole v → Q v.dt [f.dt]
def p_Builder_init : SpD := fun ds Q => ds = [.ins "Builder" F_Builder []] ∧ Q .non [(⟨[], none⟩ : BS).dt]
def p_Builder_put : SpD := fun ds Q => ∃ (b : BS) (v : Val), ds = [b.dt, v.dt] ∧ b.done = none ∧ (∀ f fs, b.fs = f :: fs → f.rows.length ≤ 1000) ∧ Q .non [(b.put v).dt]
def p_Builder_take : SpD := fun ds Q => ∃ (b : BS) (e : Ev), ds = [b.dt, e.dt] ∧ b.Okp e ∧ ∀ b', b.Stp e b' → Q .non [b'.dt]
def p_evs (n : Nat) : SpD := fun ds Q => ∃ v : Val, ds = [v.dt] ∧ v.dep < n ∧ (evs v).length ≤ 500000 ∧ Q (.lst ((evs v).map Ev.dt)) []
abbrev sp_list_of (K : PySem.W.Frag) : Sp := spD K [0] p_list_of
abbrev sp_map_of (K : PySem.W.Frag) : Sp := spD K [0] p_map_of
abbrev sp_Frame_init (K : PySem.W.Frag) : Sp := spD K [0] p_Frame_init
abbrev sp_Frame_put (K : PySem.W.Frag) : Sp := spD K [0] p_Frame_put
abbrev sp_Frame_whole (K : PySem.W.Frag) : Sp := spD K [0] p_Frame_whole
abbrev sp_Builder_init (K : PySem.W.Frag) : Sp := spD K [0] p_Builder_init
abbrev sp_Builder_put (K : PySem.W.Frag) : Sp := spD K [0] p_Builder_put
abbrev sp_Builder_take (K : PySem.W.Frag) : Sp := spD K [0] p_Builder_take
abbrev sp_events_of (K : PySem.W.Frag) (n : Nat) : Sp := spD K [] (p_evs n)
abbrev sp__law_events (K : PySem.W.Frag) (n : Nat) : Sp := spD K [] (p_evs n)
/-! list_of(items) : items=0 -/
def N_list_of : List Str := ["items"]
def t_list_of_0 (K : PySem.W.Frag) : TS := (tRet (tTup (tCons (tC (.str "list")) (tCons (tCB (rTupOf K) (tCons (tVar 0) tNil)) tNil))))
/-! map_of(entries) : entries=0 table=1 key=2 value=3 -/
def N_map_of : List Str := ["entries", "table", "key", "value"]
def t_map_of_1a_0a_0 (K : PySem.W.Frag) : TS := tNever
def t_map_of_1a_1 (K : PySem.W.Frag) : TS := (sDPut (tVar 1) (tCB (rTupOf K) (tCons (tVar 2) tNil)) (tVar 3))
def t_map_of_1a_0 (K : PySem.W.Frag) : TS := tSeq (tIfS (tB (tDIn (tCB (rTupOf K) (tCons (tVar 2) tNil)) (tVar 1))) (t_map_of_1a_0a_0 K) tNext) (t_map_of_1a_1 K)
def t_map_of_2 (K : PySem.W.Frag) : TS := (tRet (tTup (tCons (tC (.str "map")) (tCons (tCB (rTupOf K) (tCons (tLc (iU K (tCB (rSortedU K) (tCons (tCB (rListU K) (tCons (tVar 1) tNil)) tNil))) (gName 2) tYes (tTup (tCons (tVar 2) (tCons (tDGet (tVar 1) (tVar 2)) tNil))) [2]) tNil)) tNil))))
def t_map_of_1 (K : PySem.W.Frag) : TS := tSeq (tFor (iU K (tVar 0)) (gTup K 2 (gCons (gName 2) (gCons (gName 3) gNil))) (t_map_of_1a_0 K)) (t_map_of_2 K)
def t_map_of_0 (K : PySem.W.Frag) : TS := tSeq (tAsg tDNewT (gName 1)) (t_map_of_1 K)
/-! __init__(self, kind) : self=0 kind=1 -/
def N_Frame_init : List Str := ["self", "kind"]
def t_Frame_init_2 (K : PySem.W.Frag) : TS := (sFld K (tVar 0) (tTup tNil) "key")
def t_Frame_init_1 (K : PySem.W.Frag) : TS := tSeq (sFld K (tVar 0) (tLst tNil) "rows") (t_Frame_init_2 K)
def t_Frame_init_0 (K : PySem.W.Frag) : TS := tSeq (sFld K (tVar 0) (tVar 1) "kind") (t_Frame_init_1 K)
/-! put(self, value) : self=0 value=1 -/
def N_Frame_put : List Str := ["self", "value"]
def t_Frame_put_0a_0 (K : PySem.W.Frag) : TS := (tDrop (tBM K "list" rAppend (tFld K (tVar 0) "rows") (tCons (tTup (tCons (tFld K (tVar 0) "key") (tCons (tVar 1) tNil))) tNil)))
def t_Frame_put_0b_0 (K : PySem.W.Frag) : TS := (tDrop (tBM K "list" rAppend (tFld K (tVar 0) "rows") (tCons (tVar 1) tNil)))
def t_Frame_put_0 (K : PySem.W.Frag) : TS := (tIfS (tTest (tOp (rEqU K) (tFld K (tVar 0) "kind") (tC (.str "map")))) (t_Frame_put_0a_0 K) (t_Frame_put_0b_0 K))
/-! whole(self) : self=0 -/
def N_Frame_whole : List Str := ["self"]
def t_Frame_whole_0a_0 (K : PySem.W.Frag) : TS := (tRet (tCall (sp_map_of K) [] E0 (tCons (tFld K (tVar 0) "rows") tNil)))
def t_Frame_whole_1 (K : PySem.W.Frag) : TS := (tRet (tCall (sp_list_of K) [] E0 (tCons (tFld K (tVar 0) "rows") tNil)))
def t_Frame_whole_0 (K : PySem.W.Frag) : TS := tSeq (tIfS (tTest (tOp (rEqU K) (tFld K (tVar 0) "kind") (tC (.str "map")))) (t_Frame_whole_0a_0 K) tNext) (t_Frame_whole_1 K)
/-! __init__(self) : self=0 -/
def N_Builder_init : List Str := ["self"]
def t_Builder_init_2 (K : PySem.W.Frag) : TS := (sFld K (tVar 0) (tC .non) "value")
def t_Builder_init_1 (K : PySem.W.Frag) : TS := tSeq (sFld K (tVar 0) (tC (.bl false)) "is_done") (t_Builder_init_2 K)
def t_Builder_init_0 (K : PySem.W.Frag) : TS := tSeq (sFld K (tVar 0) (tLst tNil) "frames") (t_Builder_init_1 K)
/-! put(self, value) : self=0 value=1 -/
def N_Builder_put : List Str := ["self", "value"]
def t_Builder_put_0a_1 (K : PySem.W.Frag) : TS := (sFld K (tVar 0) (tC (.bl true)) "is_done")
def t_Builder_put_0a_0 (K : PySem.W.Frag) : TS := tSeq (sFld K (tVar 0) (tVar 1) "value") (t_Builder_put_0a_1 K)
def t_Builder_put_0b_0 (K : PySem.W.Frag) : TS := (tDrop (tMeth (gA "Frame" K) "put" (sp_Frame_put K) [] E0 (tOp (rIxU K) (tFld K (tVar 0) "frames") (tUn rNegI (tC (.int 1)))) (tCons (tVar 1) tNil)))
def t_Builder_put_0 (K : PySem.W.Frag) : TS := (tIfS (tTest (tOp (rEqU K) (tCB (rLen K) (tCons (tFld K (tVar 0) "frames") tNil)) (tC (.int 0)))) (t_Builder_put_0a_0 K) (t_Builder_put_0b_0 K))
/-! take(self, event) : self=0 event=1 frame=2 -/
def N_Builder_take : List Str := ["self", "event", "frame"]
def t_Builder_take_0a_0 (K : PySem.W.Frag) : TS := (tDrop (tBM K "list" rAppend (tFld K (tVar 0) "frames") (tCons (tMake (gA "Frame" K) (sp_Frame_init K) [] E0 (tCons (tOp (rIxU K) (tVar 1) (tC (.int 1))) tNil)) tNil)))
def t_Builder_take_0b_0a_0 (K : PySem.W.Frag) : TS := (sFld K (tOp (rIxU K) (tFld K (tVar 0) "frames") (tUn rNegI (tC (.int 1)))) (tOp (rIxU K) (tVar 1) (tC (.int 1))) "key")
def t_Builder_take_0b_0b_0a_0 (K : PySem.W.Frag) : TS := (tDrop (tMeth (gA "Builder" K) "put" (sp_Builder_put K) [] E0 (tVar 0) (tCons (tOp (rIxU K) (tVar 1) (tC (.int 1))) tNil)))
def t_Builder_take_0b_0b_0b_1 (K : PySem.W.Frag) : TS := (tDrop (tMeth (gA "Builder" K) "put" (sp_Builder_put K) [] E0 (tVar 0) (tCons (tMeth (gA "Frame" K) "whole" (sp_Frame_whole K) [] E0 (tVar 2) tNil) tNil)))
def t_Builder_take_0b_0b_0b_0 (K : PySem.W.Frag) : TS := tSeq (tAsg (tBM0 K "list" rPop (tFld K (tVar 0) "frames")) (gName 2)) (t_Builder_take_0b_0b_0b_1 K)
def t_Builder_take_0b_0b_0 (K : PySem.W.Frag) : TS := (tIfS (tTest (tOp (rEqU K) (tOp (rIxU K) (tVar 1) (tC (.int 0))) (tC (.str "leaf")))) (t_Builder_take_0b_0b_0a_0 K) (t_Builder_take_0b_0b_0b_0 K))
def t_Builder_take_0b_0 (K : PySem.W.Frag) : TS := (tIfS (tTest (tOp (rEqU K) (tOp (rIxU K) (tVar 1) (tC (.int 0))) (tC (.str "key")))) (t_Builder_take_0b_0a_0 K) (t_Builder_take_0b_0b_0 K))
def t_Builder_take_0 (K : PySem.W.Frag) : TS := (tIfS (tTest (tOp (rEqU K) (tOp (rIxU K) (tVar 1) (tC (.int 0))) (tC (.str "open")))) (t_Builder_take_0a_0 K) (t_Builder_take_0b_0 K))
section
variable {K : PySem.W.Frag} {vs : List V} {H : Hp} {Q : VK} {E : XK}
theorem len_list_of (h : sp_list_of K vs H Q E) : vs.length = 1 := len1 h fun ds Qd ⟨_, e, _⟩ => ⟨_, e⟩
theorem r_list_of (h : sp_list_of K vs H Q E) : t_list_of_0 K { nx := fun _ H' => Q .non H', rt := Q } (L2.start N_list_of vs) H := by
  refine body_of (by decide) (fun ds Qd hP => ?_) (fun ds Qd hP => ?_) h
  · obtain ⟨xs, rfl, _⟩ := hP
    simp
  obtain ⟨xs, rfl, hq⟩ := hP
  unfold t_list_of_0
  walk_at "d"
  refine cb_tuple (.lst _) (immL xs) ?_
  walk_at "d"
  exact out1 rfl hq
theorem len_Frame_init (h : sp_Frame_init K vs H Q E) : vs.length = 2 := len_of h fun ds Qd ⟨_, e, _⟩ => by rw [e]; rfl
theorem r_Frame_init (k : Kls K "Frame" F_Frame) (h : sp_Frame_init K vs H Q E) : t_Frame_init_0 K { nx := fun _ H' => Q .non H', rt := Q } (L2.start N_Frame_init vs) H := by
  refine body_of (by decide) (fun ds Qd hP => ?_) (fun ds Qd hP => ?_) h
  · obtain ⟨xs, rfl, _⟩ := hP
    simp
  obtain ⟨m, rfl, hq⟩ := hP
  unfold t_Frame_init_0
  walk_at "d"
  refine fld_new (pl_var rfl) k rfl (by decide) ?_
  unfold t_Frame_init_1
  walk_at "d"
  refine fld_new (pl_var rfl) k rfl (by decide) ?_
  unfold t_Frame_init_2
  walk_at "d"
  refine fld_new (pl_var rfl) k rfl (by decide) ?_
  refine out1 rfl ?_
  have e : dtL ([] : List Val) = [] := rfl
  cases m <;> exact hq
theorem len_Frame_put (h : sp_Frame_put K vs H Q E) : vs.length = 2 := len_of h fun ds Qd ⟨_, _, e, _⟩ => by rw [e]; rfl
theorem rowsD_put (f : Fr) (v : Val) : (f.put v).rowsD = f.rowsD ++ [if f.m then entD (f.key, v) else v.dt] := by
  unfold Fr.put Fr.rowsD
  cases f.m
  · simp [dtL_map]
  · simp [dtM_map]
theorem rowsD_len (f : Fr) : f.rowsD.length = f.rows.length := by
  unfold Fr.rowsD
  cases f.m
  · simp [dtL_map]
  · simp [dtM_map]
theorem r_Frame_put (k : Kls K "Frame" F_Frame) (h : sp_Frame_put K vs H Q E) : t_Frame_put_0 K { nx := fun _ H' => Q .non H', rt := Q } (L2.start N_Frame_put vs) H := by
  refine body_of (by decide) (fun ds Qd hP => ?_) (fun ds Qd hP => ?_) h
  · obtain ⟨f, v, rfl, _⟩ := hP
    simp
  obtain ⟨f, v, rfl, hl, hq⟩ := hP
  have e0 := rowsD_put f v
  have e1 := rowsD_len f
  unfold t_Frame_put_0
  unfold Fr.dt at *
  walk_at "d"
  obtain ⟨m, rows, key⟩ := f
  cases m with
  | true =>
    refine i_DT rfl ?_
    unfold t_Frame_put_0a_0
    refine s_appP (pl_fld (pl_var rfl) k 1 rfl rfl) ?_
    walk_at "d"
    refine ⟨small_lt (by rw [e1]; show rows.length < 1000000; have : rows.length ≤ 1000 := hl; omega), ?_⟩
    refine out1 rfl ?_
    rw [e0] at hq
    exact hq
  | false =>
    refine i_DF (by show ¬ (("list" : Str) = "map"); decide) ?_
    unfold t_Frame_put_0b_0
    refine s_appP (pl_fld (pl_var rfl) k 1 rfl rfl) ?_
    walk_at "d"
    refine ⟨small_lt (by rw [e1]; show rows.length < 1000000; have : rows.length ≤ 1000 := hl; omega), ?_⟩
    refine out1 rfl ?_
    rw [e0] at hq
    exact hq
theorem len_Frame_whole (h : sp_Frame_whole K vs H Q E) : vs.length = 1 := len1 h fun ds Qd ⟨_, e, _⟩ => ⟨_, e⟩
theorem r_Frame_whole (k : Kls K "Frame" F_Frame) (h : sp_Frame_whole K vs H Q E) : t_Frame_whole_0 K { nx := fun _ H' => Q .non H', rt := Q } (L2.start N_Frame_whole vs) H := by
  refine body_of (by decide) (fun ds Qd hP => ?_) (fun ds Qd hP => ?_) h
  · obtain ⟨f, rfl, _⟩ := hP
    simp
  obtain ⟨f, rfl, hl, hnd, hq⟩ := hP
  obtain ⟨m, rows, key⟩ := f
  unfold t_Frame_whole_0
  unfold Fr.dt at *
  walk_at "d"
  cases m with
  | true =>
    refine i_DT rfl ?_
    unfold t_Frame_whole_0a_0
    refine s_ret (d_callP (pl_fld (pl_var rfl) k 1 rfl rfl) ?_)
    refine ⟨rows, rfl, hnd rfl, by have : rows.length ≤ 1000 := hl; omega, fun es' hp ha x' ex => ?_⟩
    cases ex
    exact out1 rfl (hq _ (.inr ⟨rfl, es', hp, ha, rfl⟩))
  | false =>
    refine i_DF (by show ¬ (("list" : Str) = "map"); decide) ?_
    walk_at "d"
    unfold t_Frame_whole_1
    refine s_ret (d_callP (pl_fld (pl_var rfl) k 1 rfl rfl) ?_)
    refine ⟨rows.map (·.2), rfl, fun x' ex => ?_⟩
    cases ex
    exact out1 rfl (hq _ (.inl ⟨rfl, rfl⟩))
theorem len_Builder_init (h : sp_Builder_init K vs H Q E) : vs.length = 1 := len1 h fun ds Qd ⟨e, _⟩ => ⟨_, e⟩
theorem r_Builder_init (k : Kls K "Builder" F_Builder) (h : sp_Builder_init K vs H Q E) : t_Builder_init_0 K { nx := fun _ H' => Q .non H', rt := Q } (L2.start N_Builder_init vs) H := by
  refine body_of (by decide) (fun ds Qd hP => ?_) (fun ds Qd hP => ?_) h
  · obtain ⟨rfl, _⟩ := hP
    simp
  obtain ⟨rfl, hq⟩ := hP
  unfold t_Builder_init_0
  walk_at "d"
  refine fld_new (pl_var rfl) k rfl (by decide) ?_
  unfold t_Builder_init_1
  walk_at "d"
  refine fld_new (pl_var rfl) k rfl (by decide) ?_
  unfold t_Builder_init_2
  walk_at "d"
  refine fld_new (pl_var rfl) k rfl (by decide) ?_
  exact out1 rfl hq
theorem len_Builder_put (h : sp_Builder_put K vs H Q E) : vs.length = 2 := len_of h fun ds Qd ⟨_, _, e, _⟩ => by rw [e]; rfl
theorem r_Builder_put (k : Kls K "Builder" F_Builder) (kF : Kls K "Frame" F_Frame) (h : sp_Builder_put K vs H Q E) : t_Builder_put_0 K { nx := fun _ H' => Q .non H', rt := Q } (L2.start N_Builder_put vs) H := by
  refine body_of (by decide) (fun ds Qd hP => ?_) (fun ds Qd hP => ?_) h
  · obtain ⟨f, v, rfl, _⟩ := hP
    simp
  obtain ⟨⟨fs, done⟩, v, rfl, hd, hl, hq⟩ := hP
  obtain rfl : done = none := hd
  unfold t_Builder_put_0
  unfold BS.dt at *
  walk_at "d"
  cases fs with
  | nil =>
    refine i_DT rfl ?_
    unfold t_Builder_put_0a_0
    walk_at "d"
    refine fld_set 2 (pl_var rfl) k rfl (by decide) (by simp) ?_
    unfold t_Builder_put_0a_1
    walk_at "d"
    refine fld_set 1 (pl_var rfl) k rfl (by decide) (by simp) ?_
    exact out1 rfl hq
  | cons f fs =>
    have e0 : (f :: fs).reverse.map Fr.dt = fs.reverse.map Fr.dt ++ [f.dt] := by simp
    refine i_DF (by simp; omega) ?_
    unfold t_Builder_put_0b_0
    refine s_drop ?_
    have pl : Pl K (tFld K (tVar 0) "frames") (rho0 N_Builder_put [D.ins "Builder" F_Builder [.lst (fs.reverse.map Fr.dt ++ [f.dt]), .bl false, .non], v.dt]) (.lst (fs.reverse.map Fr.dt ++ [f.dt])) _ := pl_fld (pl_var rfl) k 0 rfl rfl
    have pl2 := pl_last pl
    have hl' := hl f fs rfl
    show DE K _ (rho0 N_Builder_put [D.ins "Builder" F_Builder [.lst ((f :: fs).reverse.map Fr.dt), .bl false, .non], v.dt]) _
    rw [e0]
    refine d_methP (ns := F_Frame) (xs := [.str (kindD f.m), .lst f.rowsD, .key f.key]) (by decide) pl2 ?_
    walk_at "d"
    refine ⟨f, v, rfl, hl', fun x' ex => ?_⟩
    cases ex
    refine out1 rfl ?_
    have e1 : (f.put v :: fs).reverse.map Fr.dt = fs.reverse.map Fr.dt ++ [(f.put v).dt] := by simp
    have hq' : Qd D.non [D.ins "Builder" F_Builder [.lst ((f.put v :: fs).reverse.map Fr.dt), .bl false, .non]] := hq
    rw [e1] at hq'
    exact hq'
theorem len_Builder_take (h : sp_Builder_take K vs H Q E) : vs.length = 2 := len_of h fun ds Qd ⟨_, _, e, _⟩ => by rw [e]; rfl
theorem r_Builder_take (k : Kls K "Builder" F_Builder) (kF : Kls K "Frame" F_Frame) (h : sp_Builder_take K vs H Q E) : t_Builder_take_0 K { nx := fun _ H' => Q .non H', rt := Q } (L2.start N_Builder_take vs) H := by
  refine body_of (by decide) (fun ds Qd hP => ?_) (fun ds Qd hP => ?_) h
  · obtain ⟨f, v, rfl, _⟩ := hP
    simp
  obtain ⟨⟨fs, done⟩, e, rfl, ⟨hd, hok, hfl⟩, hq⟩ := hP
  obtain rfl : done = none := hd
  have hfl : fs.length ≤ 1000 := hfl
  let bd : D := D.ins "Builder" F_Builder [.lst (fs.reverse.map Fr.dt), .bl false, .non]
  have opens : ∀ (m : Bool) (e : Ev), e.dt = .tup [.str "open", .str (kindD m)] → Qd D.non [(⟨⟨m, [], []⟩ :: fs, none⟩ : BS).dt] → DS K [0] (t_Builder_take_0a_0 K) (rho0 N_Builder_take [bd, e.dt]) (endsD [0] Qd) := fun m e he hq => by
    rw [he]
    unfold t_Builder_take_0a_0
    refine s_appP (pl_fld (pl_var rfl) k 0 rfl rfl) ?_
    refine n_make (ns := F_Frame) (na_cons (n_b (b_ix (b_var rfl (b_int (ixT (k := 1) rfl ⟨rfl, na_nil ?_⟩)))))) 
    refine ⟨m, rfl, rfl, fun x' ex => ?_⟩
    cases ex
    refine ⟨small_lt (by simp; omega), out1 rfl ?_⟩
    have e1 : (⟨m, [], []⟩ :: fs : List Fr).reverse.map Fr.dt = fs.reverse.map Fr.dt ++ [(⟨m, [], []⟩ : Fr).dt] := by simp
    have hq' : Qd D.non [D.ins "Builder" F_Builder [.lst ((⟨m, [], []⟩ :: fs : List Fr).reverse.map Fr.dt), .bl false, .non]] := hq
    rw [e1] at hq'
    exact hq'
  show DS K [0] (t_Builder_take_0 K) (rho0 N_Builder_take [bd, e.dt]) (endsD [0] Qd)
  unfold t_Builder_take_0
  have word : ∀ (x : Str) (r : List D) (e : Ev), e.dt = .tup (.str x :: r) → ∀ (y : Str) (t u : TS) (De : DEnds), (if decide (x = y) = true then DS K [0] t (rho0 N_Builder_take [bd, e.dt]) De else DS K [0] u (rho0 N_Builder_take [bd, e.dt]) De) → DS K [0] (tIfS (tTest (tOp (rEqU K) (tOp (rIxU K) (tVar 1) (tC (.int 0))) (tC (.str y)))) t u) (rho0 N_Builder_take [bd, e.dt]) De := fun x r e he y t u De h => by
    rw [he] at h ⊢
    refine s_if (d_test (d_opB (b_ix (b_var rfl (b_int (ixT (k := 0) (d := .str x) (atI_zero _ _) (b_str ?_)))))))
    exact (o_eqS (bl_ok h)).g
  cases e with
  | openL =>
    refine word "open" _ _ rfl _ _ _ _ (i_DT rfl ?_)
    exact opens false _ rfl (hq _ rfl)
  | openM =>
    refine word "open" _ _ rfl _ _ _ _ (i_DT rfl ?_)
    exact opens true _ rfl (hq _ rfl)
  | key kk =>
    refine word "key" _ _ rfl _ _ _ _ (i_DF (by decide) ?_)
    unfold t_Builder_take_0b_0
    refine word "key" _ _ rfl _ _ _ _ (i_DT rfl ?_)
    unfold t_Builder_take_0b_0a_0
    have hne : fs ≠ [] := hok
    obtain ⟨f, fs, rfl⟩ : ∃ f gs, fs = f :: gs := by
      match fs, hne with
      | f :: gs, _ => exact ⟨f, gs, rfl⟩
    have e0 : (f :: fs).reverse.map Fr.dt = fs.reverse.map Fr.dt ++ [f.dt] := by simp
    have pl : Pl K (tFld K (tVar 0) "frames") (rho0 N_Builder_take [D.ins "Builder" F_Builder [.lst (fs.reverse.map Fr.dt ++ [f.dt]), .bl false, .non], (Ev.key kk).dt]) (.lst (fs.reverse.map Fr.dt ++ [f.dt])) _ := pl_fld (pl_var rfl) k 0 rfl rfl
    have pl2 := pl_last pl
    show DS K [0] _ (rho0 N_Builder_take [D.ins "Builder" F_Builder [.lst ((f :: fs).reverse.map Fr.dt), .bl false, .non], (Ev.key kk).dt]) _
    rw [e0]
    refine s_fld (DB.toE (b_ix (b_var rfl (b_int (ixT (k := 1) (d := .key kk) rfl ⟨rfl, ?_⟩)))))
    refine fld_set (c := "Frame") (ns := F_Frame) (xs := [.str (kindD f.m), .lst f.rowsD, .key f.key]) 2 pl2 kF rfl (by decide) (by simp) ?_
    refine out1 rfl ?_
    have hq2 := hq ⟨{ f with key := kk } :: fs, none⟩ ⟨f, fs, rfl, rfl⟩
    have e1 : (({ f with key := kk } : Fr) :: fs).reverse.map Fr.dt = fs.reverse.map Fr.dt ++ [({ f with key := kk } : Fr).dt] := by simp
    have hq' : Qd D.non [D.ins "Builder" F_Builder [.lst ((({ f with key := kk } : Fr) :: fs).reverse.map Fr.dt), .bl false, .non]] := hq2
    rw [e1] at hq'
    exact hq'
  | leaf v =>
    refine word "leaf" _ _ rfl _ _ _ _ (i_DF (by decide) ?_)
    unfold t_Builder_take_0b_0
    refine word "leaf" _ _ rfl _ _ _ _ (i_DF (by decide) ?_)
    unfold t_Builder_take_0b_0b_0
    refine word "leaf" _ _ rfl _ _ _ _ (i_DT rfl ?_)
    unfold t_Builder_take_0b_0b_0a_0
    refine s_drop (d_meth (ns := F_Builder) (x0 := [.lst (fs.reverse.map Fr.dt), .bl false, .non]) (by decide) rfl ?_)
    refine d_callL (by decide) (l_lent (x0 := bd) rfl (l_cons (DB.toE (b_ix (b_var rfl (b_int (ixT (k := 1) (d := v.dt) rfl ⟨v.imm, l_nil (take_inr (d := bd) rfl (take_inl (take_nil ?_)))⟩)))))))
    refine ⟨⟨fs, none⟩, v, rfl, rfl, fun f gs e => hok f gs e, ?_⟩
    exact out1 rfl (hq _ rfl)
  | close =>
    refine word "close" _ _ rfl _ _ _ _ (i_DF (by decide) ?_)
    unfold t_Builder_take_0b_0
    refine word "close" _ _ rfl _ _ _ _ (i_DF (by decide) ?_)
    unfold t_Builder_take_0b_0b_0
    refine word "close" _ _ rfl _ _ _ _ (i_DF (by decide) ?_)
    unfold t_Builder_take_0b_0b_0b_0
    obtain ⟨f, gs, e0, hfr, hnd, hgs⟩ := hok
    have e0 : fs = f :: gs := e0
    subst e0
    have e0 : (f :: gs).reverse.map Fr.dt = gs.reverse.map Fr.dt ++ [f.dt] := by simp
    have pl : Pl K (tFld K (tVar 0) "frames") (rho0 N_Builder_take [D.ins "Builder" F_Builder [.lst (gs.reverse.map Fr.dt ++ [f.dt]), .bl false, .non], Ev.close.dt]) (.lst (gs.reverse.map Fr.dt ++ [f.dt])) _ := pl_fld (pl_var rfl) k 0 rfl rfl
    show DS K [0] _ (rho0 N_Builder_take [D.ins "Builder" F_Builder [.lst ((f :: gs).reverse.map Fr.dt), .bl false, .non], Ev.close.dt]) _
    rw [e0]
    refine s_seq (s_asg (by decide) (e_popP pl ?_))
    unfold t_Builder_take_0b_0b_0b_1
    refine s_drop (d_meth (ns := F_Builder) (x0 := [.lst (gs.reverse.map Fr.dt), .bl false, .non]) (by decide) rfl ?_)
    refine d_callL (by decide) (l_lent (x0 := D.ins "Builder" F_Builder [.lst (gs.reverse.map Fr.dt), .bl false, .non]) rfl (l_cons ?_))
    refine d_meth (ns := F_Frame) (x0 := [.str (kindD f.m), .lst f.rowsD, .key f.key]) (by decide) rfl ?_
    refine d_callL (by decide) (l_lent (x0 := f.dt) rfl (l_nil (take_inr (d := f.dt) rfl (take_nil ?_))))
    refine ⟨f, rfl, hfr, hnd, fun v hv => ?_⟩
    refine l_nil (take_inr (d := D.ins "Builder" F_Builder [.lst (gs.reverse.map Fr.dt), .bl false, .non]) rfl (take_inl (take_nil ?_)))
    refine ⟨⟨gs, none⟩, v, rfl, rfl, fun g hs e => hgs g hs e, ?_⟩
    exact out1 rfl (hq _ ⟨f, gs, v, rfl, hv, rfl⟩)
end
section
variable {K : PySem.W.Frag} {vs : List V} {H : Hp} {Q : VK} {E : XK}
theorem atM {es : List (List Int × Val)} {i : Nat} (h : i < es.length) : atD (dtM es) i = entD es[i] := by
  unfold atD
  rw [dtM_map, List.getD_eq_getElem?_getD, List.getElem?_map, List.getElem?_eq_getElem h]
  rfl
theorem lenM (es : List (List Int × Val)) : (dtM es).length = es.length := by rw [dtM_map, List.length_map]
theorem lenL (xs : List Val) : (dtL xs).length = xs.length := by rw [dtL_map, List.length_map]
theorem atL {xs : List Val} {i : Nat} (h : i < xs.length) : atD (dtL xs) i = xs[i].dt := by
  unfold atD
  rw [dtL_map, List.getD_eq_getElem?_getD, List.getElem?_map, List.getElem?_eq_getElem h]
  rfl
theorem take_snoc {α : Type} {xs : List α} {i : Nat} (h : i < xs.length) : xs.take (i + 1) = xs.take i ++ [xs[i]] := by
  rw [List.take_add_one, List.getElem?_eq_getElem h]
  rfl
theorem len_map_of (h : sp_map_of K vs H Q E) : vs.length = 1 := len1 h fun ds Qd ⟨_, e, _⟩ => ⟨_, e⟩
theorem r_map_of (h : sp_map_of K vs H Q E) : t_map_of_0 K { nx := fun _ H' => Q .non H', rt := Q } (L2.start N_map_of vs) H := by
  refine body_of (by decide) (fun ds Qd hP => ?_) (fun ds Qd hP => ?_) h
  · obtain ⟨xs, rfl, _⟩ := hP
    simp
  obtain ⟨es, rfl, hnd, hl, hq⟩ := hP
  unfold t_map_of_0
  refine s_seq (s_asg (by decide) (d_n (n_dic ?_)))
  unfold t_map_of_1
  walk_at "d"
  refine ⟨fun i ρ => i ≤ es.length ∧ ∃ x2 x3, ρ = [some (.lst (dtM es)), some (.dic ((es.take i).map (·.1)) ((es.take i).map fun e => e.2.dt)), x2, x3], ⟨Nat.zero_le _, none, none, rfl⟩, fun i ρ ⟨_, _, _, e⟩ => by rw [e]; rfl, ?_, ?_⟩
  · rintro i ρ hi ⟨_, x2, x3, rfl⟩
    rw [lenM] at hi
    rw [atM hi]
    have hk : es[i].1 ∉ (es.take i).map (·.1) := fun hm => by
      obtain ⟨e, he, e2⟩ := List.mem_map.mp hm
      obtain ⟨j, hj, e3⟩ := List.getElem_of_mem he
      have hj2 : j < i := by simp at hj; omega
      have e4 : es[j] = e := by rw [← e3, List.getElem_take]
      have : j = i := (List.getElem_inj (h₀ := by simp; omega) (h₁ := by simp; omega) hnd).mp (by simp [e4, e2])
      omega
    unfold entD
    refine g_tup rfl (by simp [immA, D.imm, Val.imm]) (g_cons (g_name (by decide) (g_cons (g_name (by decide) (g_nil ?_)))))
    unfold t_map_of_1a_0
    walk_at "d"
    refine cb_key (.inr rfl) ⟨es[i].1, rfl, ?_⟩
    refine b_var rfl ⟨_, _, rfl, ?_⟩
    walk_at "d"
    refine i_DF hk ?_
    walk_at "d"
    unfold t_map_of_1a_1
    refine s_dput (d_var (d := es[i].2.dt) rfl (Val.imm _) ⟨_, _, _, Val.imm _, pl_var rfl, n_cb (b_var rfl (cb_key (.inr rfl) ⟨es[i].1, rfl, hk, ?_, ?_⟩))⟩)
    · exact small_lt (by simp; omega)
    · refine ⟨hi, some (.key es[i].1), some es[i].2.dt, ?_⟩
      rw [take_snoc hi, List.map_append, List.map_append]
      rfl
  · rintro ρ ⟨_, x2, x3, rfl⟩
    rw [lenM, List.take_length]
    unfold t_map_of_2
    walk_at "d"
    refine cb_listDT (cb_sortedR fun ks' hp hs => ?_)
    obtain ⟨es', p1, p2⟩ := perm_lift hp rfl
    subst p2
    have hasc : Asc es' := by
      have nd' : (es'.map (·.1)).Nodup := ((p1.map (·.1)).nodup_iff).mpr hnd
      have h1 := List.pairwise_map.mp hs
      have h2 := List.pairwise_map.mp nd'
      refine (h1.and h2).imp fun {x y} q => ?_
      obtain ⟨q1, q2⟩ := q
      cases z : HT.lexLt x.1 y.1 with
      | true => rfl
      | false => exact absurd (lex_tot _ _ z q1) q2
    have hl' : es'.length ≤ 1000000 := by rw [p1.length_eq]; exact hl
    refine it_lst (imm_keys _) ?_
    refine Lc.of (fun i acc ρ => i ≤ es'.length ∧ acc = (es'.take i).map entD ∧ ρ = [some (.lst (dtM es)), some (.dic (es.map (·.1)) (es.map fun e => e.2.dt)), none, x3]) ⟨Nat.zero_le _, rfl, rfl⟩ ?_ ?_
    · rintro i acc ρ hi ⟨_, rfl, rfl⟩
      have hi : i < es'.length := by simpa using hi
      have ea : atD ((es'.map (·.1)).map D.key) i = .key es'[i].1 := by
        unfold atD
        rw [List.getD_eq_getElem?_getD, List.getElem?_map, List.getElem?_map, List.getElem?_eq_getElem hi]
        rfl
      rw [ea]
      walk_at "d"
      have hm : es'[i] ∈ es := p1.mem_iff.mp (List.getElem_mem hi)
      obtain ⟨j, hj, ej⟩ := List.getElem_of_mem hm
      refine d_dget (b_var rfl ⟨_, _, rfl, b_var rfl ⟨es'[i].1, j, es'[i].2.dt, rfl, hnd, ?_, ?_, Val.imm _, ?_⟩⟩)
      · rw [List.getElem?_map, List.getElem?_eq_getElem hj, ej]; rfl
      · rw [List.getElem?_map, List.getElem?_eq_getElem hj, ej]; rfl
      · walk_at "d"
        refine ⟨small_lt (by simp; omega), hi, ?_, rfl⟩
        rw [take_snoc hi, List.map_append]
        rfl
    · rintro acc ρ ⟨_, rfl, rfl⟩
      have el : ((es'.map (·.1)).map D.key).length = es'.length := by simp
      rw [el, List.take_length]
      refine cb_tuple (.lst _) (by rw [← dtM_map]; exact immM es') ?_
      walk_at "d"
      rw [← dtM_map]
      exact out1 rfl (hq es' p1 hasc)
/-! ### the events -/
theorem evs_len (x : Val) : 1 ≤ (evs x).length := by cases x <;> simp [evs]
theorem evL_append : ∀ (xs ys : List Val), evL (xs ++ ys) = evL xs ++ evL ys
  | [], ys => rfl
  | x :: xs, ys => by simp [evL, evL_append xs ys]
theorem evM_append : ∀ (xs ys : List (List Int × Val)), evM (xs ++ ys) = evM xs ++ evM ys
  | [], ys => rfl
  | (k, x) :: xs, ys => by simp [evM, evM_append xs ys]
theorem evL_snoc (x : Val) : ∀ xs : List Val, evL (xs ++ [x]) = evL xs ++ evs x
  | [] => by simp [evL]
  | y :: xs => by simp [evL, evL_snoc x xs]
theorem evM_snoc (k : List Int) (x : Val) : ∀ xs : List (List Int × Val), evM (xs ++ [(k, x)]) = evM xs ++ .key k :: evs x
  | [] => by simp [evM]
  | (k', y) :: xs => by simp [evM, evM_snoc k x xs]
theorem evL_app : ∀ xs ys : List Val, evL (xs ++ ys) = evL xs ++ evL ys
  | [], ys => rfl
  | x :: xs, ys => by simp [evL, evL_app xs ys]
theorem evM_app : ∀ xs ys : List (List Int × Val), evM (xs ++ ys) = evM xs ++ evM ys
  | [], ys => rfl
  | (k, x) :: xs, ys => by simp [evM, evM_app xs ys]
theorem evL_take {xs : List Val} {i : Nat} (h : i < xs.length) : (evL (xs.take i)).length + (evs xs[i]).length ≤ (evL xs).length := by
  have e := evL_app (xs.take (i + 1)) (xs.drop (i + 1))
  rw [List.take_append_drop] at e
  rw [e, take_snoc h, evL_snoc]
  simp
theorem evM_take {xs : List (List Int × Val)} {i : Nat} (h : i < xs.length) : (evM (xs.take i)).length + 1 + (evs xs[i].2).length ≤ (evM xs).length := by
  have e := evM_app (xs.take (i + 1)) (xs.drop (i + 1))
  rw [List.take_append_drop] at e
  rw [e, take_snoc h]
  have : xs[i] = (xs[i].1, xs[i].2) := rfl
  rw [this, evM_snoc]
  simp
  omega
theorem evM_step {es : List (List Int × Val)} {i : Nat} (hi : i < es.length) : (Ev.openM :: evM (es.take (i + 1))).map Ev.dt = (Ev.openM :: evM (es.take i)).map Ev.dt ++ [.tup [.str "key", .key es[i].1]] ++ (evs es[i].2).map Ev.dt := by
  rw [take_snoc hi]
  have : es[i] = (es[i].1, es[i].2) := rfl
  rw [this, evM_snoc]
  simp [Ev.dt]
theorem evL_step {xs : List Val} {i : Nat} (hi : i < xs.length) : (Ev.openL :: evL (xs.take (i + 1))).map Ev.dt = (Ev.openL :: evL (xs.take i)).map Ev.dt ++ (evs xs[i]).map Ev.dt := by
  rw [take_snoc hi, evL_snoc]
  simp
end
/-! ### the builder along the events -/
/-- what the events still to come do -/
def Fut (R : BS → Prop) : BS → List Ev → Prop
  | b, [] => R b
  | b, e :: es => b.Okp e ∧ ∀ b', b.Stp e b' → Fut R b' es
def BS.room (b : BS) (n : Nat) : Prop := ∀ f fs, b.fs = f :: fs → f.rows.length + n ≤ 1000
mutual
theorem fut_v {R : BS → Prop} : ∀ (v : Val) (b : BS) (es : List Ev), b.done = none → v.ok → b.room 1 → b.fs.length + v.dep ≤ 1000 → Fut R (b.put v) es → Fut R b (evs v ++ es)
  | .null, b, es, hd, _, hr, hl, h => ⟨⟨hd, fun f fs e => by have := hr f fs e; omega, by omega⟩, fun b' e => by rw [e]; exact h⟩
  | .truth _, b, es, hd, _, hr, hl, h => ⟨⟨hd, fun f fs e => by have := hr f fs e; omega, by omega⟩, fun b' e => by rw [e]; exact h⟩
  | .num _ _, b, es, hd, _, hr, hl, h => ⟨⟨hd, fun f fs e => by have := hr f fs e; omega, by omega⟩, fun b' e => by rw [e]; exact h⟩
  | .bytes _, b, es, hd, _, hr, hl, h => ⟨⟨hd, fun f fs e => by have := hr f fs e; omega, by omega⟩, fun b' e => by rw [e]; exact h⟩
  | .text _, b, es, hd, _, hr, hl, h => ⟨⟨hd, fun f fs e => by have := hr f fs e; omega, by omega⟩, fun b' e => by rw [e]; exact h⟩
  | .list xs, b, es, hd, hok, hr, hl, h => by
    have hl : b.fs.length + (1 + depL xs) ≤ 1000 := hl
    obtain ⟨h1, h2⟩ := (hok : xs.length ≤ 1000 ∧ okL xs)
    show Fut R b (.openL :: ((evL xs ++ [.close]) ++ es))
    refine ⟨⟨hd, trivial, by omega⟩, fun b' e => ?_⟩
    obtain rfl : b' = ⟨⟨false, [], []⟩ :: b.fs, none⟩ := e
    rw [List.append_assoc]
    refine fut_L xs ⟨false, [], []⟩ b.fs _ h2 (by simpa using h1) (by omega) ?_
    refine ⟨⟨rfl, ⟨_, _, rfl, by simpa using h1, fun z => (by cases z), fun g gs e => by have := hr g gs e; omega⟩, by simp; omega⟩, fun b' e => ?_⟩
    obtain ⟨f, fs, v, e1, e2, e3⟩ := (e : ∃ f fs v, _ ∧ _ ∧ _)
    obtain ⟨rfl, rfl⟩ := List.cons.inj e1
    subst e3
    rcases e2 with ⟨_, e2⟩ | ⟨e2, _⟩
    · have : v = .list xs := by rw [e2]; simp [List.map_map, Function.comp_def]
      subst this
      obtain ⟨fs0, dn⟩ := b
      obtain rfl : dn = none := hd
      exact h
    · cases e2
  | .map ms, b, es, hd, hok, hr, hl, h => by
    have hl : b.fs.length + (1 + depM ms) ≤ 1000 := hl
    obtain ⟨h1, h3, h2⟩ := (hok : ms.length ≤ 1000 ∧ Asc ms ∧ okM ms)
    show Fut R b (.openM :: ((evM ms ++ [.close]) ++ es))
    refine ⟨⟨hd, trivial, by omega⟩, fun b' e => ?_⟩
    obtain rfl : b' = ⟨⟨true, [], []⟩ :: b.fs, none⟩ := e
    rw [List.append_assoc]
    refine fut_M ms ⟨true, [], []⟩ b.fs _ h2 (by simpa using h1) (by omega) fun key => ?_
    refine ⟨⟨rfl, ⟨_, _, rfl, by simpa using h1, fun z => by simpa using h3.nodup, fun g gs e => by have := hr g gs e; omega⟩, by simp; omega⟩, fun b' e => ?_⟩
    obtain ⟨f, fs, v, e1, e2, e3⟩ := (e : ∃ f fs v, _ ∧ _ ∧ _)
    obtain ⟨rfl, rfl⟩ := List.cons.inj e1
    subst e3
    rcases e2 with ⟨e2, _⟩ | ⟨_, es', p, a, e2⟩
    · cases e2
    · have z : es' = ms := Asc.uniq a h3 (by simpa using p)
      subst z
      subst e2
      obtain ⟨fs0, dn⟩ := b
      obtain rfl : dn = none := hd
      exact h
theorem fut_L {R : BS → Prop} : ∀ (xs : List Val) (f : Fr) (fs : List Fr) (es : List Ev), okL xs → f.rows.length + xs.length ≤ 1000 → fs.length + 1 + depL xs ≤ 1000 → Fut R ⟨{ f with rows := f.rows ++ xs.map fun x => (f.key, x) } :: fs, none⟩ es → Fut R ⟨f :: fs, none⟩ (evL xs ++ es)
  | [], f, fs, es, _, _, _, h => by simpa [evL] using h
  | x :: xs, f, fs, es, hok, hr, hl, h => by
    have hl : fs.length + 1 + max x.dep (depL xs) ≤ 1000 := hl
    have hr : f.rows.length + (xs.length + 1) ≤ 1000 := hr
    show Fut R _ ((evs x ++ evL xs) ++ es)
    rw [List.append_assoc]
    refine fut_v x ⟨f :: fs, none⟩ _ rfl hok.1 (fun g gs e => ?_) (by simp; omega) ?_
    · obtain ⟨rfl, _⟩ := List.cons.inj e
      omega
    · refine fut_L xs (f.put x) fs es hok.2 (by simp [Fr.put]; omega) (by omega) ?_
      simpa [Fr.put] using h
theorem fut_M {R : BS → Prop} : ∀ (ms : List (List Int × Val)) (f : Fr) (fs : List Fr) (es : List Ev), okM ms → f.rows.length + ms.length ≤ 1000 → fs.length + 1 + depM ms ≤ 1000 → (∀ key, Fut R ⟨{ f with rows := f.rows ++ ms, key := key } :: fs, none⟩ es) → Fut R ⟨f :: fs, none⟩ (evM ms ++ es)
  | [], f, fs, es, _, _, _, h => by have := h f.key; simpa [evM] using this
  | (k, x) :: ms, f, fs, es, hok, hr, hl, h => by
    have hl : fs.length + 1 + max x.dep (depM ms) ≤ 1000 := hl
    have hr : f.rows.length + (ms.length + 1) ≤ 1000 := hr
    show Fut R _ (.key k :: ((evs x ++ evM ms) ++ es))
    rw [List.append_assoc]
    refine ⟨⟨rfl, (by simp : f :: fs ≠ []), by simp; omega⟩, fun b' e => ?_⟩
    obtain ⟨f', fs', e1, rfl⟩ := (e : ∃ f fs, _ ∧ _)
    obtain ⟨rfl, rfl⟩ := List.cons.inj e1
    refine fut_v x ⟨{ f with key := k } :: fs, none⟩ _ rfl hok.1 (fun g gs e => ?_) (by simp; omega) ?_
    · obtain ⟨rfl, _⟩ := List.cons.inj e
      show f.rows.length + 1 ≤ 1000
      omega
    · refine fut_M ms (({ f with key := k } : Fr).put x) fs es hok.2 (by simp [Fr.put]; omega) (by omega) fun key => ?_
      simpa [Fr.put] using h key
end
theorem fut_all (v : Val) (hok : v.ok) (hd : v.dep ≤ 500) : Fut (fun b => b.done = some v) ⟨[], none⟩ (evs v) := by
  have := fut_v (R := fun b => b.done = some v) v ⟨[], none⟩ [] rfl hok (fun f fs e => by cases e) (by simp; omega) rfl
  rwa [List.append_nil] at this
/-! how many events -/
mutual
theorem evsN {ks : List Str} {hm : Bool} : ∀ (n : Nat) (v : Val), v.good ks hm n → (evs v).length ≤ 1 + 200 * v.conts
  | n, .null, h => by simp [evs]
  | n, .truth _, h => by simp [evs]
  | n, .num _ _, h => by simp [evs]
  | n, .bytes _, h => by simp [evs]
  | n, .text _, h => by simp [evs]
  | 0, .list xs, h => h.1.elim
  | 0, .map es, h => h.1.elim
  | n + 1, .list xs, h => by
    have h1 : xs.length ≤ 49 := h.1
    have := evLN n xs h.2
    simp only [evs, List.length_cons, List.length_append, List.length_nil, Val.conts]
    omega
  | n + 1, .map es, h => by
    have h1 : es.length ≤ 49 := h.2.1
    have := evMN n es fun e he => (h.2.2.1 e he).2.2
    simp only [evs, List.length_cons, List.length_append, List.length_nil, Val.conts]
    omega
theorem evLN {ks : List Str} {hm : Bool} : ∀ (n : Nat) (xs : List Val), (∀ x ∈ xs, x.good ks hm n) → (evL xs).length ≤ xs.length + 200 * contsL xs
  | n, [], h => by simp [evL]
  | n, x :: xs, h => by
    have h1 := evsN n x (h x (List.mem_cons_self ..))
    have h2 := evLN n xs fun y hy => h y (List.mem_cons_of_mem _ hy)
    simp only [evL, List.length_append, contsL, List.length_cons]
    omega
theorem evMN {ks : List Str} {hm : Bool} : ∀ (n : Nat) (es : List (List Int × Val)), (∀ e ∈ es, e.2.good ks hm n) → (evM es).length ≤ 2 * es.length + 200 * contsM es
  | n, [], h => by simp [evM]
  | n, (k, x) :: es, h => by
    have h1 := evsN n x (h (k, x) (List.mem_cons_self ..))
    have h2 := evMN n es fun y hy => h y (List.mem_cons_of_mem _ hy)
    simp only [evM, List.length_append, contsM, List.length_cons]
    omega
end

/-! depth of the events -/
def Ev.lo : Ev → Prop
  | .leaf v => v.dep = 0
  | _ => True
mutual
theorem evs_lo : ∀ v : Val, ∀ e ∈ evs v, e.lo
  | .null, e, h => by obtain rfl := List.mem_singleton.mp h; rfl
  | .truth _, e, h => by obtain rfl := List.mem_singleton.mp h; rfl
  | .num _ _, e, h => by obtain rfl := List.mem_singleton.mp h; rfl
  | .bytes _, e, h => by obtain rfl := List.mem_singleton.mp h; rfl
  | .text _, e, h => by obtain rfl := List.mem_singleton.mp h; rfl
  | .list xs, e, h => by
    rcases List.mem_cons.mp h with rfl | h
    · trivial
    rcases List.mem_append.mp h with h | h
    · exact evL_lo xs e h
    · obtain rfl := List.mem_singleton.mp h; trivial
  | .map es, e, h => by
    rcases List.mem_cons.mp h with rfl | h
    · trivial
    rcases List.mem_append.mp h with h | h
    · exact evM_lo es e h
    · obtain rfl := List.mem_singleton.mp h; trivial
theorem evL_lo : ∀ xs : List Val, ∀ e ∈ evL xs, e.lo
  | [], e, h => by cases h
  | x :: xs, e, h => by
    rcases List.mem_append.mp h with h | h
    · exact evs_lo x e h
    · exact evL_lo xs e h
theorem evM_lo : ∀ xs : List (List Int × Val), ∀ e ∈ evM xs, e.lo
  | [], e, h => by cases h
  | (k, x) :: xs, e, h => by
    rcases List.mem_cons.mp h with rfl | h
    · trivial
    rcases List.mem_append.mp h with h | h
    · exact evs_lo x e h
    · exact evM_lo xs e h
end
theorem ints_dep (ns : List Int) : PyData.depthAll (ns.map PyData.int) = 0 := by
  induction ns with
  | nil => simp [PyData.depthAll]
  | cons n ns ih => simp [PyData.depthAll, PyData.depth, ih]
theorem Ev.depth : ∀ e : Ev, e.lo → e.dt.py.depth ≤ 10
  | .openL, _ | .openM, _ | .close, _ => by simp [Ev.dt, D.py, pyA, PyData.depth, PyData.depthAll]
  | .key k, _ => by simp [Ev.dt, D.py, pyA, PyData.depth, PyData.depthAll, ints_dep]
  | .leaf v, h => by
    have h1 := py_dep v
    have h2 : v.dep = 0 := h
    simp only [Ev.dt, D.py, pyA, PyData.depth, PyData.depthAll]
    omega
theorem Ev.plain : ∀ e : Ev, e.dt.plain = true
  | .openL | .openM | .close => by simp [Ev.dt, D.plain, plainA] <;> decide +kernel
  | .key k => by simp [Ev.dt, D.plain, plainA]; decide +kernel
  | .leaf v => by simp [Ev.dt, D.plain, plainA, dt_plain]; decide +kernel
theorem evs_depth (v : Val) : (D.lst ((evs v).map Ev.dt)).py.depth ≤ 190 := by
  have : ∀ es : List Ev, (∀ e ∈ es, e.lo) → PyData.depthAll (pyA (es.map Ev.dt)) ≤ 10 := fun es => by
    induction es with
    | nil => simp [pyA, PyData.depthAll]
    | cons e es ih =>
      intro h
      have h1 := e.depth (h e (List.mem_cons_self ..))
      have h2 := ih fun x hx => h x (List.mem_cons_of_mem _ hx)
      simp only [List.map_cons, pyA, PyData.depthAll]
      omega
  have := this (evs v) (evs_lo v)
  simp only [D.py, PyData.depth]
  omega
theorem evs_plain (v : Val) : (D.lst ((evs v).map Ev.dt)).plain = true := by
  have : ∀ es : List Ev, plainA (es.map Ev.dt) = true := fun es => by
    induction es with
    | nil => rfl
    | cons e es ih => simp [plainA, Ev.plain, ih]
  simp [D.plain, this]
/-! ### the events, a map's entries in any order -/
def Mix : Nat → Val → List Ev → Prop
  | n + 1, .list xs, es => ∃ T : List (Val × List Ev), T.map (·.1) = xs ∧ (∀ t ∈ T, Mix n t.1 t.2) ∧ es = .openL :: (T.flatMap (·.2) ++ [.close])
  | n + 1, .map ms, es => ∃ T : List ((List Int × Val) × List Ev), List.Perm (T.map (·.1)) ms ∧ (∀ t ∈ T, Mix n t.1.2 t.2) ∧ es = .openM :: (T.flatMap (fun t => .key t.1.1 :: t.2) ++ [.close])
  | 0, .list _, _ => False
  | 0, .map _, _ => False
  | _, v, es => es = [.leaf v]
theorem evL_sum : ∀ xs : List Val, (evL xs).length = (xs.map fun x => (evs x).length).sum
  | [] => rfl
  | x :: xs => by simp [evL, evL_sum xs]
theorem evM_sum : ∀ xs : List (List Int × Val), (evM xs).length = (xs.map fun x => 1 + (evs x.2).length).sum
  | [] => rfl
  | (k, x) :: xs => by simp [evM, evM_sum xs]; omega
theorem evM_perm {xs ys : List (List Int × Val)} (h : List.Perm xs ys) : (evM xs).length = (evM ys).length := by
  rw [evM_sum, evM_sum]
  exact (h.map _).sum_nat
theorem flat_len {α : Type} {f : α → List Ev} {g : α → Nat} : ∀ {T : List α}, (∀ t ∈ T, (f t).length = g t) → (T.flatMap f).length = (T.map g).sum
  | [], _ => rfl
  | t :: T, h => by
    have := flat_len fun s hs => h s (List.mem_cons_of_mem _ hs)
    simp [h t (List.mem_cons_self ..), this]
theorem Mix.len : ∀ (n : Nat) {v : Val} {es : List Ev}, Mix n v es → es.length = (evs v).length
  | 0, .null, es, h | 0, .truth _, es, h | 0, .num _ _, es, h | 0, .bytes _, es, h | 0, .text _, es, h => by obtain rfl := (h : es = _); rfl
  | 0, .list _, _, h | 0, .map _, _, h => h.elim
  | n + 1, .null, es, h | n + 1, .truth _, es, h | n + 1, .num _ _, es, h | n + 1, .bytes _, es, h | n + 1, .text _, es, h => by obtain rfl := (h : es = _); rfl
  | n + 1, .list xs, es, h => by
    obtain ⟨T, rfl, hT, rfl⟩ := h
    have e := flat_len (f := (·.2)) (g := fun t : Val × List Ev => (evs t.1).length) fun t ht => Mix.len n (hT t ht)
    simp [evs, e, evL_sum, List.map_map, Function.comp_def]
  | n + 1, .map ms, es, h => by
    obtain ⟨T, hp, hT, rfl⟩ := h
    have e := flat_len (f := fun t => Ev.key t.1.1 :: t.2) (g := fun t : (List Int × Val) × List Ev => 1 + (evs t.1.2).length) fun t ht => by
      rw [List.length_cons, Mix.len n (hT t ht)]
      omega
    have e2 := evM_perm hp
    rw [evM_sum, List.map_map] at e2
    have e3 : (T.map fun t => 1 + (evs t.1.2).length).sum = (evM ms).length := e2
    simp only [evs, List.length_cons, List.length_append, e, e3, List.length_nil]
theorem okL_mem : ∀ {xs : List Val}, okL xs → ∀ x ∈ xs, x.ok
  | [], _, x, h => by cases h
  | y :: xs, h, x, hx => by
    rcases List.mem_cons.mp hx with rfl | hx
    · exact h.1
    · exact okL_mem h.2 x hx
theorem okM_mem : ∀ {xs : List (List Int × Val)}, okM xs → ∀ x ∈ xs, x.2.ok
  | [], _, x, h => by cases h
  | (k, y) :: xs, h, x, hx => by
    rcases List.mem_cons.mp hx with rfl | hx
    · exact h.1
    · exact okM_mem h.2 x hx
theorem fut_x {R : BS → Prop} : ∀ (n : Nat) (v : Val) (es0 : List Ev) (b : BS) (es : List Ev), Mix n v es0 → b.done = none → v.ok → b.room 1 → b.fs.length + n ≤ 1000 → Fut R (b.put v) es → Fut R b (es0 ++ es) := by
  intro n
  induction n with
  | zero =>
    intro v es0 b es hm hd hok hr hl h
    have : ∀ u : Val, es0 = [.leaf u] → Fut R (b.put u) es → Fut R b (es0 ++ es) := fun u e h => by
      subst e
      exact ⟨⟨hd, fun f fs e => by have := hr f fs e; omega, by omega⟩, fun b' e => by rw [e]; exact h⟩
    cases v with
    | list => exact hm.elim
    | map => exact hm.elim
    | null => exact this _ hm h
    | truth => exact this _ hm h
    | num => exact this _ hm h
    | bytes => exact this _ hm h
    | text => exact this _ hm h
  | succ n ih =>
    intro v es0 b es hm hd hok hr hl h
    have leaf : ∀ u : Val, es0 = [.leaf u] → Fut R (b.put u) es → Fut R b (es0 ++ es) := fun u e h => by
      subst e
      exact ⟨⟨hd, fun f fs e => by have := hr f fs e; omega, by omega⟩, fun b' e => by rw [e]; exact h⟩
    cases v with
    | null => exact leaf _ hm h
    | truth => exact leaf _ hm h
    | num => exact leaf _ hm h
    | bytes => exact leaf _ hm h
    | text => exact leaf _ hm h
    | list xs =>
      obtain ⟨h1, h2⟩ := (hok : xs.length ≤ 1000 ∧ okL xs)
      obtain ⟨T, rfl, hT, rfl⟩ := hm
      refine ⟨⟨hd, trivial, by omega⟩, fun b' e => ?_⟩
      obtain rfl : b' = ⟨⟨false, [], []⟩ :: b.fs, none⟩ := e
      show Fut R _ ((_ ++ [Ev.close]) ++ es)
      rw [List.append_assoc]
      have inner : ∀ (T : List (Val × List Ev)) (f : Fr), (∀ t ∈ T, Mix n t.1 t.2 ∧ t.1.ok) → f.rows.length + T.length ≤ 1000 → ∀ es, Fut R ⟨{ f with rows := f.rows ++ T.map fun t => (f.key, t.1) } :: b.fs, none⟩ es → Fut R ⟨f :: b.fs, none⟩ (T.flatMap (·.2) ++ es) := fun T => by
        induction T with
        | nil => intro f _ _ es h; simpa using h
        | cons t T ihT =>
          intro f hT hlen es h
          rw [List.flatMap_cons, List.append_assoc]
          have hlen : f.rows.length + (T.length + 1) ≤ 1000 := hlen
          obtain ⟨m1, m2⟩ := hT t (List.mem_cons_self ..)
          refine ih t.1 t.2 ⟨f :: b.fs, none⟩ _ m1 rfl m2 (fun g gs e => ?_) (by simp; omega) ?_
          · obtain ⟨rfl, _⟩ := List.cons.inj e
            omega
          · refine ihT (f.put t.1) (fun s hs => hT s (List.mem_cons_of_mem _ hs)) (by simp [Fr.put]; omega) es ?_
            simpa [Fr.put] using h
      refine inner T ⟨false, [], []⟩ (fun t ht => ⟨hT t ht, okL_mem h2 _ (List.mem_map_of_mem ht)⟩) (by simpa using h1) _ ?_
      refine ⟨⟨rfl, ⟨_, _, rfl, by simpa using h1, fun z => (by cases z), fun g gs e => by have := hr g gs e; omega⟩, by simp; omega⟩, fun b' e => ?_⟩
      obtain ⟨f, fs, v, e1, e2, e3⟩ := (e : ∃ f fs v, _ ∧ _ ∧ _)
      obtain ⟨rfl, rfl⟩ := List.cons.inj e1
      subst e3
      rcases e2 with ⟨_, e2⟩ | ⟨e2, _⟩
      · have : v = .list (T.map (·.1)) := by rw [e2]; simp [List.map_map, Function.comp_def]
        subst this
        obtain ⟨fs0, dn⟩ := b
        obtain rfl : dn = none := hd
        exact h
      · cases e2
    | map ms =>
      obtain ⟨h1, h3, h2⟩ := (hok : ms.length ≤ 1000 ∧ Asc ms ∧ okM ms)
      obtain ⟨T, hp, hT, rfl⟩ := hm
      have hTl : T.length = ms.length := by rw [← hp.length_eq, List.length_map]
      refine ⟨⟨hd, trivial, by omega⟩, fun b' e => ?_⟩
      obtain rfl : b' = ⟨⟨true, [], []⟩ :: b.fs, none⟩ := e
      show Fut R _ ((_ ++ [Ev.close]) ++ es)
      rw [List.append_assoc]
      have inner : ∀ (T : List ((List Int × Val) × List Ev)) (f : Fr), (∀ t ∈ T, Mix n t.1.2 t.2 ∧ t.1.2.ok) → f.rows.length + T.length ≤ 1000 → ∀ es, (∀ key, Fut R ⟨{ f with rows := f.rows ++ T.map (·.1), key := key } :: b.fs, none⟩ es) → Fut R ⟨f :: b.fs, none⟩ (T.flatMap (fun t => .key t.1.1 :: t.2) ++ es) := fun T => by
        induction T with
        | nil => intro f _ _ es h; have := h f.key; simpa using this
        | cons t T ihT =>
          intro f hT hlen es h
          rw [List.flatMap_cons, List.append_assoc]
          have hlen : f.rows.length + (T.length + 1) ≤ 1000 := hlen
          obtain ⟨m1, m2⟩ := hT t (List.mem_cons_self ..)
          refine ⟨⟨rfl, (by simp : f :: b.fs ≠ []), by simp; omega⟩, fun b' e => ?_⟩
          obtain ⟨f', fs', e1, rfl⟩ := (e : ∃ f fs, _ ∧ _)
          obtain ⟨rfl, rfl⟩ := List.cons.inj e1
          refine ih t.1.2 t.2 ⟨{ f with key := t.1.1 } :: b.fs, none⟩ _ m1 rfl m2 (fun g gs e => ?_) (by simp; omega) ?_
          · obtain ⟨rfl, _⟩ := List.cons.inj e
            show f.rows.length + 1 ≤ 1000
            omega
          · refine ihT (({ f with key := t.1.1 } : Fr).put t.1.2) (fun s hs => hT s (List.mem_cons_of_mem _ hs)) (by simp [Fr.put]; omega) es fun key => ?_
            simpa [Fr.put] using h key
      refine inner T ⟨true, [], []⟩ (fun t ht => ⟨hT t ht, okM_mem h2 _ (hp.mem_iff.mp (List.mem_map_of_mem ht))⟩) (by simp; omega) _ fun key => ?_
      refine ⟨⟨rfl, ⟨_, _, rfl, by simp; omega, fun z => ?_, fun g gs e => by have := hr g gs e; omega⟩, by simp; omega⟩, fun b' e => ?_⟩
      · have nd := h3.nodup
        have := ((hp.map (·.1)).nodup_iff).mpr nd
        simpa using this
      obtain ⟨f, fs, v, e1, e2, e3⟩ := (e : ∃ f fs v, _ ∧ _ ∧ _)
      obtain ⟨rfl, rfl⟩ := List.cons.inj e1
      subst e3
      rcases e2 with ⟨e2, _⟩ | ⟨_, es', p, a, e2⟩
      · cases e2
      · have z : es' = ms := Asc.uniq a h3 ((by simpa using p : List.Perm es' (T.map (·.1))).trans hp)
        subst z
        subst e2
        obtain ⟨fs0, dn⟩ := b
        obtain rfl : dn = none := hd
        exact h
theorem fut_mix {n : Nat} {v : Val} {es : List Ev} (hm : Mix n v es) (hn : n ≤ 500) (hok : v.ok) : Fut (fun b => b.done = some v) ⟨[], none⟩ es := by
  have := fut_x (R := fun b => b.done = some v) n v es ⟨[], none⟩ [] hm rfl hok (fun f fs e => by cases e) (by simp; omega) rfl
  rwa [List.append_nil] at this
/-- a depth of less than n is enough -/
def p_mixed (n : Nat) : SpD := fun ds Q => ∃ (x : D) (left last : Int) (v : Val), ds = [x, v.dt] ∧ StD left last x ∧ v.dep < n ∧ (evs v).length ≤ 500000 ∧ ∀ (es : List Ev) (last' : Int) (x' : D), Mix n v es → StD left last' x' → Q (.lst (es.map Ev.dt)) [x']
abbrev sp__law_mixed (K : PySem.W.Frag) (n : Nat) : Sp := spD K [0] (p_mixed n)
theorem no__law_mixed {K : PySem.W.Frag} {vs : List V} {H : Hp} {Q : VK} {E : XK} : sp__law_mixed K 0 vs H Q E → False := spD_no fun ds Qd hp => by
  obtain ⟨_, _, _, _, _, _, h, _⟩ := hp
  omega
/-! _law_mixed(_law_state_here, _law_value_here) : _law_state_here=0 _law_value_here=1 _law_found=2 _law_item=3 _law_entries=4 _law_entry=5 -/
def N__law_mixed : List Str := ["_law_state_here", "_law_value_here", "_law_found", "_law_item", "_law_entries", "_law_entry"]
def t__law_mixed_0a_1a_0 (K : PySem.W.Frag) (n : Nat) : TS := (tAsg (tOp (rAddU K) (tVar 2) (tCall (sp__law_mixed K n) [] E0 (tCons (tVar 0) (tCons (tVar 3) tNil)))) (gName 2))
def t__law_mixed_0a_2 (K : PySem.W.Frag) (n : Nat) : TS := (tRet (tOp (rAddU K) (tVar 2) (tLst (tCons (tTup (tCons (tC (.str "close")) tNil)) tNil))))
def t__law_mixed_0a_1 (K : PySem.W.Frag) (n : Nat) : TS := tSeq (tFor (iU K (tOp (rIxU K) (tVar 1) (tC (.int 1)))) (gName 3) (t__law_mixed_0a_1a_0 K n)) (t__law_mixed_0a_2 K n)
def t__law_mixed_0a_0 (K : PySem.W.Frag) (n : Nat) : TS := tSeq (tAsg (tLst (tCons (tTup (tCons (tC (.str "open")) (tCons (tC (.str "list")) tNil))) tNil)) (gName 2)) (t__law_mixed_0a_1 K n)
def t__law_mixed_1a_1a_0 (K : PySem.W.Frag) (n : Nat) : TS := (tDrop (tBM K "list" rInsert (tVar 4) (tCons (tCall (sp__law_next K) [] E0 (tCons (tVar 0) (tCons (tOp (rAddU K) (tCB (rLen K) (tCons (tVar 4) tNil)) (tC (.int 1))) tNil))) (tCons (tVar 5) tNil))))
def t__law_mixed_1a_3a_0 (K : PySem.W.Frag) (n : Nat) : TS := (tAsg (tOp (rAddU K) (tOp (rAddU K) (tVar 2) (tLst (tCons (tTup (tCons (tC (.str "key")) (tCons (tOp (rIxU K) (tVar 5) (tC (.int 0))) tNil))) tNil))) (tCall (sp__law_mixed K n) [] E0 (tCons (tVar 0) (tCons (tOp (rIxU K) (tVar 5) (tC (.int 1))) tNil)))) (gName 2))
def t__law_mixed_1a_4 (K : PySem.W.Frag) (n : Nat) : TS := (tRet (tOp (rAddU K) (tVar 2) (tLst (tCons (tTup (tCons (tC (.str "close")) tNil)) tNil))))
def t__law_mixed_1a_3 (K : PySem.W.Frag) (n : Nat) : TS := tSeq (tFor (iU K (tVar 4)) (gName 5) (t__law_mixed_1a_3a_0 K n)) (t__law_mixed_1a_4 K n)
def t__law_mixed_1a_2 (K : PySem.W.Frag) (n : Nat) : TS := tSeq (tAsg (tLst (tCons (tTup (tCons (tC (.str "open")) (tCons (tC (.str "map")) tNil))) tNil)) (gName 2)) (t__law_mixed_1a_3 K n)
def t__law_mixed_1a_1 (K : PySem.W.Frag) (n : Nat) : TS := tSeq (tFor (iU K (tOp (rIxU K) (tVar 1) (tC (.int 1)))) (gName 5) (t__law_mixed_1a_1a_0 K n)) (t__law_mixed_1a_2 K n)
def t__law_mixed_1a_0 (K : PySem.W.Frag) (n : Nat) : TS := tSeq (tAsg (tLst tNil) (gName 4)) (t__law_mixed_1a_1 K n)
def t__law_mixed_2 (K : PySem.W.Frag) (n : Nat) : TS := (tRet (tLst (tCons (tTup (tCons (tC (.str "leaf")) (tCons (tVar 1) tNil))) tNil)))
def t__law_mixed_1 (K : PySem.W.Frag) (n : Nat) : TS := tSeq (tIfS (tTest (tOp (rEqU K) (tOp (rIxU K) (tVar 1) (tC (.int 0))) (tC (.str "map")))) (t__law_mixed_1a_0 K n) tNext) (t__law_mixed_2 K n)
def t__law_mixed_0 (K : PySem.W.Frag) (n : Nat) : TS := tSeq (tIfS (tTest (tOp (rEqU K) (tOp (rIxU K) (tVar 1) (tC (.int 0))) (tC (.str "list")))) (t__law_mixed_0a_0 K n) tNext) (t__law_mixed_1 K n)
/-! law(_law_script) : _law_script=0 _law_state_here=1 _law_value_here=2 _law_other=3 _law_events=4 _law_others=5 _law_first=6 _law_second=7 _law_k=8 -/
def N_law : List Str := ["_law_script", "_law_state_here", "_law_value_here", "_law_other", "_law_events", "_law_others", "_law_first", "_law_second", "_law_k"]
def t_law_7a_0a_0 (K : PySem.W.Frag) : TS := (tDrop (tMeth (gA "Builder" K) "take" (sp_Builder_take K) [] E0 (tVar 6) (tCons (tOp (rIxU K) (tVar 4) (tVar 8)) tNil)))
def t_law_7a_1a_0 (K : PySem.W.Frag) : TS := (tDrop (tMeth (gA "Builder" K) "take" (sp_Builder_take K) [] E0 (tVar 7) (tCons (tOp (rIxU K) (tVar 5) (tVar 8)) tNil)))
def t_law_7a_1 (K : PySem.W.Frag) : TS := (tIfS (tTest (tOp (rLtU K) (tVar 8) (tCB (rLen K) (tCons (tVar 5) tNil)))) (t_law_7a_1a_0 K) tNext)
def t_law_7a_0 (K : PySem.W.Frag) : TS := tSeq (tIfS (tTest (tOp (rLtU K) (tVar 8) (tCB (rLen K) (tCons (tVar 4) tNil)))) (t_law_7a_0a_0 K) tNext) (t_law_7a_1 K)
def t_law_8 (K : PySem.W.Frag) : TS := (tRet (tAndV (tOp (rEqU K) (tFld K (tVar 6) "value") (tVar 2)) (tAndV (tOp (rEqU K) (tFld K (tVar 7) "value") (tVar 3)) (tAndV (tOp rIsB (tFld K (tVar 6) "is_done") (tC (.bl true))) (tOp rIsB (tFld K (tVar 7) "is_done") (tC (.bl true)))))))
def t_law_7 (K : PySem.W.Frag) : TS := tSeq (tFor (iRng1 (tCons (tCB (rMax K) (tCons (tLst (tCons (tCB (rLen K) (tCons (tVar 4) tNil)) (tCons (tCB (rLen K) (tCons (tVar 5) tNil)) tNil))) tNil)) tNil)) (gName 8) (t_law_7a_0 K)) (t_law_8 K)
def t_law_6 (K : PySem.W.Frag) : TS := tSeq (tAsg (tMake (gA "Builder" K) (sp_Builder_init K) [] E0 tNil) (gName 7)) (t_law_7 K)
def t_law_5 (K : PySem.W.Frag) : TS := tSeq (tAsg (tMake (gA "Builder" K) (sp_Builder_init K) [] E0 tNil) (gName 6)) (t_law_6 K)
def t_law_4 (K : PySem.W.Frag) : TS := tSeq (tAsg (tCall (sp__law_mixed K 30) [] E0 (tCons (tVar 1) (tCons (tVar 3) tNil))) (gName 5)) (t_law_5 K)
def t_law_3 (K : PySem.W.Frag) : TS := tSeq (tAsg (tCall (sp__law_mixed K 30) [] E0 (tCons (tVar 1) (tCons (tVar 2) tNil))) (gName 4)) (t_law_4 K)
def t_law_2 (K : PySem.W.Frag) : TS := tSeq (tAsg (tCall (sp__law_value K 6) [] E0 (tCons (tVar 1) (tCons (tC (.int 2)) (tCons (tLst (tCons (tC (.str "null")) (tCons (tC (.str "truth")) (tCons (tC (.str "number")) (tCons (tC (.str "bytes")) (tCons (tC (.str "text")) tNil)))))) (tCons (tC (.bl true)) tNil))))) (gName 3)) (t_law_3 K)
def t_law_1 (K : PySem.W.Frag) : TS := tSeq (tAsg (tTup (tCons (tC (.str "map")) (tCons (tTup (tCons (tTup (tCons (tTup tNil) (tCons (tCall (sp__law_value K 6) [] E0 (tCons (tVar 1) (tCons (tC (.int 3)) (tCons (tLst (tCons (tC (.str "null")) (tCons (tC (.str "truth")) (tCons (tC (.str "number")) (tCons (tC (.str "bytes")) (tCons (tC (.str "text")) tNil)))))) (tCons (tC (.bl true)) tNil))))) tNil))) (tCons (tTup (tCons (tTup (tCons (tC (.int 97)) tNil)) (tCons (tCall (sp__law_value K 6) [] E0 (tCons (tVar 1) (tCons (tC (.int 3)) (tCons (tLst (tCons (tC (.str "null")) (tCons (tC (.str "truth")) (tCons (tC (.str "number")) (tCons (tC (.str "bytes")) (tCons (tC (.str "text")) tNil)))))) (tCons (tC (.bl true)) tNil))))) tNil))) tNil))) tNil))) (gName 2)) (t_law_2 K)
def t_law_0 (K : PySem.W.Frag) : TS := tSeq (tAsg (tCall (sp__law_state K) [] E0 (tCons (tVar 0) (tCons (tOp (rAddU K) (tC (.int 12)) (tOp rModI (tCB rAbs (tCons (tCall (sp__law_cell K) [] E0 (tCons (tVar 0) (tCons (tC (.int 0)) tNil))) tNil)) (tC (.int 40)))) tNil))) (gName 1)) (t_law_1 K)
section
variable {K : PySem.W.Frag} {vs : List V} {H : Hp} {Q : VK} {E : XK}
theorem len__law_mixed {n : Nat} (h : sp__law_mixed K n vs H Q E) : vs.length = 2 := len_of h fun ds Qd ⟨_, _, _, _, e, _⟩ => by rw [e]; rfl
theorem mix_leaf : ∀ {n : Nat} {v : Val}, (∀ xs, v ≠ .list xs) → (∀ ms, v ≠ .map ms) → Mix n v [.leaf v] := fun {n v} h1 h2 => by
  cases v with
  | list xs => exact absurd rfl (h1 xs)
  | map ms => exact absurd rfl (h2 ms)
  | _ => cases n <;> rfl
theorem r__law_mixed {n : Nat} (h : sp__law_mixed K (n + 1) vs H Q E) : t__law_mixed_0 K n { nx := fun _ H' => Q .non H', rt := Q } (L2.start N__law_mixed vs) H := by
  refine body_of (by decide) (fun ds Qd hP => ?_) (fun ds Qd hP => ?_) h
  · obtain ⟨_, _, _, _, rfl, _⟩ := hP
    simp
  obtain ⟨x, left, last, v, rfl, hs, hd, hl, hq⟩ := hP
  unfold t__law_mixed_0
  have word : ∀ (z : Str) (r : List D), v.dt = .tup (.str z :: r) → ∀ (y : Str) (t u : TS) (De : DEnds), (if decide (z = y) = true then DS K [0] t (rho0 N__law_mixed [x, v.dt]) De else DS K [0] u (rho0 N__law_mixed [x, v.dt]) De) → DS K [0] (tIfS (tTest (tOp (rEqU K) (tOp (rIxU K) (tVar 1) (tC (.int 0))) (tC (.str y)))) t u) (rho0 N__law_mixed [x, v.dt]) De := fun z r he y t u De h => by
    rw [he] at h ⊢
    refine s_if (d_test (d_opB (b_ix (b_var rfl (b_int (ixT (k := 0) (d := .str z) (atI_zero _ _) (b_str ?_)))))))
    exact (o_eqS (bl_ok h)).g
  have leaf : ∀ (z : Str) (r : List D), v.dt = .tup (.str z :: r) → ¬ z = "list" → ¬ z = "map" → Mix (n + 1) v [.leaf v] → DS K [0] (tSeq (tIfS (tTest (tOp (rEqU K) (tOp (rIxU K) (tVar 1) (tC (.int 0))) (tC (.str "list")))) (t__law_mixed_0a_0 K n) tNext) (t__law_mixed_1 K n)) (rho0 N__law_mixed [x, v.dt]) (endsD [0] Qd) := fun z r he h1 h2 h3 => by
    refine s_seq (word z r he _ _ _ _ (i_DF h1 (s_next ?_)))
    unfold t__law_mixed_1
    refine s_seq (word z r he _ _ _ _ (i_DF h2 (s_next ?_)))
    unfold t__law_mixed_2
    have im := v.imm
    walk_at "d"
    exact out1 rfl (hq _ _ _ h3 hs)
  cases v with
  | null => exact leaf "null" _ rfl (by decide) (by decide) rfl
  | truth b => exact leaf "truth" _ rfl (by decide) (by decide) rfl
  | num m e => exact leaf "number" _ rfl (by decide) (by decide) rfl
  | bytes os => exact leaf "bytes" _ rfl (by decide) (by decide) rfl
  | text ps => exact leaf "text" _ rfl (by decide) (by decide) rfl
  | list xs =>
    have hl : ((evL xs).length + 2) ≤ 500000 := by simpa [evs] using hl
    have hd : depL xs < n := by have : 1 + depL xs < n + 1 := hd; omega
    refine s_seq (word "list" _ rfl _ _ _ _ (i_DT rfl ?_))
    unfold t__law_mixed_0a_0
    walk_at "d"
    unfold t__law_mixed_0a_1
    walk_at "d"
    refine g_ix (ixT (ds := [.str "list", .tup (dtL xs)]) (k := 1) (d := .tup (dtL xs)) rfl ⟨immL xs, it_tup (immL xs) ?_⟩)
    refine Lp.of (fun i ρ => i ≤ xs.length ∧ ∃ (T : List (Val × List Ev)) (x : D) (last : Int) (x3 : Option D), T.map (·.1) = xs.take i ∧ (∀ t ∈ T, Mix n t.1 t.2) ∧ StD left last x ∧ ρ = [some x, some (Val.list xs).dt, some (.lst ((Ev.openL :: T.flatMap (·.2)).map Ev.dt)), x3, none, none]) ⟨Nat.zero_le _, [], x, last, none, rfl, by simp, hs, rfl⟩ ?_ ?_
    · rintro i ρ hi ⟨_, T, x, last, x3, hT, hM, hs, rfl⟩
      rw [lenL] at hi
      rw [atL hi]
      have hle := evL_take hi
      have him := le_depL (List.getElem_mem hi)
      have hTl : (T.flatMap (·.2)).length = (evL (xs.take i)).length := by
        rw [flat_len (g := fun t : Val × List Ev => (evs t.1).length) (fun t ht => Mix.len n (hM t ht)), evL_sum, ← hT, List.map_map]
        rfl
      unfold t__law_mixed_0a_1a_0
      have im := (xs[i]).imm
      walk_at "d"
      refine ⟨x, left, last, xs[i], rfl, hs, by omega, by omega, fun es last' x' hm hs' y ey => ?_⟩
      cases ey
      have hel := Mix.len n hm
      refine ⟨_, rfl, g_catL (Nat.le_of_lt (small_lt (by simp [hTl]; omega))) ?_ (imm_evs (.openL :: T.flatMap (·.2))) (imm_evs _)⟩
      walk_at "d"
      refine ⟨hi, T ++ [(xs[i], es)], x', last', some xs[i].dt, ?_, ?_, hs', ?_⟩
      · rw [List.map_append, hT, take_snoc hi]
        rfl
      · intro t ht
        rcases List.mem_append.mp ht with z | z
        · exact hM t z
        · obtain rfl := List.mem_singleton.mp z
          exact hm
      · have e : (Ev.openL :: (T ++ [(xs[i], es)]).flatMap (·.2)).map Ev.dt = (Ev.openL :: T.flatMap (·.2)).map Ev.dt ++ es.map Ev.dt := by simp
        rw [e]
        rfl
    · rintro ρ ⟨_, T, x, last, x3, hT, hM, hs, rfl⟩
      rw [lenL, List.take_length] at hT
      have hTl : (T.flatMap (·.2)).length = (evL xs).length := by
        rw [flat_len (g := fun t : Val × List Ev => (evs t.1).length) (fun t ht => Mix.len n (hM t ht)), evL_sum, ← hT, List.map_map]
        rfl
      unfold t__law_mixed_0a_2
      walk_at "d"
      refine g_catL (Nat.le_of_lt (small_lt (by simp [hTl]; omega))) (out1 rfl ?_) (imm_evs (.openL :: T.flatMap (·.2))) (Ev.imm .close)
      have := hq (.openL :: (T.flatMap (·.2) ++ [.close])) last x ⟨T, hT, hM, rfl⟩ hs
      have e : (Ev.openL :: (T.flatMap (·.2) ++ [.close])).map Ev.dt = (Ev.openL :: T.flatMap (·.2)).map Ev.dt ++ [Ev.close.dt] := by simp
      rw [e] at this
      exact this
  | map ms =>
    have hl : ((evM ms).length + 2) ≤ 500000 := by simpa [evs] using hl
    have hd : depM ms < n := by have : 1 + depM ms < n + 1 := hd; omega
    have hml : ms.length ≤ 500000 := by
      have : ∀ ms : List (List Int × Val), ms.length ≤ (evM ms).length := fun ms => by
        induction ms with
        | nil => simp
        | cons e ms ih => obtain ⟨k, y⟩ := e; simp [evM]; omega
      have := this ms
      omega
    refine s_seq (word "map" _ rfl _ _ _ _ (i_DF (by decide) (s_next ?_)))
    unfold t__law_mixed_1
    refine s_seq (word "map" _ rfl _ _ _ _ (i_DT rfl ?_))
    unfold t__law_mixed_1a_0
    walk_at "d"
    unfold t__law_mixed_1a_1
    walk_at "d"
    refine g_ix (ixT (ds := [.str "map", .tup (dtM ms)]) (k := 1) (d := .tup (dtM ms)) rfl ⟨immM ms, it_tup (immM ms) ?_⟩)
    refine Lp.of (fun i ρ => i ≤ ms.length ∧ ∃ (ms' : List (List Int × Val)) (x : D) (last : Int) (x5 : Option D), List.Perm ms' (ms.take i) ∧ StD left last x ∧ ρ = [some x, some (Val.map ms).dt, none, none, some (.lst (dtM ms')), x5]) ⟨Nat.zero_le _, [], x, last, none, by simp, hs, rfl⟩ ?_ ?_
    · rintro i ρ hi ⟨_, ms', x, last, x5, hp, hs, rfl⟩
      rw [lenM] at hi
      rw [atM hi]
      have hpl : ms'.length = i := by rw [hp.length_eq]; simp; omega
      have im : (entD ms[i]).imm = true := by simp [entD, immA, D.imm, Val.imm]
      walk_at "d"
      unfold t__law_mixed_1a_1a_0
      refine s_ins rfl ?_
      walk_at "d"
      refine ⟨x, left, last, _, rfl, by omega, hs, fun r x' r0 r1 hs' y ey => ?_⟩
      cases ey
      rw [lenM] at r1
      obtain ⟨k, rfl⟩ : ∃ k : Nat, r = k := ⟨r.toNat, by omega⟩
      have im : (entD ms[i]).imm = true := by simp [entD, immA, D.imm, Val.imm]
      refine a_cons (d_var (d := entD ms[i]) rfl im (a_nil ⟨dtM ms', k, entD ms[i], rfl, rfl, im, immM ms', by omega, small_lt (by rw [lenM]; omega), hi, ms'.take k ++ [ms[i]] ++ ms'.drop k, x', last, some (entD ms[i]), ?_, hs', ?_⟩))
      · rw [take_snoc hi]
        refine List.Perm.trans ?_ (hp.append_right [ms[i]])
        have e : ms' = ms'.take k ++ ms'.drop k := (List.take_append_drop k ms').symm
        rw [List.append_assoc]
        refine List.Perm.trans (List.perm_append_comm.append_left _) ?_
        rw [← List.append_assoc, List.take_append_drop]
      · have e : dtM (ms'.take k ++ [ms[i]] ++ ms'.drop k) = (dtM ms').take k ++ [entD ms[i]] ++ (dtM ms').drop k := by
          simp [dtM_map, List.map_take, List.map_drop]
        rw [e]
        rfl
    · rintro ρ ⟨_, ms', x, last, x5, hp, hs, rfl⟩
      rw [lenM, List.take_length] at hp
      unfold t__law_mixed_1a_2
      walk_at "d"
      unfold t__law_mixed_1a_3
      walk_at "d"
      have hpl := hp.length_eq
      have hpe := evM_perm hp
      refine ⟨fun i ρ => i ≤ ms'.length ∧ ∃ (T : List ((List Int × Val) × List Ev)) (x : D) (last : Int) (x5 : Option D), T.map (·.1) = ms'.take i ∧ (∀ t ∈ T, Mix n t.1.2 t.2) ∧ StD left last x ∧ ρ = [some x, some (Val.map ms).dt, some (.lst ((Ev.openM :: T.flatMap (fun t => .key t.1.1 :: t.2)).map Ev.dt)), none, some (.lst (dtM ms')), x5], ⟨Nat.zero_le _, [], x, last, x5, rfl, by simp, hs, rfl⟩, fun i ρ ⟨_, _, _, _, _, _, _, _, e⟩ => by rw [e]; rfl, ?_, ?_⟩
      · rintro i ρ hi ⟨_, T, x, last, x5, hT, hM, hs, rfl⟩
        rw [lenM] at hi
        rw [atM hi]
        have hle := evM_take hi
        have him : (ms'[i]).2.dep ≤ depM ms := le_depM (hp.mem_iff.mp (List.getElem_mem hi))
        have hTl : (T.flatMap (fun t => Ev.key t.1.1 :: t.2)).length = (evM (ms'.take i)).length := by
          rw [flat_len (g := fun t : (List Int × Val) × List Ev => 1 + (evs t.1.2).length) (fun t ht => by rw [List.length_cons, Mix.len n (hM t ht)]; omega), evM_sum, ← hT, List.map_map]
          rfl
        have im := (ms'[i].2).imm
        unfold entD
        unfold t__law_mixed_1a_3a_0
        walk_at "d"
        refine g_catL (Nat.le_of_lt (small_lt (by simp [hTl]; omega))) ?_ (imm_evs (.openM :: T.flatMap (fun t => .key t.1.1 :: t.2))) (Ev.imm (.key ms'[i].1))
        walk_at "d"
        refine ⟨x, left, last, ms'[i].2, rfl, hs, by omega, by omega, fun es last' x' hm hs' y ey => ?_⟩
        cases ey
        have hel := Mix.len n hm
        have mm : immA ((Ev.openM :: T.flatMap (fun t => .key t.1.1 :: t.2)).map Ev.dt ++ [D.tup [.str "key", .key ms'[i].1]]) = true := by
          have := imm_evs ((Ev.openM :: T.flatMap (fun t => .key t.1.1 :: t.2)) ++ [.key ms'[i].1])
          rw [List.map_append] at this
          exact this
        refine g_catL (Nat.le_of_lt (small_lt (by simp [hTl]; omega))) ?_ mm (imm_evs _)
        walk_at "d"
        refine ⟨hi, T ++ [(ms'[i], es)], x', last', some (entD ms'[i]), ?_, ?_, hs', ?_⟩
        · rw [List.map_append, hT, take_snoc hi]
          rfl
        · intro t ht
          rcases List.mem_append.mp ht with z | z
          · exact hM t z
          · obtain rfl := List.mem_singleton.mp z
            exact hm
        · have e : (Ev.openM :: (T ++ [(ms'[i], es)]).flatMap (fun t => .key t.1.1 :: t.2)).map Ev.dt = (Ev.openM :: T.flatMap (fun t => .key t.1.1 :: t.2)).map Ev.dt ++ [.tup [.str "key", .key ms'[i].1]] ++ es.map Ev.dt := by
            simp [Ev.dt]
          rw [e]
          rfl
      · rintro ρ ⟨_, T, x, last, x5, hT, hM, hs, rfl⟩
        rw [lenM, List.take_length] at hT
        have hTl : (T.flatMap (fun t => Ev.key t.1.1 :: t.2)).length = (evM ms').length := by
          rw [flat_len (g := fun t : (List Int × Val) × List Ev => 1 + (evs t.1.2).length) (fun t ht => by rw [List.length_cons, Mix.len n (hM t ht)]; omega), evM_sum, ← hT, List.map_map]
          rfl
        unfold t__law_mixed_1a_4
        walk_at "d"
        refine g_catL (Nat.le_of_lt (small_lt (by simp [hTl]; omega))) (out1 rfl ?_) (imm_evs (.openM :: T.flatMap (fun t => .key t.1.1 :: t.2))) (Ev.imm .close)
        have := hq (.openM :: (T.flatMap (fun t => .key t.1.1 :: t.2) ++ [.close])) last x ⟨T, by rw [hT]; exact hp, hM, rfl⟩ hs
        have e : (Ev.openM :: (T.flatMap (fun t => .key t.1.1 :: t.2) ++ [.close])).map Ev.dt = (Ev.openM :: T.flatMap (fun t => .key t.1.1 :: t.2)).map Ev.dt ++ [Ev.close.dt] := by simp
        rw [e] at this
        exact this
end
theorem val_dep_lt {v : Val} {n : Nat} {ks : List Str} {hm : Bool} (h : v.good ks hm n) : v.dep ≤ n := (good_ok h).1
section
variable {K : PySem.W.Frag} {vs : List V} {H : Hp} {Q : VK} {E : XK}
theorem d_key1 {n : Int} {ρ : Rho} {Qd : D → Rho → Prop} (h : Qd (.key [n]) ρ) : DE K (tTup (tCons (tC (.int n)) tNil)) ρ Qd := d_tupK (a_cons (d_int (a_nil ⟨by simp [sizeLine], [n], rfl, h⟩)))
local macro_rules | `(tactic| walk_at "d1") => `(tactic| with_reducible refine d_key1 ?_)
theorem r_law (kB : Kls K "Builder" F_Builder) (h : sp_law K vs H Q E) : t_law_0 K { nx := fun _ H' => Q .non H', rt := Q } (L2.start N_law vs) H := by
  refine law_of (fun ns hl => ?_) h
  unfold t_law_0
  walk_at "d"
  refine ⟨ns, 0, rfl, by omega, fun c => ?_⟩
  walk_at "d"
  have hleft : (12 + (if c < 0 then -c else c) % 40) ≤ 51 := by omega
  generalize 12 + (if c < 0 then -c else c) % 40 = left at hleft
  refine ⟨ns, left, rfl, fun x hs => ?_⟩
  walk_at "d"
  unfold t_law_1
  walk_at "d"
  refine ⟨x, left, 3, 3, ["null", "truth", "number", "bytes", "text"], true, rfl, by omega, by decide, fun k hk => hk, hs, fun v1 left1 last1 x1 hg1 hc1 hle1 hs1 => ?_⟩
  have im1 := v1.imm
  walk_at "d"
  refine ⟨x1, left1, last1, 3, ["null", "truth", "number", "bytes", "text"], true, rfl, by omega, by decide, fun k hk => hk, hs1, fun v2 left2 last2 x2 hg2 hc2 hle2 hs2 => ?_⟩
  have im2 := v2.imm
  walk_at "d"
  unfold t_law_2
  walk_at "d"
  refine ⟨x2, left2, last2, 2, ["null", "truth", "number", "bytes", "text"], true, rfl, by omega, by decide, fun k hk => hk, hs2, fun v3 left3 last3 x3 hg3 hc3 hle3 hs3 => ?_⟩
  have im3 := v3.imm
  have l1 := evsN 3 v1 hg1
  have l2 := evsN 3 v2 hg2
  have l3 := evsN 2 v3 hg3
  obtain ⟨d1, ok1⟩ := good_ok hg1
  obtain ⟨d2, ok2⟩ := good_ok hg2
  obtain ⟨d3, ok3⟩ := good_ok hg3
  have hl1 : (evs v1).length ≤ 12000 := by unfold pos at *; omega
  have hl2 : (evs v2).length ≤ 12000 := by unfold pos at *; omega
  have hl3 : (evs v3).length ≤ 12000 := by unfold pos at *; omega
  let v : Val := .map [([], v1), ([97], v2)]
  have hv : v.ok := ⟨by simp, by simp [Asc]; decide, ok1, ok2, trivial⟩
  have hvd : v.dep ≤ 4 := by
    show 1 + max v1.dep (max v2.dep 0) ≤ 4
    omega
  have hvl : (evs v).length ≤ 30000 := by
    simp [v, evs, evM]
    omega
  have im := v.imm
  show DS K [] (t_law_3 K) [some (.rol (ns.map .int)), some x3, some v.dt, some v3.dt, none, none, none, none, none] _
  unfold t_law_3
  walk_at "d"
  refine ⟨x3, left3, last3, v, rfl, hs3, by omega, by omega, fun es1 last4 x4 hm1 hs4 y ey => ?_⟩
  cases ey
  have e1l := Mix.len 30 hm1
  unfold t_law_4
  walk_at "d"
  refine ⟨x4, left3, last4, v3, rfl, hs4, by omega, by omega, fun es2 last5 x5 hm2 hs5 y ey => ?_⟩
  cases ey
  have e2l := Mix.len 30 hm2
  unfold t_law_5
  walk_at "d"
  refine d_n (n_make (ns := F_Builder) (na_nil ⟨rfl, rfl, fun x' ex => ?_⟩))
  cases ex
  unfold t_law_6
  walk_at "d"
  refine d_n (n_make (ns := F_Builder) (na_nil ⟨rfl, rfl, fun x' ex => ?_⟩))
  cases ex
  unfold t_law_7
  walk_at "d"
  refine cb_maxL (ns := [((es1.map Ev.dt).length : Int), ((es2.map Ev.dt).length : Int)]) rfl (by simp) fun m hm hmx => ?_
  have q1 := hmx _ (List.mem_cons_self ..)
  have q2 := hmx _ (List.mem_cons_of_mem _ (List.mem_cons_self ..))
  rw [List.length_map] at q1 q2
  have q3 : m ≤ 1000000 := by
    rcases List.mem_cons.mp hm with rfl | hm
    · rw [List.length_map]; omega
    · rw [List.mem_singleton.mp hm, List.length_map]; omega
  walk_at "d"
  refine Lp.of (fun i ρ => ∃ (b1 b2 : BS) (x8 : Option D), Fut (fun b => b.done = some v) b1 (es1.drop i) ∧ Fut (fun b => b.done = some v3) b2 (es2.drop i) ∧ ρ = [some (.rol (ns.map .int)), some x5, some v.dt, some v3.dt, some (.lst (es1.map Ev.dt)), some (.lst (es2.map Ev.dt)), some b1.dt, some b2.dt, x8]) ⟨⟨[], none⟩, ⟨[], none⟩, none, fut_mix hm1 (by omega) hv, fut_mix hm2 (by omega) ok3, rfl⟩ ?_ ?_
  · rintro i ρ hi ⟨b1, b2, x8, hf1, hf2, rfl⟩
    walk_at "d"
    unfold t_law_7a_0
    have second : ∀ (b1' : BS) , Fut (fun b => b.done = some v) b1' (es1.drop (i + 1)) → DS K [] (t_law_7a_1 K) [some (.rol (ns.map .int)), some x5, some v.dt, some v3.dt, some (.lst (es1.map Ev.dt)), some (.lst (es2.map Ev.dt)), some b1'.dt, some b2.dt, some (.int i)] (((endsD [] fun d x => d = D.bl true).sq fun ρ1 => DS K [] (t_law_8 K) ρ1 (endsD [] fun d x => d = D.bl true)).lp (fun ρ => ∃ (b1 b2 : BS) (x8 : Option D), Fut (fun b => b.done = some v) b1 (es1.drop (i + 1)) ∧ Fut (fun b => b.done = some v3) b2 (es2.drop (i + 1)) ∧ ρ = [some (.rol (ns.map .int)), some x5, some v.dt, some v3.dt, some (.lst (es1.map Ev.dt)), some (.lst (es2.map Ev.dt)), some b1.dt, some b2.dt, x8])) := fun b1' hf1' => by
      unfold t_law_7a_1
      walk_at "d"
      refine i_D (fun c => ?_) (fun c => ?_)
      · rw [List.length_map] at c
        have c : i < es2.length := by omega
        rw [List.drop_eq_getElem_cons c] at hf2
        obtain ⟨hok, hnx⟩ := hf2
        obtain ⟨fs, dn⟩ := b2
        obtain rfl : dn = none := hok.1
        have eb : (⟨fs, none⟩ : BS).dt = .ins "Builder" F_Builder [.lst (fs.reverse.map Fr.dt), .bl false, .non] := rfl
        rw [eb]
        unfold t_law_7a_1a_0
        walk_at "d"
        refine g_ix (ixL (k := i) (d := (es2[i]).dt) (atI_mapD c) ⟨Ev.imm _, ?_⟩)
        walk_at "d"
        refine ⟨⟨fs, none⟩, es2[i], rfl, hok, fun b' hst x' ex => ?_⟩
        cases ex
        exact ⟨b1', b', _, hf1', hnx b' hst, rfl⟩
      · rw [List.length_map] at c
        have c : es2.length ≤ i := by omega
        walk_at "d"
        refine ⟨b1', b2, _, hf1', ?_, rfl⟩
        rw [List.drop_eq_nil_of_le c] at hf2
        rw [List.drop_eq_nil_of_le (by omega)]
        exact hf2
    walk_at "d"
    refine i_D (fun c => ?_) (fun c => ?_)
    · rw [List.length_map] at c
      have c : i < es1.length := by omega
      rw [List.drop_eq_getElem_cons c] at hf1
      obtain ⟨hok, hnx⟩ := hf1
      obtain ⟨fs, dn⟩ := b1
      obtain rfl : dn = none := hok.1
      have eb : (⟨fs, none⟩ : BS).dt = .ins "Builder" F_Builder [.lst (fs.reverse.map Fr.dt), .bl false, .non] := rfl
      rw [eb]
      unfold t_law_7a_0a_0
      walk_at "d"
      refine g_ix (ixL (k := i) (d := (es1[i]).dt) (atI_mapD c) ⟨Ev.imm _, ?_⟩)
      walk_at "d"
      refine ⟨⟨fs, none⟩, es1[i], rfl, hok, fun b' hst x' ex => ?_⟩
      cases ex
      exact second b' (hnx b' hst)
    · rw [List.length_map] at c
      have c : es1.length ≤ i := by omega
      walk_at "d"
      refine second b1 ?_
      rw [List.drop_eq_nil_of_le c] at hf1
      rw [List.drop_eq_nil_of_le (by omega)]
      exact hf1
  · rintro ρ ⟨b1, b2, x8, hf1, hf2, rfl⟩
    rw [List.drop_eq_nil_of_le (by omega)] at hf1 hf2
    obtain ⟨fs1, dn1⟩ := b1
    obtain rfl : dn1 = some v := hf1
    obtain ⟨fs2, dn2⟩ := b2
    obtain rfl : dn2 = some v3 := hf2
    have eb1 : (⟨fs1, some v⟩ : BS).dt = .ins "Builder" F_Builder [.lst (fs1.reverse.map Fr.dt), .bl true, v.dt] := rfl
    have eb2 : (⟨fs2, some v3⟩ : BS).dt = .ins "Builder" F_Builder [.lst (fs2.reverse.map Fr.dt), .bl true, v3.dt] := rfl
    rw [eb1, eb2]
    unfold t_law_8
    walk_at "d"
    refine (o_eqD (dt_plain v) (dt_plain v) (by have := py_dep v; omega) ?_).g
    rw [eqv_self]
    refine ⟨true, rfl, ?_⟩
    show DE K _ _ _
    walk_at "d"
    refine (o_eqD (dt_plain v3) (dt_plain v3) (by have := py_dep v3; omega) ?_).g
    rw [eqv_self]
    refine ⟨true, rfl, ?_⟩
    show DE K _ _ _
    walk_at "d"
    refine i_DT rfl ?_
    walk_at "d"
    exact ⟨[], rfl, rfl⟩
end
/-! ### the text by places -/
def top (i : Nat) : Stmt := PySem.Challenge.pw_formsalike_k11_entries_in_any_order.main.body.getD i (.Pass ⟨0, 0, 0, 0⟩)
abbrev s_list_of : Stmt := top 4
abbrev s_map_of : Stmt := top 5
abbrev s_Frame_init : Stmt := inClass (top 7) 0
abbrev s_Frame_put : Stmt := inClass (top 7) 1
abbrev s_Frame_whole : Stmt := inClass (top 7) 2
abbrev s_Builder_init : Stmt := inClass (top 8) 0
abbrev s_Builder_put : Stmt := inClass (top 8) 2
abbrev s_Builder_take : Stmt := inClass (top 8) 1
abbrev s__law_cell : Stmt := top 10
abbrev s__law_numbers : Stmt := top 11
abbrev s__law_state : Stmt := top 12
abbrev s__law_next : Stmt := top 13
abbrev s__law_big : Stmt := top 14
abbrev s__law_normal : Stmt := top 15
abbrev s__law_number : Stmt := top 16
abbrev s__law_points : Stmt := top 17
abbrev s__law_octets : Stmt := top 18
abbrev s__law_leaf : Stmt := top 19
abbrev s__law_value : Stmt := top 20
abbrev s__law_mixed : Stmt := top 21
abbrev s_law : Stmt := top 22
/-! ### what the walks ask of the module's names -/
structure Txt (K : PySem.W.Frag) (mg : Str → Option Value) : Prop where
  g_Builder : mg "Builder" = some (.ref (He.ga K "Builder"))
  g_Frame : mg "Frame" = some (.ref (He.ga K "Frame"))
  k_Builder : Kls K "Builder" F_Builder
  k_Frame : Kls K "Frame" F_Frame
  i_Builder : Mk K (gA "Builder" K) (mA "Builder" "__init__" K)
  i_Frame : Mk K (gA "Frame" K) (mA "Frame" "__init__" K)
  m_Builder_put : Meth K (gA "Builder" K) "put" (mA "Builder" "put" K)
  m_Builder_take : Meth K (gA "Builder" K) "take" (mA "Builder" "take" K)
  m_Frame_put : Meth K (gA "Frame" K) "put" (mA "Frame" "put" K)
  m_Frame_whole : Meth K (gA "Frame" K) "whole" (mA "Frame" "whole" K)
  z_abs : mg "abs" = none
  z_int : mg "int" = none
  z_len : mg "len" = none
  z_list : mg "list" = none
  z_max : mg "max" = none
  z_range : mg "range" = none
  z_sorted : mg "sorted" = none
  z_tuple : mg "tuple" = none
section
variable {P : Program} {w : World} {K : PySem.W.Frag} {mg : Str → Option Value} {base : Heap}
theorem sc_list_of : FnScope ["items"] ["items"] (defScope s_list_of) := ⟨rfl, rfl, rfl, by decide +kernel, rfl, by decide +kernel, by decide +kernel⟩
theorem ok_list_of {f : Addr} {fd : FuncData} (F : FnP K "list_of" "list_of" s_list_of f fd) (T : Txt K mg) : FnOk P w K mg base CX0 1 f fd ["items"] (sp_list_of K) := by
  refine F.ok sc_list_of (fun vs H Q E h => len_list_of h) (fun cdv A outer s H vs Q E hr h => ⟨(t_list_of_0 K), PSs.nox ?_, r_list_of h⟩)
  exact (pss_one (ps_ret (pe_tup (pa_cons pe_str (pa_cons (pe_callTy call_tuple_of (by rfl) T.z_tuple (by decide +kernel) (pa_cons (pv 0) pa_nil)) pa_nil)))))
theorem sc_map_of : FnScope ["entries", "table", "key", "value"] ["entries"] (defScope s_map_of) := ⟨rfl, rfl, rfl, by decide +kernel, rfl, by decide +kernel, by decide +kernel⟩
theorem ok_map_of {f : Addr} {fd : FuncData} (F : FnP K "map_of" "map_of" s_map_of f fd) (T : Txt K mg) : FnOk P w K mg base CX0 1 f fd ["entries"] (sp_map_of K) := by
  refine F.ok sc_map_of (fun vs H Q E h => len_map_of h) (fun cdv A outer s H vs Q E hr h => ⟨(t_map_of_0 K), PSs.nox ?_, r_map_of h⟩)
  have hu64 := hr.units
  have hu65 := Fa.Room.units65 hr
  have hu200 := Fa.Room.units200 hr
  have hu := hu_of hr
  exact (pss_cons (ps_set (i := 1) sc_map_of.nd rfl (Or.inr rfl) pe_dnewT)
      (pss_cons (ps_for PassesOwn.never rfl (pi_U (pv 0)) (pg_tup rfl (pgs_cons (pg_name (i := 2) sc_map_of.nd rfl (Or.inl rfl)) (pgs_cons (pg_name (i := 3) sc_map_of.nd rfl (Or.inl rfl)) pgs_nil))) (pss_cons (ps_if (pt_cmp (pc_din hu (pe_callTy call_tuple_of (by rfl) T.z_tuple (by decide +kernel) (pa_cons (pv 2) pa_nil)) (pv 1)) rfl) (pss_one ps_never) pss_nil)
      (pss_one (ps_dput hu (pv 1) (pe_callTy call_tuple_of (by rfl) T.z_tuple (by decide +kernel) (pa_cons (pv 2) pa_nil)) (pv 3) rfl))))
      (pss_one (ps_ret (pe_tup (pa_cons pe_str (pa_cons (pe_callTy call_tuple_of (by rfl) T.z_tuple (by decide +kernel) (pa_cons (pe_lc (own := [("key", 2)]) (g := (gName 2)) (tt := tYes) (te := (tTup (tCons (tVar 2) (tCons (tDGet (tVar 1) (tVar 2)) tNil)))) (wi := (iU K (tCB (rSortedU K) (tCons (tCB (rListU K) (tCons (tVar 1) tNil)) tNil)))) rfl sc_map_of.nd (pi_U (pe_callB (cr_sortedU hu64) (by rfl) T.z_sorted (by decide +kernel) (pa_cons (pe_callTy call_listU (by rfl) T.z_list (by decide +kernel) (pa_cons (pv 1) pa_nil)) pa_nil))) (blkOk_by (N := ["entries", "table", "key", "value"]) (sc := defScope s_map_of) (by decide +kernel)) (fun _ _ _ _ _ => (pg_name (i := 2) sc_map_of.nd rfl (Or.inl rfl))) (fun _ _ _ _ _ => pts_nil) (fun _ _ _ _ _ => (pe_tup (pa_cons (pv 2) (pa_cons (pe_dget hu (pv 1) (pv 2) (fun _ _ => rfl)) pa_nil))))) pa_nil)) pa_nil)))))))
theorem sc_Frame_init : FnScope ["self", "kind"] ["self", "kind"] (defScope s_Frame_init) := ⟨rfl, rfl, rfl, by decide +kernel, rfl, by decide +kernel, by decide +kernel⟩
theorem ok_Frame_init {f : Addr} {fd : FuncData} (F : FnP K "__init__" "Frame.__init__" s_Frame_init f fd) (T : Txt K mg) : FnOk P w K mg base CX0 1 f fd ["self", "kind"] (sp_Frame_init K) := by
  refine F.ok sc_Frame_init (fun vs H Q E h => len_Frame_init h) (fun cdv A outer s H vs Q E hr h => ⟨(t_Frame_init_0 K), PSs.nox ?_, r_Frame_init T.k_Frame h⟩)
  exact (pss_cons (ps_fld (pv 0) (pv 1) rfl)
      (pss_cons (ps_fld (pv 0) (pe_lst pa_nil) rfl)
      (pss_one (ps_fld (pv 0) (pe_tup pa_nil) rfl))))
theorem sc_Frame_put : FnScope ["self", "value"] ["self", "value"] (defScope s_Frame_put) := ⟨rfl, rfl, rfl, by decide +kernel, rfl, by decide +kernel, by decide +kernel⟩
theorem ok_Frame_put {f : Addr} {fd : FuncData} (F : FnP K "put" "Frame.put" s_Frame_put f fd) (T : Txt K mg) : FnOk P w K mg base CX0 1 f fd ["self", "value"] (sp_Frame_put K) := by
  refine F.ok sc_Frame_put (fun vs H Q E h => len_Frame_put h) (fun cdv A outer s H vs Q E hr h => ⟨(t_Frame_put_0 K), PSs.nox ?_, r_Frame_put T.k_Frame h⟩)
  have hu64 := hr.units
  have hu65 := Fa.Room.units65 hr
  have hu200 := Fa.Room.units200 hr
  have hu := hu_of hr
  exact (pss_one (ps_if (pt_cmpR (op_eqU hu200) (pe_fld (pv 0) rfl) pe_str (nomark _)) (pss_one (ps_expr (pe_bm PySem.F.plainAttrs_list PySem.F.slot_list_append PySem.F.type_list_append mt_append (pe_fld (pv 0) rfl) (pa_cons (pe_tup (pa_cons (pe_fld (pv 0) rfl) (pa_cons (pv 1) pa_nil))) pa_nil)))) (pss_one (ps_expr (pe_bm PySem.F.plainAttrs_list PySem.F.slot_list_append PySem.F.type_list_append mt_append (pe_fld (pv 0) rfl) (pa_cons (pv 1) pa_nil))))))
theorem sc_Frame_whole : FnScope ["self"] ["self"] (defScope s_Frame_whole) := ⟨rfl, rfl, rfl, by decide +kernel, rfl, by decide +kernel, by decide +kernel⟩
theorem ok_Frame_whole {f : Addr} {fd : FuncData} (F : FnP K "whole" "Frame.whole" s_Frame_whole f fd) (T : Txt K mg) (c_list_of : Cal P w K mg base 1 "list_of" (sp_list_of K)) (c_map_of : Cal P w K mg base 1 "map_of" (sp_map_of K)) : FnOk P w K mg base CX0 2 f fd ["self"] (sp_Frame_whole K) := by
  refine F.ok sc_Frame_whole (fun vs H Q E h => len_Frame_whole h) (fun cdv A outer s H vs Q E hr h => ⟨(t_Frame_whole_0 K), PSs.nox ?_, r_Frame_whole T.k_Frame h⟩)
  have hu64 := hr.units
  have hu65 := Fa.Room.units65 hr
  have hu200 := Fa.Room.units200 hr
  have hu := hu_of hr
  exact (pss_cons (ps_if (pt_cmpR (op_eqU hu200) (pe_fld (pv 0) rfl) pe_str (nomark _)) (pss_one (ps_ret (pe_callC c_map_of (hr.mono (by decide)) (by rfl) (pa_cons (pe_fld (pv 0) rfl) pa_nil)))) pss_nil)
      (pss_one (ps_ret (pe_callC c_list_of (hr.mono (by decide)) (by rfl) (pa_cons (pe_fld (pv 0) rfl) pa_nil)))))
theorem sc_Builder_init : FnScope ["self"] ["self"] (defScope s_Builder_init) := ⟨rfl, rfl, rfl, by decide +kernel, rfl, by decide +kernel, by decide +kernel⟩
theorem ok_Builder_init {f : Addr} {fd : FuncData} (F : FnP K "__init__" "Builder.__init__" s_Builder_init f fd) (T : Txt K mg) : FnOk P w K mg base CX0 1 f fd ["self"] (sp_Builder_init K) := by
  refine F.ok sc_Builder_init (fun vs H Q E h => len_Builder_init h) (fun cdv A outer s H vs Q E hr h => ⟨(t_Builder_init_0 K), PSs.nox ?_, r_Builder_init T.k_Builder h⟩)
  exact (pss_cons (ps_fld (pv 0) (pe_lst pa_nil) rfl)
      (pss_cons (ps_fld (pv 0) pe_bl rfl)
      (pss_one (ps_fld (pv 0) pe_non rfl))))
theorem sc_Builder_put : FnScope ["self", "value"] ["self", "value"] (defScope s_Builder_put) := ⟨rfl, rfl, rfl, by decide +kernel, rfl, by decide +kernel, by decide +kernel⟩
theorem ok_Builder_put {f : Addr} {fd : FuncData} (F : FnP K "put" "Builder.put" s_Builder_put f fd) (T : Txt K mg) (c_Frame_put : CalA P w K mg base 1 (mA "Frame" "put" K) (sp_Frame_put K)) : FnOk P w K mg base CX0 2 f fd ["self", "value"] (sp_Builder_put K) := by
  obtain ⟨_, _, G_Frame_put, b_Frame_put⟩ := c_Frame_put.ex
  refine F.ok sc_Builder_put (fun vs H Q E h => len_Builder_put h) (fun cdv A outer s H vs Q E hr h => ⟨(t_Builder_put_0 K), PSs.nox ?_, r_Builder_put T.k_Builder T.k_Frame h⟩)
  have hu64 := hr.units
  have hu65 := Fa.Room.units65 hr
  have hu200 := Fa.Room.units200 hr
  have hu := hu_of hr
  exact (pss_one (ps_if (pt_cmpR (op_eqU hu200) (pe_callB call_lenU (by rfl) T.z_len (by decide +kernel) (pa_cons (pe_fld (pv 0) rfl) pa_nil)) pe_int (nomark _)) (pss_cons (ps_fld (pv 0) (pv 1) rfl)
      (pss_one (ps_fld (pv 0) pe_bl rfl))) (pss_one (ps_expr (pe_meth (pe_ix ix_U (pe_fld (pv 0) rfl) (pe_un un_neg pe_int) (fun _ _ => rfl)) T.k_Frame.cl T.m_Frame_put G_Frame_put (hr.mono (by decide)) b_Frame_put .nil pass0 (pa_cons (pv 1) pa_nil))))))
theorem sc_Builder_take : FnScope ["self", "event", "frame"] ["self", "event"] (defScope s_Builder_take) := ⟨rfl, rfl, rfl, by decide +kernel, rfl, by decide +kernel, by decide +kernel⟩
theorem ok_Builder_take {f : Addr} {fd : FuncData} (F : FnP K "take" "Builder.take" s_Builder_take f fd) (T : Txt K mg) (c_Builder_put : CalA P w K mg base 2 (mA "Builder" "put" K) (sp_Builder_put K)) (c_Frame_init : CalA P w K mg base 1 (mA "Frame" "__init__" K) (sp_Frame_init K)) (c_Frame_whole : CalA P w K mg base 2 (mA "Frame" "whole" K) (sp_Frame_whole K)) : FnOk P w K mg base CX0 3 f fd ["self", "event"] (sp_Builder_take K) := by
  obtain ⟨_, _, G_Builder_put, b_Builder_put⟩ := c_Builder_put.ex
  obtain ⟨_, _, G_Frame_init, b_Frame_init⟩ := c_Frame_init.ex
  obtain ⟨_, _, G_Frame_whole, b_Frame_whole⟩ := c_Frame_whole.ex
  refine F.ok sc_Builder_take (fun vs H Q E h => len_Builder_take h) (fun cdv A outer s H vs Q E hr h => ⟨(t_Builder_take_0 K), PSs.nox ?_, r_Builder_take T.k_Builder T.k_Frame h⟩)
  have hu64 := hr.units
  have hu65 := Fa.Room.units65 hr
  have hu200 := Fa.Room.units200 hr
  have hu := hu_of hr
  exact (pss_one (ps_if (pt_cmpR (op_eqU hu200) (pe_ix ix_U (pv 1) pe_int (fun _ _ => rfl)) pe_str (nomark _)) (pss_one (ps_expr (pe_bm PySem.F.plainAttrs_list PySem.F.slot_list_append PySem.F.type_list_append mt_append (pe_fld (pv 0) rfl) (pa_cons (pe_make T.i_Frame G_Frame_init (hr.mono (by decide)) (by rfl) T.g_Frame b_Frame_init .nil pass0 (pa_cons (pe_ix ix_U (pv 1) pe_int (fun _ _ => rfl)) pa_nil)) pa_nil)))) (pss_one (ps_if (pt_cmpR (op_eqU hu200) (pe_ix ix_U (pv 1) pe_int (fun _ _ => rfl)) pe_str (nomark _)) (pss_one (ps_fld (pe_ix ix_U (pe_fld (pv 0) rfl) (pe_un un_neg pe_int) (fun _ _ => rfl)) (pe_ix ix_U (pv 1) pe_int (fun _ _ => rfl)) rfl)) (pss_one (ps_if (pt_cmpR (op_eqU hu200) (pe_ix ix_U (pv 1) pe_int (fun _ _ => rfl)) pe_str (nomark _)) (pss_one (ps_expr (pe_meth (pv 0) T.k_Builder.cl T.m_Builder_put G_Builder_put (hr.mono (by decide)) b_Builder_put .nil pass0 (pa_cons (pe_ix ix_U (pv 1) pe_int (fun _ _ => rfl)) pa_nil)))) (pss_cons (ps_set (i := 2) sc_Builder_take.nd rfl (Or.inl rfl) (pe_bm0 PySem.F.plainAttrs_list PySem.F.slot_list_pop PySem.F.type_list_pop mt_pop (pe_fld (pv 0) rfl)))
      (pss_one (ps_expr (pe_meth (pv 0) T.k_Builder.cl T.m_Builder_put G_Builder_put (hr.mono (by decide)) b_Builder_put .nil pass0 (pa_cons (pe_meth0 (pv 2) T.k_Frame.cl T.m_Frame_whole G_Frame_whole (hr.mono (by decide)) b_Frame_whole .nil pass0) pa_nil)))))))))))
theorem sc__law_cell : FnScope ["_law_script", "_law_k"] ["_law_script", "_law_k"] (defScope s__law_cell) := ⟨rfl, rfl, rfl, by decide +kernel, rfl, by decide +kernel, by decide +kernel⟩
theorem ok__law_cell {f : Addr} {fd : FuncData} (F : FnP K "_law_cell" "_law_cell" s__law_cell f fd) (T : Txt K mg) : FnOk P w K mg base CX0 1 f fd ["_law_script", "_law_k"] (sp__law_cell K) := by
  refine F.ok sc__law_cell (fun vs H Q E h => len__law_cell h) (fun cdv A outer s H vs Q E hr h => ⟨(t__law_cell_0 K), PSs.nox ?_, r__law_cell h⟩)
  have hu64 := hr.units
  have hu65 := Fa.Room.units65 hr
  have hu200 := Fa.Room.units200 hr
  have hu := hu_of hr
  exact (pss_cons (ps_if (pt_cmpR (op_ltU hu64) (pv 1) (pe_callB call_lenU (by rfl) T.z_len (by decide +kernel) (pa_cons (pv 0) pa_nil)) (nomark _)) (pss_one (ps_ret (pe_ix ix_U (pv 0) (pv 1) (fun _ _ => rfl)))) pss_nil)
      (pss_one (ps_ret pe_int)))
theorem sc__law_numbers : FnScope ["_law_cell_here", "_law_many", "_law_rest", "_law_size", "_law_numbers_here", "_law_k", "_law_mixed_here"] ["_law_cell_here", "_law_many"] (defScope s__law_numbers) := ⟨rfl, rfl, rfl, by decide +kernel, rfl, by decide +kernel, by decide +kernel⟩
theorem ok__law_numbers {f : Addr} {fd : FuncData} (F : FnP K "_law_numbers" "_law_numbers" s__law_numbers f fd) (T : Txt K mg) : FnOk P w K mg base CX0 1 f fd ["_law_cell_here", "_law_many"] (sp__law_numbers K) := by
  refine F.ok sc__law_numbers (fun vs H Q E h => len__law_numbers h) (fun cdv A outer s H vs Q E hr h => ⟨(t__law_numbers_0 K), PSs.nox ?_, r__law_numbers h⟩)
  have hu64 := hr.units
  have hu65 := Fa.Room.units65 hr
  have hu200 := Fa.Room.units200 hr
  have hu := hu_of hr
  exact (pss_cons (ps_set (i := 2) sc__law_numbers.nd rfl (Or.inl rfl) (pe_callB call_abs (by rfl) T.z_abs (by decide +kernel) (pa_cons (pv 0) pa_nil)))
      (pss_cons (ps_set (i := 3) sc__law_numbers.nd rfl (Or.inl rfl) (pv 2))
      (pss_cons (ps_set (i := 4) sc__law_numbers.nd rfl (Or.inl rfl) (pe_lst pa_nil))
      (pss_cons (ps_for PassesOwn.never rfl (pi_range1 (by rfl) T.z_range (pa_cons (pv 1) pa_nil)) (pg_name (i := 5) sc__law_numbers.nd rfl (Or.inl rfl)) (pss_one (ps_if (PW.pt (pw_and (pt_cmpR op_ge (pv 3) (pe_op op_pow pe_int pe_int) (nomark _)) (pw_and1 (pt_cmpR op_gt (pv 2) pe_int (nomark _))))) (pss_cons (ps_expr (pe_bm PySem.F.plainAttrs_list PySem.F.slot_list_append PySem.F.type_list_append mt_append (pv 4) (pa_cons (pe_op op_mod (pe_callTy call_int1 (by rfl) T.z_int (by decide +kernel) (pa_cons (pv 2) pa_nil)) pe_int) pa_nil)))
      (pss_one (ps_set (i := 2) sc__law_numbers.nd rfl (Or.inl rfl) (pe_op op_divU (pv 2) pe_int)))) (pss_cons (ps_set (i := 6) sc__law_numbers.nd rfl (Or.inl rfl) (pe_op op_mod (pe_callTy call_int1 (by rfl) T.z_int (by decide +kernel) (pa_cons (pe_op op_addU (pe_op op_addU (pe_op op_mulU (pv 3) pe_int) (pe_op op_mulU (pv 5) pe_int)) pe_int) pa_nil)) pe_int))
      (pss_cons (ps_set (i := 6) sc__law_numbers.nd rfl (Or.inl rfl) (pe_op op_mod (pe_callTy call_int1 (by rfl) T.z_int (by decide +kernel) (pa_cons (pe_op op_addU (pe_op op_addU (pe_op op_mulU (pv 6) (pv 6)) (pe_op op_mulU pe_int (pv 5))) pe_int) pa_nil)) pe_int))
      (pss_one (ps_expr (pe_bm PySem.F.plainAttrs_list PySem.F.slot_list_append PySem.F.type_list_append mt_append (pv 4) (pa_cons (pe_op op_mod (pe_callTy call_int1 (by rfl) T.z_int (by decide +kernel) (pa_cons (pe_op op_divU (pv 6) pe_int) pa_nil)) pe_int) pa_nil)))))))))
      (pss_one (ps_ret (pv 4)))))))
theorem sc__law_state : FnScope ["_law_script", "_law_left", "_law_numbers_here", "_law_parted", "_law_k"] ["_law_script", "_law_left"] (defScope s__law_state) := ⟨rfl, rfl, rfl, by decide +kernel, rfl, by decide +kernel, by decide +kernel⟩
theorem ok__law_state {f : Addr} {fd : FuncData} (F : FnP K "_law_state" "_law_state" s__law_state f fd) (T : Txt K mg) (c__law_cell : Cal P w K mg base 1 "_law_cell" (sp__law_cell K)) (c__law_numbers : Cal P w K mg base 1 "_law_numbers" (sp__law_numbers K)) : FnOk P w K mg base CX0 2 f fd ["_law_script", "_law_left"] (sp__law_state K) := by
  refine F.ok sc__law_state (fun vs H Q E h => len__law_state h) (fun cdv A outer s H vs Q E hr h => ⟨(t__law_state_0 K), PSs.nox ?_, r__law_state h⟩)
  exact (pss_cons (ps_set (i := 2) sc__law_state.nd rfl (Or.inl rfl) (pe_lst pa_nil))
      (pss_cons (ps_setLc (i := 3) (own := [("_law_k", 4)]) (g := (gName 4)) (tt := tYes) (te := (tCall (sp__law_numbers K) [] E0 (tCons (tCall (sp__law_cell K) [] E0 (tCons (tVar 0) (tCons (tVar 4) tNil))) (tCons (tC (.int 40)) tNil)))) (wi := (iRng1 (tCons (tC (.int 3)) tNil))) rfl sc__law_state.nd rfl rfl (sw_true rfl rfl rfl (by decide +kernel)) (pi_range1 (by rfl) T.z_range (pa_cons pe_int pa_nil)) (blkOk_by (N := ["_law_script", "_law_left", "_law_numbers_here", "_law_parted", "_law_k"]) (sc := defScope s__law_state) (by decide +kernel)) (fun _ _ _ _ _ => (pg_name (i := 4) sc__law_state.nd rfl (Or.inl rfl))) (fun _ _ _ _ _ => pts_nil) (fun _ _ _ _ _ => (pe_callC c__law_numbers (hr.mono (by decide)) (by rfl) (pa_cons (pe_callC c__law_cell (hr.mono (by decide)) (by rfl) (pa_cons (pv 0) (pa_cons (pv 4) pa_nil))) (pa_cons pe_int pa_nil)))))
      (pss_cons (ps_for PassesOwn.never rfl (pi_range1 (by rfl) T.z_range (pa_cons pe_int pa_nil)) (pg_name (i := 4) sc__law_state.nd rfl (Or.inl rfl)) (pss_cons (ps_expr (pe_bm PySem.F.plainAttrs_list PySem.F.slot_list_append PySem.F.type_list_append mt_append (pv 2) (pa_cons (pe_ix ix_U (pe_ix ix_U (pv 3) pe_int (fun _ _ => rfl)) (pv 4) (fun _ _ => rfl)) pa_nil)))
      (pss_cons (ps_expr (pe_bm PySem.F.plainAttrs_list PySem.F.slot_list_append PySem.F.type_list_append mt_append (pv 2) (pa_cons (pe_ix ix_U (pe_ix ix_U (pv 3) pe_int (fun _ _ => rfl)) (pv 4) (fun _ _ => rfl)) pa_nil)))
      (pss_one (ps_expr (pe_bm PySem.F.plainAttrs_list PySem.F.slot_list_append PySem.F.type_list_append mt_append (pv 2) (pa_cons (pe_ix ix_U (pe_ix ix_U (pv 3) pe_int (fun _ _ => rfl)) (pv 4) (fun _ _ => rfl)) pa_nil)))))))
      (pss_one (ps_ret (pe_lst (pa_cons (pv 2) (pa_cons pe_int (pa_cons (pv 1) (pa_cons (pv 0) (pa_cons pe_int pa_nil)))))))))))
theorem sc__law_next : FnScope ["_law_state_here", "_law_many", "_law_at"] ["_law_state_here", "_law_many"] (defScope s__law_next) := ⟨rfl, rfl, rfl, by decide +kernel, rfl, by decide +kernel, by decide +kernel⟩
theorem ok__law_next {f : Addr} {fd : FuncData} (F : FnP K "_law_next" "_law_next" s__law_next f fd) (T : Txt K mg) : FnOk P w K mg base CX0 1 f fd ["_law_state_here", "_law_many"] (sp__law_next K) := by
  refine F.ok sc__law_next (fun vs H Q E h => len__law_next h) (fun cdv A outer s H vs Q E hr h => ⟨(t__law_next_0 K), PSs.nox ?_, r__law_next h⟩)
  exact (pss_cons (ps_set (i := 2) sc__law_next.nd rfl (Or.inl rfl) (pe_ix ix_U (pv 0) pe_int (fun _ _ => rfl)))
      (pss_cons (ps_asg (pe_op op_addU (pv 2) pe_int) (pg_sub (pv 0) pe_int set_list))
      (pss_one (ps_ret (pe_op op_mod (pe_callTy call_int1 (by rfl) T.z_int (by decide +kernel) (pa_cons (pe_op op_addU (pe_ix ix_U (pe_ix ix_U (pv 0) pe_int (fun _ _ => rfl)) (pe_op op_mod (pv 2) pe_int) (fun _ _ => rfl)) (pe_op op_mulU pe_int (pe_op op_divU (pv 2) pe_int))) pa_nil)) (pv 1))))))
theorem sc__law_big : FnScope ["_law_state_here", "_law_many", "_law_cell_here"] ["_law_state_here", "_law_many"] (defScope s__law_big) := ⟨rfl, rfl, rfl, by decide +kernel, rfl, by decide +kernel, by decide +kernel⟩
theorem ok__law_big {f : Addr} {fd : FuncData} (F : FnP K "_law_big" "_law_big" s__law_big f fd) (T : Txt K mg) (c__law_cell : Cal P w K mg base 1 "_law_cell" (sp__law_cell K)) (c__law_next : Cal P w K mg base 1 "_law_next" (sp__law_next K)) : FnOk P w K mg base CX0 2 f fd ["_law_state_here", "_law_many"] (sp__law_big K) := by
  refine F.ok sc__law_big (fun vs H Q E h => len__law_big h) (fun cdv A outer s H vs Q E hr h => ⟨(t__law_big_0 K), PSs.nox ?_, r__law_big h⟩)
  exact (pss_cons (ps_set (i := 2) sc__law_big.nd rfl (Or.inl rfl) (pe_callB call_abs (by rfl) T.z_abs (by decide +kernel) (pa_cons (pe_callC c__law_cell (hr.mono (by decide)) (by rfl) (pa_cons (pe_ix ix_U (pv 0) pe_int (fun _ _ => rfl)) (pa_cons (pe_op op_addU pe_int (pe_callC c__law_next (hr.mono (by decide)) (by rfl) (pa_cons (pv 0) (pa_cons pe_int pa_nil)))) pa_nil))) pa_nil)))
      (pss_one (ps_ret (pe_op op_mod (pe_callTy call_int1 (by rfl) T.z_int (by decide +kernel) (pa_cons (pe_op op_addU (pe_op op_mulU (pv 2) pe_int) (pe_callC c__law_next (hr.mono (by decide)) (by rfl) (pa_cons (pv 0) (pa_cons pe_int pa_nil)))) pa_nil)) (pv 1)))))
theorem sc__law_normal : FnScope ["_law_m", "_law_e", "_law_k"] ["_law_m", "_law_e"] (defScope s__law_normal) := ⟨rfl, rfl, rfl, by decide +kernel, rfl, by decide +kernel, by decide +kernel⟩
theorem ok__law_normal {f : Addr} {fd : FuncData} (F : FnP K "_law_normal" "_law_normal" s__law_normal f fd) (T : Txt K mg) : FnOk P w K mg base CX0 1 f fd ["_law_m", "_law_e"] (sp__law_normal K) := by
  refine F.ok sc__law_normal (fun vs H Q E h => len__law_normal h) (fun cdv A outer s H vs Q E hr h => ⟨(t__law_normal_0 K), PSs.nox ?_, r__law_normal h⟩)
  have hu64 := hr.units
  have hu65 := Fa.Room.units65 hr
  have hu200 := Fa.Room.units200 hr
  have hu := hu_of hr
  exact (pss_cons (ps_if (pt_cmpR (op_eqU hu200) (pv 0) pe_int (nomark _)) (pss_one (ps_ret (pe_tup (pa_cons pe_int (pa_cons pe_int pa_nil))))) pss_nil)
      (pss_cons (ps_for PassesOwn.never rfl (pi_range1 (by rfl) T.z_range (pa_cons pe_int pa_nil)) (pg_name (i := 2) sc__law_normal.nd rfl (Or.inl rfl)) (pss_cons (ps_if (pt_cmpR (op_neU hu200) (pe_op op_mod (pv 0) pe_int) pe_int (nomark _)) (pss_one (ps_ret (pe_tup (pa_cons (pv 0) (pa_cons (pv 1) pa_nil))))) pss_nil)
      (pss_cons (ps_set (i := 0) sc__law_normal.nd rfl (Or.inl rfl) (pe_op op_divU (pv 0) pe_int))
      (pss_one (ps_set (i := 1) sc__law_normal.nd rfl (Or.inl rfl) (pe_op op_addU (pv 1) pe_int))))))
      (pss_one (ps_ret (pe_tup (pa_cons (pv 0) (pa_cons (pv 1) pa_nil)))))))
theorem sc__law_number : FnScope ["_law_state_here", "_law_pick", "_law_m", "_law_e", "_law_edges", "_law_power", "_law_k"] ["_law_state_here"] (defScope s__law_number) := ⟨rfl, rfl, rfl, by decide +kernel, rfl, by decide +kernel, by decide +kernel⟩
theorem ok__law_number {f : Addr} {fd : FuncData} (F : FnP K "_law_number" "_law_number" s__law_number f fd) (T : Txt K mg) (c__law_big : Cal P w K mg base 2 "_law_big" (sp__law_big K)) (c__law_next : Cal P w K mg base 1 "_law_next" (sp__law_next K)) (c__law_normal : Cal P w K mg base 1 "_law_normal" (sp__law_normal K)) : FnOk P w K mg base CX0 3 f fd ["_law_state_here"] (sp__law_number K) := by
  refine F.ok sc__law_number (fun vs H Q E h => len__law_number h) (fun cdv A outer s H vs Q E hr h => ⟨(t__law_number_0 K), PSs.nox ?_, r__law_number h⟩)
  have hu64 := hr.units
  have hu65 := Fa.Room.units65 hr
  have hu200 := Fa.Room.units200 hr
  have hu := hu_of hr
  exact (pss_cons (ps_set (i := 1) sc__law_number.nd rfl (Or.inl rfl) (pe_callC c__law_next (hr.mono (by decide)) (by rfl) (pa_cons (pv 0) (pa_cons pe_int pa_nil))))
      (pss_cons (ps_set (i := 2) sc__law_number.nd rfl (Or.inl rfl) (pe_callC c__law_next (hr.mono (by decide)) (by rfl) (pa_cons (pv 0) (pa_cons pe_int pa_nil))))
      (pss_cons (ps_set (i := 3) sc__law_number.nd rfl (Or.inl rfl) pe_int)
      (pss_cons (ps_if (pt_cmpR (op_inU hu65) (pv 1) (pe_lst (pa_cons pe_int (pa_cons pe_int pa_nil))) rfl) (pss_cons (ps_set (i := 4) sc__law_number.nd rfl (Or.inl rfl) (pe_lst (pa_cons pe_int (pa_cons pe_int (pa_cons pe_int (pa_cons pe_int (pa_cons pe_int (pa_cons pe_int (pa_cons pe_int (pa_cons pe_int (pa_cons (pe_op op_pow pe_int pe_int) (pa_cons (pe_op op_pow pe_int pe_int) (pa_cons (pe_op op_pow pe_int pe_int) (pa_cons (pe_op op_pow pe_int pe_int) (pa_cons (pe_op op_pow pe_int pe_int) pa_nil)))))))))))))))
      (pss_one (ps_set (i := 2) sc__law_number.nd rfl (Or.inl rfl) (pe_op op_sub (pe_op op_addU (pe_ix ix_U (pv 4) (pe_callC c__law_next (hr.mono (by decide)) (by rfl) (pa_cons (pv 0) (pa_cons pe_int pa_nil))) (fun _ _ => rfl)) (pe_callC c__law_next (hr.mono (by decide)) (by rfl) (pa_cons (pv 0) (pa_cons pe_int pa_nil)))) pe_int)))) (pss_one (ps_if (pt_cmpR (op_inU hu65) (pv 1) (pe_lst (pa_cons pe_int (pa_cons pe_int (pa_cons pe_int pa_nil)))) rfl) (pss_cons (ps_set (i := 2) sc__law_number.nd rfl (Or.inl rfl) (pe_callC c__law_next (hr.mono (by decide)) (by rfl) (pa_cons (pv 0) (pa_cons pe_int pa_nil))))
      (pss_one (ps_set (i := 3) sc__law_number.nd rfl (Or.inl rfl) (pe_op op_sub (pe_callC c__law_next (hr.mono (by decide)) (by rfl) (pa_cons (pv 0) (pa_cons pe_int pa_nil))) pe_int)))) (pss_one (ps_if (pt_cmpR (op_eqU hu200) (pv 1) pe_int (nomark _)) (pss_cons (ps_set (i := 2) sc__law_number.nd rfl (Or.inl rfl) (pe_op op_addU pe_int (pe_callC c__law_next (hr.mono (by decide)) (by rfl) (pa_cons (pv 0) (pa_cons pe_int pa_nil)))))
      (pss_one (ps_set (i := 3) sc__law_number.nd rfl (Or.inl rfl) (pe_ix ix_U (pe_lst (pa_cons pe_int (pa_cons pe_int (pa_cons pe_int (pa_cons pe_int (pa_cons pe_int (pa_cons pe_int (pa_cons pe_int (pa_cons pe_int (pa_cons (pe_un un_neg pe_int) (pa_cons (pe_un un_neg pe_int) pa_nil))))))))))) (pe_callC c__law_next (hr.mono (by decide)) (by rfl) (pa_cons (pv 0) (pa_cons pe_int pa_nil))) (fun _ _ => rfl))))) (pss_one (ps_if (pt_cmpR op_gt (pv 1) pe_int (nomark _)) (pss_cons (ps_set (i := 5) sc__law_number.nd rfl (Or.inl rfl) pe_int)
      (pss_cons (ps_for PassesOwn.never rfl (pi_range1 (by rfl) T.z_range (pa_cons (pe_callC c__law_next (hr.mono (by decide)) (by rfl) (pa_cons (pv 0) (pa_cons pe_int pa_nil))) pa_nil)) (pg_name (i := 6) sc__law_number.nd rfl (Or.inl rfl)) (pss_one (ps_set (i := 5) sc__law_number.nd rfl (Or.inl rfl) (pe_op op_mulU (pv 5) pe_int))))
      (pss_cons (ps_set (i := 2) sc__law_number.nd rfl (Or.inl rfl) (pe_callC c__law_big (hr.mono (by decide)) (by rfl) (pa_cons (pv 0) (pa_cons (pv 5) pa_nil))))
      (pss_cons (ps_set (i := 3) sc__law_number.nd rfl (Or.inl rfl) (pe_op op_sub (pe_callC c__law_next (hr.mono (by decide)) (by rfl) (pa_cons (pv 0) (pa_cons pe_int pa_nil))) pe_int))
      (pss_one (ps_if (PW.pt (pw_and (pt_cmpR (op_eqU hu200) (pv 1) pe_int (nomark _)) (pw_and1 (pt_cmpR op_gt (pe_ix ix_U (pv 0) pe_int (fun _ _ => rfl)) pe_int (nomark _))))) (pss_cons (ps_asg (pe_op op_sub (pe_ix ix_U (pv 0) pe_int (fun _ _ => rfl)) pe_int) (pg_sub (pv 0) pe_int set_list))
      (pss_one (ps_for PassesOwn.never rfl (pi_range1 (by rfl) T.z_range (pa_cons (pe_callC c__law_next (hr.mono (by decide)) (by rfl) (pa_cons (pv 0) (pa_cons pe_int pa_nil))) pa_nil)) (pg_name (i := 6) sc__law_number.nd rfl (Or.inl rfl)) (pss_one (ps_set (i := 2) sc__law_number.nd rfl (Or.inl rfl) (pe_op op_addU (pe_op op_mulU (pv 2) (pe_op op_addU (pe_op op_pow pe_int pe_int) pe_int)) (pe_callC c__law_next (hr.mono (by decide)) (by rfl) (pa_cons (pv 0) (pa_cons pe_int pa_nil))))))))) pss_nil)))))) pss_nil)))))))
      (pss_cons (ps_asg (pe_callC c__law_normal (hr.mono (by decide)) (by rfl) (pa_cons (pe_ix ix_U (pe_lst (pa_cons (pv 2) (pa_cons (pe_un un_neg (pv 2)) pa_nil))) (pe_callC c__law_next (hr.mono (by decide)) (by rfl) (pa_cons (pv 0) (pa_cons pe_int pa_nil))) (fun _ _ => rfl)) (pa_cons (pv 3) pa_nil))) (pg_tup rfl (pgs_cons (pg_name (i := 2) sc__law_number.nd rfl (Or.inl rfl)) (pgs_cons (pg_name (i := 3) sc__law_number.nd rfl (Or.inl rfl)) pgs_nil))))
      (pss_one (ps_ret (pe_tup (pa_cons pe_str (pa_cons (pv 2) (pa_cons (pv 3) pa_nil)))))))))))
theorem sc__law_points : FnScope ["_law_state_here", "_law_menu", "_law_many", "_law_points_here", "_law_k", "_law_pick", "_law_point"] ["_law_state_here"] (defScope s__law_points) := ⟨rfl, rfl, rfl, by decide +kernel, rfl, by decide +kernel, by decide +kernel⟩
theorem ok__law_points {f : Addr} {fd : FuncData} (F : FnP K "_law_points" "_law_points" s__law_points f fd) (T : Txt K mg) (c__law_next : Cal P w K mg base 1 "_law_next" (sp__law_next K)) : FnOk P w K mg base CX0 2 f fd ["_law_state_here"] (sp__law_points K) := by
  refine F.ok sc__law_points (fun vs H Q E h => len__law_points h) (fun cdv A outer s H vs Q E hr h => ⟨(t__law_points_0 K), PSs.nox ?_, r__law_points h⟩)
  have hu64 := hr.units
  have hu65 := Fa.Room.units65 hr
  have hu200 := Fa.Room.units200 hr
  have hu := hu_of hr
  exact (pss_cons (ps_set (i := 1) sc__law_points.nd rfl (Or.inl rfl) (pe_lst (pa_cons pe_int (pa_cons pe_int (pa_cons pe_int (pa_cons pe_int (pa_cons pe_int (pa_cons pe_int (pa_cons pe_int (pa_cons pe_int (pa_cons pe_int (pa_cons pe_int (pa_cons pe_int (pa_cons pe_int pa_nil))))))))))))))
      (pss_cons (ps_set (i := 2) sc__law_points.nd rfl (Or.inl rfl) (pe_callC c__law_next (hr.mono (by decide)) (by rfl) (pa_cons (pv 0) (pa_cons pe_int pa_nil))))
      (pss_cons (ps_if (PW.pt (pw_and (pt_cmpR op_gt (pe_ix ix_U (pv 0) pe_int (fun _ _ => rfl)) pe_int (nomark _)) (pw_and1 (pt_cmpR (op_eqU hu200) (pe_callC c__law_next (hr.mono (by decide)) (by rfl) (pa_cons (pv 0) (pa_cons pe_int pa_nil))) pe_int (nomark _))))) (pss_cons (ps_asg (pe_op op_sub (pe_ix ix_U (pv 0) pe_int (fun _ _ => rfl)) pe_int) (pg_sub (pv 0) pe_int set_list))
      (pss_one (ps_set (i := 2) sc__law_points.nd rfl (Or.inl rfl) (pe_op op_addU pe_int (pe_callC c__law_next (hr.mono (by decide)) (by rfl) (pa_cons (pv 0) (pa_cons pe_int pa_nil))))))) pss_nil)
      (pss_cons (ps_set (i := 3) sc__law_points.nd rfl (Or.inl rfl) (pe_lst pa_nil))
      (pss_cons (ps_for PassesOwn.never rfl (pi_range1 (by rfl) T.z_range (pa_cons (pv 2) pa_nil)) (pg_name (i := 4) sc__law_points.nd rfl (Or.inl rfl)) (pss_cons (ps_set (i := 5) sc__law_points.nd rfl (Or.inl rfl) (pe_callC c__law_next (hr.mono (by decide)) (by rfl) (pa_cons (pv 0) (pa_cons pe_int pa_nil))))
      (pss_cons (ps_set (i := 6) sc__law_points.nd rfl (Or.inl rfl) (pe_op op_addU pe_int (pe_callC c__law_next (hr.mono (by decide)) (by rfl) (pa_cons (pv 0) (pa_cons pe_int pa_nil)))))
      (pss_cons (ps_if (pt_cmpR (op_eqU hu200) (pv 5) pe_int (nomark _)) (pss_one (ps_set (i := 6) sc__law_points.nd rfl (Or.inl rfl) (pe_ix ix_U (pv 1) (pe_callC c__law_next (hr.mono (by decide)) (by rfl) (pa_cons (pv 0) (pa_cons pe_int pa_nil))) (fun _ _ => rfl)))) pss_nil)
      (pss_cons (ps_if (pt_cmpR (op_eqU hu200) (pv 5) pe_int (nomark _)) (pss_one (ps_set (i := 6) sc__law_points.nd rfl (Or.inl rfl) (pe_callC c__law_next (hr.mono (by decide)) (by rfl) (pa_cons (pv 0) (pa_cons pe_int pa_nil))))) pss_nil)
      (pss_cons (ps_if (pt_cmpR (op_eqU hu200) (pv 5) pe_int (nomark _)) (pss_cons (ps_set (i := 6) sc__law_points.nd rfl (Or.inl rfl) (pe_op op_addU (pe_op op_mulU pe_int (pe_callC c__law_next (hr.mono (by decide)) (by rfl) (pa_cons (pv 0) (pa_cons pe_int pa_nil)))) (pe_callC c__law_next (hr.mono (by decide)) (by rfl) (pa_cons (pv 0) (pa_cons pe_int pa_nil)))))
      (pss_one (ps_set (i := 6) sc__law_points.nd rfl (Or.inl rfl) (pe_op op_addU (pv 6) (pe_op op_mulU pe_int (pe_callTy call_int1 (by rfl) T.z_int (by decide +kernel) (pa_cons (pe_cmpR op_gt (pv 6) pe_int (nomark _)) pa_nil))))))) pss_nil)
      (pss_one (ps_expr (pe_bm PySem.F.plainAttrs_list PySem.F.slot_list_append PySem.F.type_list_append mt_append (pv 3) (pa_cons (pv 6) pa_nil))))))))))
      (pss_one (ps_ret (pe_callTy call_tuple_of (by rfl) T.z_tuple (by decide +kernel) (pa_cons (pv 3) pa_nil)))))))))
theorem sc__law_octets : FnScope ["_law_state_here", "_law_many", "_law_low", "_law_span", "_law_k"] ["_law_state_here"] (defScope s__law_octets) := ⟨rfl, rfl, rfl, by decide +kernel, rfl, by decide +kernel, by decide +kernel⟩
theorem ok__law_octets {f : Addr} {fd : FuncData} (F : FnP K "_law_octets" "_law_octets" s__law_octets f fd) (T : Txt K mg) (c__law_next : Cal P w K mg base 1 "_law_next" (sp__law_next K)) : FnOk P w K mg base CX0 2 f fd ["_law_state_here"] (sp__law_octets K) := by
  refine F.ok sc__law_octets (fun vs H Q E h => len__law_octets h) (fun cdv A outer s H vs Q E hr h => ⟨(t__law_octets_0 K), PSs.nox ?_, r__law_octets h⟩)
  have hu64 := hr.units
  have hu65 := Fa.Room.units65 hr
  have hu200 := Fa.Room.units200 hr
  have hu := hu_of hr
  exact (pss_cons (ps_set (i := 1) sc__law_octets.nd rfl (Or.inl rfl) (pe_callC c__law_next (hr.mono (by decide)) (by rfl) (pa_cons (pv 0) (pa_cons pe_int pa_nil))))
      (pss_cons (ps_if (PW.pt (pw_and (pt_cmpR op_gt (pe_ix ix_U (pv 0) pe_int (fun _ _ => rfl)) pe_int (nomark _)) (pw_and1 (pt_cmpR (op_eqU hu200) (pe_callC c__law_next (hr.mono (by decide)) (by rfl) (pa_cons (pv 0) (pa_cons pe_int pa_nil))) pe_int (nomark _))))) (pss_cons (ps_asg (pe_op op_sub (pe_ix ix_U (pv 0) pe_int (fun _ _ => rfl)) pe_int) (pg_sub (pv 0) pe_int set_list))
      (pss_one (ps_set (i := 1) sc__law_octets.nd rfl (Or.inl rfl) (pe_op op_addU pe_int (pe_callC c__law_next (hr.mono (by decide)) (by rfl) (pa_cons (pv 0) (pa_cons pe_int pa_nil))))))) pss_nil)
      (pss_cons (ps_asg (pe_ix ix_U (pe_lst (pa_cons (pe_tup (pa_cons pe_int (pa_cons pe_int pa_nil))) (pa_cons (pe_tup (pa_cons pe_int (pa_cons pe_int pa_nil))) (pa_cons (pe_tup (pa_cons pe_int (pa_cons pe_int pa_nil))) pa_nil)))) (pe_callC c__law_next (hr.mono (by decide)) (by rfl) (pa_cons (pv 0) (pa_cons pe_int pa_nil))) (fun _ _ => rfl)) (pg_tup rfl (pgs_cons (pg_name (i := 2) sc__law_octets.nd rfl (Or.inr rfl)) (pgs_cons (pg_name (i := 3) sc__law_octets.nd rfl (Or.inr rfl)) pgs_nil))))
      (pss_one (ps_ret (pe_callTy call_tuple_of (by rfl) T.z_tuple (by decide +kernel) (pa_cons (pe_lc (own := [("_law_k", 4)]) (g := (gName 4)) (tt := tYes) (te := (tOp (rAddU K) (tVar 2) (tCall (sp__law_next K) [] E0 (tCons (tVar 0) (tCons (tVar 3) tNil))))) (wi := (iRng1 (tCons (tVar 1) tNil))) rfl sc__law_octets.nd (pi_range1 (by rfl) T.z_range (pa_cons (pv 1) pa_nil)) (blkOk_by (N := ["_law_state_here", "_law_many", "_law_low", "_law_span", "_law_k"]) (sc := defScope s__law_octets) (by decide +kernel)) (fun _ _ _ _ _ => (pg_name (i := 4) sc__law_octets.nd rfl (Or.inl rfl))) (fun _ _ _ _ _ => pts_nil) (fun _ _ _ _ _ => (pe_op op_addU (pv 2) (pe_callC c__law_next (hr.mono (by decide)) (by rfl) (pa_cons (pv 0) (pa_cons (pv 3) pa_nil)))))) pa_nil)))))))
theorem sc__law_leaf : FnScope ["_law_state_here", "_law_kinds", "_law_kind"] ["_law_state_here", "_law_kinds"] (defScope s__law_leaf) := ⟨rfl, rfl, rfl, by decide +kernel, rfl, by decide +kernel, by decide +kernel⟩
theorem ok__law_leaf {f : Addr} {fd : FuncData} (F : FnP K "_law_leaf" "_law_leaf" s__law_leaf f fd) (T : Txt K mg) (c__law_next : Cal P w K mg base 1 "_law_next" (sp__law_next K)) (c__law_number : Cal P w K mg base 3 "_law_number" (sp__law_number K)) (c__law_octets : Cal P w K mg base 2 "_law_octets" (sp__law_octets K)) (c__law_points : Cal P w K mg base 2 "_law_points" (sp__law_points K)) : FnOk P w K mg base CX0 4 f fd ["_law_state_here", "_law_kinds"] (sp__law_leaf K) := by
  refine F.ok sc__law_leaf (fun vs H Q E h => len__law_leaf h) (fun cdv A outer s H vs Q E hr h => ⟨(t__law_leaf_0 K), PSs.nox ?_, r__law_leaf h⟩)
  have hu64 := hr.units
  have hu65 := Fa.Room.units65 hr
  have hu200 := Fa.Room.units200 hr
  have hu := hu_of hr
  exact (pss_cons (ps_set (i := 2) sc__law_leaf.nd rfl (Or.inl rfl) (pe_ix ix_U (pv 1) (pe_callC c__law_next (hr.mono (by decide)) (by rfl) (pa_cons (pv 0) (pa_cons (pe_callB call_lenU (by rfl) T.z_len (by decide +kernel) (pa_cons (pv 1) pa_nil)) pa_nil))) (fun _ _ => rfl)))
      (pss_cons (ps_if (pt_cmpR (op_eqU hu200) (pv 2) pe_str (nomark _)) (pss_one (ps_ret (pe_tup (pa_cons pe_str (pa_cons (pe_cmpR (op_eqU hu200) (pe_callC c__law_next (hr.mono (by decide)) (by rfl) (pa_cons (pv 0) (pa_cons pe_int pa_nil))) pe_int (nomark _)) pa_nil))))) pss_nil)
      (pss_cons (ps_if (pt_cmpR (op_eqU hu200) (pv 2) pe_str (nomark _)) (pss_one (ps_ret (pe_callC c__law_number (hr.mono (by decide)) (by rfl) (pa_cons (pv 0) pa_nil)))) pss_nil)
      (pss_cons (ps_if (pt_cmpR (op_eqU hu200) (pv 2) pe_str (nomark _)) (pss_one (ps_ret (pe_tup (pa_cons pe_str (pa_cons (pe_callC c__law_octets (hr.mono (by decide)) (by rfl) (pa_cons (pv 0) pa_nil)) pa_nil))))) pss_nil)
      (pss_cons (ps_if (pt_cmpR (op_eqU hu200) (pv 2) pe_str (nomark _)) (pss_one (ps_ret (pe_tup (pa_cons pe_str (pa_cons (pe_callC c__law_points (hr.mono (by decide)) (by rfl) (pa_cons (pv 0) pa_nil)) pa_nil))))) pss_nil)
      (pss_one (ps_ret (pe_tup (pa_cons pe_str pa_nil)))))))))
theorem sc__law_value : FnScope ["_law_state_here", "_law_deep", "_law_kinds", "_law_has_maps", "_law_pick", "_law_many", "_law_k", "_law_entries", "_law_key", "_law_entry"] ["_law_state_here", "_law_deep", "_law_kinds", "_law_has_maps"] (defScope s__law_value) := ⟨rfl, rfl, rfl, by decide +kernel, rfl, by decide +kernel, by decide +kernel⟩
theorem ok__law_value {n : Nat} {f : Addr} {fd : FuncData} (F : FnP K "_law_value" "_law_value" s__law_value f fd) (T : Txt K mg) (c__law_leaf : Cal P w K mg base 4 "_law_leaf" (sp__law_leaf K)) (c__law_next : Cal P w K mg base 1 "_law_next" (sp__law_next K)) (c__law_points : Cal P w K mg base 2 "_law_points" (sp__law_points K)) (c__law_value : Cal P w K mg base (5 + 1 * n) "_law_value" (sp__law_value K n)) : FnOk P w K mg base CX0 (5 + 1 * (n + 1)) f fd ["_law_state_here", "_law_deep", "_law_kinds", "_law_has_maps"] (sp__law_value K (n + 1)) := by
  refine F.ok sc__law_value (fun vs H Q E h => len__law_value h) (fun cdv A outer s H vs Q E hr h => ⟨(t__law_value_0 K n), PSs.nox ?_, r__law_value h⟩)
  replace hr : Room (5 + 1 * n + 0) _ := hr
  have hu64 := hr.units
  have hu65 := Fa.Room.units65 hr
  have hu200 := Fa.Room.units200 hr
  have hu := hu_of hr
  exact (pss_cons (ps_asg (pe_op op_sub (pe_ix ix_U (pv 0) pe_int (fun _ _ => rfl)) pe_int) (pg_sub (pv 0) pe_int set_list))
      (pss_cons (ps_set (i := 4) sc__law_value.nd rfl (Or.inl rfl) (pe_callC c__law_next (hr.mono (by omega)) (by rfl) (pa_cons (pv 0) (pa_cons pe_int pa_nil))))
      (pss_cons (ps_if (PW.pt (pw_or (pt_cmpR (op_eqU hu200) (pv 1) pe_int (nomark _)) (pw_or (pt_cmpR op_le (pe_ix ix_U (pv 0) pe_int (fun _ _ => rfl)) pe_int (nomark _)) (pw_or1 (pt_cmpR (op_ltU hu64) (pv 4) pe_int (nomark _)))))) (pss_one (ps_ret (pe_callC c__law_leaf (hr.mono (by omega)) (by rfl) (pa_cons (pv 0) (pa_cons (pv 2) pa_nil))))) pss_nil)
      (pss_cons (ps_set (i := 5) sc__law_value.nd rfl (Or.inl rfl) (pe_callC c__law_next (hr.mono (by omega)) (by rfl) (pa_cons (pv 0) (pa_cons pe_int pa_nil))))
      (pss_cons (ps_if (PW.pt (pw_and (pt_cmpR op_gt (pe_ix ix_U (pv 0) pe_int (fun _ _ => rfl)) pe_int (nomark _)) (pw_and1 (pt_cmpR (op_eqU hu200) (pe_callC c__law_next (hr.mono (by omega)) (by rfl) (pa_cons (pv 0) (pa_cons pe_int pa_nil))) pe_int (nomark _))))) (pss_cons (ps_asg (pe_op op_sub (pe_ix ix_U (pv 0) pe_int (fun _ _ => rfl)) pe_int) (pg_sub (pv 0) pe_int set_list))
      (pss_one (ps_set (i := 5) sc__law_value.nd rfl (Or.inl rfl) (pe_op op_addU pe_int (pe_callC c__law_next (hr.mono (by omega)) (by rfl) (pa_cons (pv 0) (pa_cons pe_int pa_nil))))))) pss_nil)
      (pss_cons (ps_if (PW.pt (pw_or (pt_cmpR (op_eqU hu200) (pv 4) pe_int (nomark _)) (pw_or1 (pt_not (pt_val (pv 3)))))) (pss_one (ps_ret (pe_tup (pa_cons pe_str (pa_cons (pe_callTy call_tuple_of (by rfl) T.z_tuple (by decide +kernel) (pa_cons (pe_lc (own := [("_law_k", 6)]) (g := (gName 6)) (tt := tYes) (te := (tCall (sp__law_value K n) [] E0 (tCons (tVar 0) (tCons (tOp rSubI (tVar 1) (tC (.int 1))) (tCons (tVar 2) (tCons (tVar 3) tNil)))))) (wi := (iRng1 (tCons (tVar 5) tNil))) rfl sc__law_value.nd (pi_range1 (by rfl) T.z_range (pa_cons (pv 5) pa_nil)) (blkOk_by (N := ["_law_state_here", "_law_deep", "_law_kinds", "_law_has_maps", "_law_pick", "_law_many", "_law_k", "_law_entries", "_law_key", "_law_entry"]) (sc := defScope s__law_value) (by decide +kernel)) (fun _ _ _ _ _ => (pg_name (i := 6) sc__law_value.nd rfl (Or.inl rfl))) (fun _ _ _ _ _ => pts_nil) (fun _ _ _ _ _ => (pe_callC c__law_value (hr.mono (by omega)) (by rfl) (pa_cons (pv 0) (pa_cons (pe_op op_sub (pv 1) pe_int) (pa_cons (pv 2) (pa_cons (pv 3) pa_nil))))))) pa_nil)) pa_nil))))) pss_nil)
      (pss_cons (ps_set (i := 7) sc__law_value.nd rfl (Or.inl rfl) (pe_lst pa_nil))
      (pss_cons (ps_for PassesOwn.never rfl (pi_range1 (by rfl) T.z_range (pa_cons (pv 5) pa_nil)) (pg_name (i := 6) sc__law_value.nd rfl (Or.inl rfl)) (pss_cons (ps_set (i := 8) sc__law_value.nd rfl (Or.inl rfl) (pe_callC c__law_points (hr.mono (by omega)) (by rfl) (pa_cons (pv 0) pa_nil)))
      (pss_one (ps_if (pt_cmpR (op_notInU hu65) (pv 8) (pe_lc (own := [("_law_entry", 9)]) (g := (gName 9)) (tt := tYes) (te := (tOp (rIxU K) (tVar 9) (tC (.int 0)))) (wi := (iU K (tVar 7))) rfl sc__law_value.nd (pi_U (pv 7)) (blkOk_by (N := ["_law_state_here", "_law_deep", "_law_kinds", "_law_has_maps", "_law_pick", "_law_many", "_law_k", "_law_entries", "_law_key", "_law_entry"]) (sc := defScope s__law_value) (by decide +kernel)) (fun _ _ _ _ _ => (pg_name (i := 9) sc__law_value.nd rfl (Or.inl rfl))) (fun _ _ _ _ _ => pts_nil) (fun _ _ _ _ _ => (pe_ix ix_U (pv 9) pe_int (fun _ _ => rfl)))) rfl) (pss_one (ps_expr (pe_bm PySem.F.plainAttrs_list PySem.F.slot_list_append PySem.F.type_list_append mt_append (pv 7) (pa_cons (pe_tup (pa_cons (pv 8) (pa_cons (pe_callC c__law_value (hr.mono (by omega)) (by rfl) (pa_cons (pv 0) (pa_cons (pe_op op_sub (pv 1) pe_int) (pa_cons (pv 2) (pa_cons (pv 3) pa_nil))))) pa_nil))) pa_nil)))) pss_nil))))
      (pss_one (ps_ret (pe_tup (pa_cons pe_str (pa_cons (pe_callTy call_tuple_of (by rfl) T.z_tuple (by decide +kernel) (pa_cons (pe_callB (cr_sortedU hu64) (by rfl) T.z_sorted (by decide +kernel) (pa_cons (pv 7) pa_nil)) pa_nil)) pa_nil)))))))))))))
theorem sc__law_mixed : FnScope ["_law_state_here", "_law_value_here", "_law_found", "_law_item", "_law_entries", "_law_entry"] ["_law_state_here", "_law_value_here"] (defScope s__law_mixed) := ⟨rfl, rfl, rfl, by decide +kernel, rfl, by decide +kernel, by decide +kernel⟩
theorem ok__law_mixed {n : Nat} {f : Addr} {fd : FuncData} (F : FnP K "_law_mixed" "_law_mixed" s__law_mixed f fd) (T : Txt K mg) (c__law_mixed : Cal P w K mg base (2 + 1 * n) "_law_mixed" (sp__law_mixed K n)) (c__law_next : Cal P w K mg base 1 "_law_next" (sp__law_next K)) : FnOk P w K mg base CX0 (2 + 1 * (n + 1)) f fd ["_law_state_here", "_law_value_here"] (sp__law_mixed K (n + 1)) := by
  refine F.ok sc__law_mixed (fun vs H Q E h => len__law_mixed h) (fun cdv A outer s H vs Q E hr h => ⟨(t__law_mixed_0 K n), PSs.nox ?_, r__law_mixed h⟩)
  replace hr : Room (2 + 1 * n + 0) _ := hr
  have hu64 := hr.units
  have hu65 := Fa.Room.units65 hr
  have hu200 := Fa.Room.units200 hr
  have hu := hu_of hr
  exact (pss_cons (ps_if (pt_cmpR (op_eqU hu200) (pe_ix ix_U (pv 1) pe_int (fun _ _ => rfl)) pe_str (nomark _)) (pss_cons (ps_set (i := 2) sc__law_mixed.nd rfl (Or.inl rfl) (pe_lst (pa_cons (pe_tup (pa_cons pe_str (pa_cons pe_str pa_nil))) pa_nil)))
      (pss_cons (ps_for PassesOwn.never rfl (pi_U (pe_ix ix_U (pv 1) pe_int (fun _ _ => rfl))) (pg_name (i := 3) sc__law_mixed.nd rfl (Or.inl rfl)) (pss_one (ps_set (i := 2) sc__law_mixed.nd rfl (Or.inl rfl) (pe_op op_addU (pv 2) (pe_callC c__law_mixed (hr.mono (by omega)) (by rfl) (pa_cons (pv 0) (pa_cons (pv 3) pa_nil)))))))
      (pss_one (ps_ret (pe_op op_addU (pv 2) (pe_lst (pa_cons (pe_tup (pa_cons pe_str pa_nil)) pa_nil))))))) pss_nil)
      (pss_cons (ps_if (pt_cmpR (op_eqU hu200) (pe_ix ix_U (pv 1) pe_int (fun _ _ => rfl)) pe_str (nomark _)) (pss_cons (ps_set (i := 4) sc__law_mixed.nd rfl (Or.inl rfl) (pe_lst pa_nil))
      (pss_cons (ps_for PassesOwn.never rfl (pi_U (pe_ix ix_U (pv 1) pe_int (fun _ _ => rfl))) (pg_name (i := 5) sc__law_mixed.nd rfl (Or.inl rfl)) (pss_one (ps_expr (pe_bm PySem.F.plainAttrs_list PySem.F.slot_list_insert PySem.F.type_list_insert mt_insert (pv 4) (pa_cons (pe_callC c__law_next (hr.mono (by omega)) (by rfl) (pa_cons (pv 0) (pa_cons (pe_op op_addU (pe_callB call_lenU (by rfl) T.z_len (by decide +kernel) (pa_cons (pv 4) pa_nil)) pe_int) pa_nil))) (pa_cons (pv 5) pa_nil))))))
      (pss_cons (ps_set (i := 2) sc__law_mixed.nd rfl (Or.inl rfl) (pe_lst (pa_cons (pe_tup (pa_cons pe_str (pa_cons pe_str pa_nil))) pa_nil)))
      (pss_cons (ps_for PassesOwn.never rfl (pi_U (pv 4)) (pg_name (i := 5) sc__law_mixed.nd rfl (Or.inl rfl)) (pss_one (ps_set (i := 2) sc__law_mixed.nd rfl (Or.inl rfl) (pe_op op_addU (pe_op op_addU (pv 2) (pe_lst (pa_cons (pe_tup (pa_cons pe_str (pa_cons (pe_ix ix_U (pv 5) pe_int (fun _ _ => rfl)) pa_nil))) pa_nil))) (pe_callC c__law_mixed (hr.mono (by omega)) (by rfl) (pa_cons (pv 0) (pa_cons (pe_ix ix_U (pv 5) pe_int (fun _ _ => rfl)) pa_nil)))))))
      (pss_one (ps_ret (pe_op op_addU (pv 2) (pe_lst (pa_cons (pe_tup (pa_cons pe_str pa_nil)) pa_nil))))))))) pss_nil)
      (pss_one (ps_ret (pe_lst (pa_cons (pe_tup (pa_cons pe_str (pa_cons (pv 1) pa_nil))) pa_nil))))))
theorem sc_law : FnScope ["_law_script", "_law_state_here", "_law_value_here", "_law_other", "_law_events", "_law_others", "_law_first", "_law_second", "_law_k"] ["_law_script"] (defScope s_law) := ⟨rfl, rfl, rfl, by decide +kernel, rfl, by decide +kernel, by decide +kernel⟩
theorem ok_law {f : Addr} {fd : FuncData} (F : FnP K "law" "law" s_law f fd) (T : Txt K mg) (c_Builder_init : CalA P w K mg base 1 (mA "Builder" "__init__" K) (sp_Builder_init K)) (c_Builder_take : CalA P w K mg base 3 (mA "Builder" "take" K) (sp_Builder_take K)) (c__law_cell : Cal P w K mg base 1 "_law_cell" (sp__law_cell K)) (c__law_mixed : Cal P w K mg base (2 + 1 * 30) "_law_mixed" (sp__law_mixed K 30)) (c__law_state : Cal P w K mg base 2 "_law_state" (sp__law_state K)) (c__law_value : Cal P w K mg base (5 + 1 * 6) "_law_value" (sp__law_value K 6)) : FnOk P w K mg base CX0 33 f fd ["_law_script"] (sp_law K) := by
  obtain ⟨_, _, G_Builder_init, b_Builder_init⟩ := c_Builder_init.ex
  obtain ⟨_, _, G_Builder_take, b_Builder_take⟩ := c_Builder_take.ex
  refine F.ok sc_law (fun vs H Q E h => len_law h) (fun cdv A outer s H vs Q E hr h => ⟨(t_law_0 K), PSs.nox ?_, r_law T.k_Builder h⟩)
  have hu64 := hr.units
  have hu65 := Fa.Room.units65 hr
  have hu200 := Fa.Room.units200 hr
  have hu := hu_of hr
  exact (pss_cons (ps_set (i := 1) sc_law.nd rfl (Or.inl rfl) (pe_callC c__law_state (hr.mono (by decide)) (by rfl) (pa_cons (pv 0) (pa_cons (pe_op op_addU pe_int (pe_op op_mod (pe_callB call_abs (by rfl) T.z_abs (by decide +kernel) (pa_cons (pe_callC c__law_cell (hr.mono (by decide)) (by rfl) (pa_cons (pv 0) (pa_cons pe_int pa_nil))) pa_nil)) pe_int)) pa_nil))))
      (pss_cons (ps_set (i := 2) sc_law.nd rfl (Or.inl rfl) (pe_tup (pa_cons pe_str (pa_cons (pe_tup (pa_cons (pe_tup (pa_cons (pe_tup pa_nil) (pa_cons (pe_callC c__law_value (hr.mono (by decide)) (by rfl) (pa_cons (pv 1) (pa_cons pe_int (pa_cons (pe_lst (pa_cons pe_str (pa_cons pe_str (pa_cons pe_str (pa_cons pe_str (pa_cons pe_str pa_nil)))))) (pa_cons pe_bl pa_nil))))) pa_nil))) (pa_cons (pe_tup (pa_cons (pe_tup (pa_cons pe_int pa_nil)) (pa_cons (pe_callC c__law_value (hr.mono (by decide)) (by rfl) (pa_cons (pv 1) (pa_cons pe_int (pa_cons (pe_lst (pa_cons pe_str (pa_cons pe_str (pa_cons pe_str (pa_cons pe_str (pa_cons pe_str pa_nil)))))) (pa_cons pe_bl pa_nil))))) pa_nil))) pa_nil))) pa_nil))))
      (pss_cons (ps_set (i := 3) sc_law.nd rfl (Or.inl rfl) (pe_callC c__law_value (hr.mono (by decide)) (by rfl) (pa_cons (pv 1) (pa_cons pe_int (pa_cons (pe_lst (pa_cons pe_str (pa_cons pe_str (pa_cons pe_str (pa_cons pe_str (pa_cons pe_str pa_nil)))))) (pa_cons pe_bl pa_nil))))))
      (pss_cons (ps_set (i := 4) sc_law.nd rfl (Or.inl rfl) (pe_callC c__law_mixed (hr.mono (by decide)) (by rfl) (pa_cons (pv 1) (pa_cons (pv 2) pa_nil))))
      (pss_cons (ps_set (i := 5) sc_law.nd rfl (Or.inl rfl) (pe_callC c__law_mixed (hr.mono (by decide)) (by rfl) (pa_cons (pv 1) (pa_cons (pv 3) pa_nil))))
      (pss_cons (ps_set (i := 6) sc_law.nd rfl (Or.inl rfl) (pe_make0 T.i_Builder G_Builder_init (hr.mono (by decide)) (by rfl) T.g_Builder b_Builder_init .nil pass0))
      (pss_cons (ps_set (i := 7) sc_law.nd rfl (Or.inl rfl) (pe_make0 T.i_Builder G_Builder_init (hr.mono (by decide)) (by rfl) T.g_Builder b_Builder_init .nil pass0))
      (pss_cons (ps_for PassesOwn.never rfl (pi_range1 (by rfl) T.z_range (pa_cons (pe_callB (cr_max rfl) (by rfl) T.z_max (by decide +kernel) (pa_cons (pe_lst (pa_cons (pe_callB call_lenU (by rfl) T.z_len (by decide +kernel) (pa_cons (pv 4) pa_nil)) (pa_cons (pe_callB call_lenU (by rfl) T.z_len (by decide +kernel) (pa_cons (pv 5) pa_nil)) pa_nil))) pa_nil)) pa_nil)) (pg_name (i := 8) sc_law.nd rfl (Or.inl rfl)) (pss_cons (ps_if (pt_cmpR (op_ltU hu64) (pv 8) (pe_callB call_lenU (by rfl) T.z_len (by decide +kernel) (pa_cons (pv 4) pa_nil)) (nomark _)) (pss_one (ps_expr (pe_meth (pv 6) T.k_Builder.cl T.m_Builder_take G_Builder_take (hr.mono (by decide)) b_Builder_take .nil pass0 (pa_cons (pe_ix ix_U (pv 4) (pv 8) (fun _ _ => rfl)) pa_nil)))) pss_nil)
      (pss_one (ps_if (pt_cmpR (op_ltU hu64) (pv 8) (pe_callB call_lenU (by rfl) T.z_len (by decide +kernel) (pa_cons (pv 5) pa_nil)) (nomark _)) (pss_one (ps_expr (pe_meth (pv 7) T.k_Builder.cl T.m_Builder_take G_Builder_take (hr.mono (by decide)) b_Builder_take .nil pass0 (pa_cons (pe_ix ix_U (pv 5) (pv 8) (fun _ _ => rfl)) pa_nil)))) pss_nil))))
      (pss_one (ps_ret (pe_and (pe_cmpR (op_eqU hu200) (pe_fld (pv 6) rfl) (pv 2) (nomark _)) (pe_and (pe_cmpR (op_eqU hu200) (pe_fld (pv 7) rfl) (pv 3) (nomark _)) (pe_and (pe_cmpR op_isBl (pe_fld (pv 6) rfl) pe_bl (nomark _)) (pe_one (pe_cmpR op_isBl (pe_fld (pv 7) rfl) pe_bl (nomark _))))))))))))))))
end
/-! ### the head -/
def d_list_of : DefX := dX (gA "list_of") "list_of" "list_of" s_list_of
def d_map_of : DefX := dX (gA "map_of") "map_of" "map_of" s_map_of
def d_Frame_init : DefX := dX (mA "Frame" "__init__") "__init__" "Frame.__init__" s_Frame_init
def d_Frame_put : DefX := dX (mA "Frame" "put") "put" "Frame.put" s_Frame_put
def d_Frame_whole : DefX := dX (mA "Frame" "whole") "whole" "Frame.whole" s_Frame_whole
def d_Builder_init : DefX := dX (mA "Builder" "__init__") "__init__" "Builder.__init__" s_Builder_init
def d_Builder_put : DefX := dX (mA "Builder" "put") "put" "Builder.put" s_Builder_put
def d_Builder_take : DefX := dX (mA "Builder" "take") "take" "Builder.take" s_Builder_take
def d__law_cell : DefX := dX (gA "_law_cell") "_law_cell" "_law_cell" s__law_cell
def d__law_numbers : DefX := dX (gA "_law_numbers") "_law_numbers" "_law_numbers" s__law_numbers
def d__law_state : DefX := dX (gA "_law_state") "_law_state" "_law_state" s__law_state
def d__law_next : DefX := dX (gA "_law_next") "_law_next" "_law_next" s__law_next
def d__law_big : DefX := dX (gA "_law_big") "_law_big" "_law_big" s__law_big
def d__law_normal : DefX := dX (gA "_law_normal") "_law_normal" "_law_normal" s__law_normal
def d__law_number : DefX := dX (gA "_law_number") "_law_number" "_law_number" s__law_number
def d__law_points : DefX := dX (gA "_law_points") "_law_points" "_law_points" s__law_points
def d__law_octets : DefX := dX (gA "_law_octets") "_law_octets" "_law_octets" s__law_octets
def d__law_leaf : DefX := dX (gA "_law_leaf") "_law_leaf" "_law_leaf" s__law_leaf
def d__law_value : DefX := dX (gA "_law_value") "_law_value" "_law_value" s__law_value
def d__law_mixed : DefX := dX (gA "_law_mixed") "_law_mixed" "_law_mixed" s__law_mixed
def d_law : DefX := dX (gA "law") "law" "law" s_law
def fn : List DefX := [d_list_of, d_map_of, d_Frame_init, d_Frame_put, d_Frame_whole, d_Builder_init, d_Builder_put, d_Builder_take, d__law_cell, d__law_numbers, d__law_state, d__law_next, d__law_big, d__law_normal, d__law_number, d__law_points, d__law_octets, d__law_leaf, d__law_value, d__law_mixed, d_law]
def fa : List Fx := [fFa (.glo "Builder"), fFa (.glo "Frame"), klsB "Builder" F_Builder, klsB "Frame" F_Frame, fFa (.mkr "Builder"), fFa (.mkr "Frame"), fFa (.meth "Builder" "put"), fFa (.meth "Builder" "take"), fFa (.meth "Frame" "put"), fFa (.meth "Frame" "whole"), fFa (.free "abs"), fFa (.free "int"), fFa (.free "len"), fFa (.free "list"), fFa (.free "max"), fFa (.free "range"), fFa (.free "sorted"), fFa (.free "tuple"), fFa (.glo "list_of"), fFa (.glo "map_of"), fFa (.glo "_law_cell"), fFa (.glo "_law_numbers"), fFa (.glo "_law_state"), fFa (.glo "_law_next"), fFa (.glo "_law_big"), fFa (.glo "_law_normal"), fFa (.glo "_law_number"), fFa (.glo "_law_points"), fFa (.glo "_law_octets"), fFa (.glo "_law_leaf"), fFa (.glo "_law_value"), fFa (.glo "_law_mixed"), fFa (.glo "law")]
abbrev R : PySem.W.OpenRow := PySem.W.OpenLaw.row PySem.Challenge.rw_formsalike_k11_entries_in_any_order
abbrev hk : PySem.W.Hook := hookX 6 fa fn
def ob (s : PySem.W.SharedT) : AlX := obsXG 6 fa fn (HandSHeadRun.getT s)
theorem ob_eq (s : PySem.W.SharedT) : ob s = hk.obs s.abs := obsXG_eq (HandSHeadRun.getT_eq s)
def loose : List Str := (["__name__", "AlikeError", "Doubled", "list_of", "map_of", "Frame", "Builder", "_law_cell", "_law_numbers", "_law_state", "_law_next", "_law_big", "_law_normal", "_law_number", "_law_points", "_law_octets", "_law_leaf", "_law_value", "_law_mixed"] : List Str)
theorem run (w : World) : HandSHeadRun.RunEq R (PySem.W.view R.prog [22]) hk ob 4000 loose w := by
  intro os
  kernel_rfl
theorem facts {P : Program} {w : World} {K : PySem.W.Frag} {h : Heap} {mg : Str → Option Value} {f : Addr} (X : K.In h) (G : h.Ns mainGlobals mg) (hfa : mg ("law" : Str) = some (.ref f)) (c : SaysX fa fn K) :
    ∃ fd : FuncData, (∀ (s : Shared) (v : Value), BindsTo s fd ⟨[v], []⟩ [("_law_script", v)]) ∧ ∀ base : Heap, K.In base → base.Ns mainGlobals mg → FnOk P w K mg base CX0 33 f fd ["_law_script"] (sp_law K) := by
  obtain ⟨fd_list_of, F_list_of⟩ := c.def_ 0 (d := d_list_of) rfl
  obtain ⟨fd_map_of, F_map_of⟩ := c.def_ 1 (d := d_map_of) rfl
  obtain ⟨fd_Frame_init, F_Frame_init⟩ := c.def_ 2 (d := d_Frame_init) rfl
  obtain ⟨fd_Frame_put, F_Frame_put⟩ := c.def_ 3 (d := d_Frame_put) rfl
  obtain ⟨fd_Frame_whole, F_Frame_whole⟩ := c.def_ 4 (d := d_Frame_whole) rfl
  obtain ⟨fd_Builder_init, F_Builder_init⟩ := c.def_ 5 (d := d_Builder_init) rfl
  obtain ⟨fd_Builder_put, F_Builder_put⟩ := c.def_ 6 (d := d_Builder_put) rfl
  obtain ⟨fd_Builder_take, F_Builder_take⟩ := c.def_ 7 (d := d_Builder_take) rfl
  obtain ⟨fd__law_cell, F__law_cell⟩ := c.def_ 8 (d := d__law_cell) rfl
  obtain ⟨fd__law_numbers, F__law_numbers⟩ := c.def_ 9 (d := d__law_numbers) rfl
  obtain ⟨fd__law_state, F__law_state⟩ := c.def_ 10 (d := d__law_state) rfl
  obtain ⟨fd__law_next, F__law_next⟩ := c.def_ 11 (d := d__law_next) rfl
  obtain ⟨fd__law_big, F__law_big⟩ := c.def_ 12 (d := d__law_big) rfl
  obtain ⟨fd__law_normal, F__law_normal⟩ := c.def_ 13 (d := d__law_normal) rfl
  obtain ⟨fd__law_number, F__law_number⟩ := c.def_ 14 (d := d__law_number) rfl
  obtain ⟨fd__law_points, F__law_points⟩ := c.def_ 15 (d := d__law_points) rfl
  obtain ⟨fd__law_octets, F__law_octets⟩ := c.def_ 16 (d := d__law_octets) rfl
  obtain ⟨fd__law_leaf, F__law_leaf⟩ := c.def_ 17 (d := d__law_leaf) rfl
  obtain ⟨fd__law_value, F__law_value⟩ := c.def_ 18 (d := d__law_value) rfl
  obtain ⟨fd__law_mixed, F__law_mixed⟩ := c.def_ 19 (d := d__law_mixed) rfl
  obtain ⟨fd_law, F_law⟩ := c.def_ 20 (d := d_law) rfl
  have e := hfa.symm.trans (He.glo_ok X G (c.fact 32 (f := fFa (.glo "law")) rfl))
  cases e
  have T : Txt K mg := ⟨He.glo_ok X G (c.fact 0 rfl), He.glo_ok X G (c.fact 1 rfl), klsB_ok (c.fact 2 rfl), klsB_ok (c.fact 3 rfl), He.mkr_ok (c.fact 4 rfl), He.mkr_ok (c.fact 5 rfl), He.meth_ok (c.fact 6 rfl), He.meth_ok (c.fact 7 rfl), He.meth_ok (c.fact 8 rfl), He.meth_ok (c.fact 9 rfl), He.free_ok X G (c.fact 10 rfl), He.free_ok X G (c.fact 11 rfl), He.free_ok X G (c.fact 12 rfl), He.free_ok X G (c.fact 13 rfl), He.free_ok X G (c.fact 14 rfl), He.free_ok X G (c.fact 15 rfl), He.free_ok X G (c.fact 16 rfl), He.free_ok X G (c.fact 17 rfl)⟩
  have b_list_of := FunD.bindsN (ps := ["items"]) F_list_of fun _ _ _ _ _ _ us hl => match us, hl with | [_], _ => rfl
  have b_map_of := FunD.bindsN (ps := ["entries"]) F_map_of fun _ _ _ _ _ _ us hl => match us, hl with | [_], _ => rfl
  have b_Frame_init := FunD.bindsN (ps := ["self", "kind"]) F_Frame_init fun _ _ _ _ _ _ us hl => match us, hl with | [_, _], _ => rfl
  have b_Frame_put := FunD.bindsN (ps := ["self", "value"]) F_Frame_put fun _ _ _ _ _ _ us hl => match us, hl with | [_, _], _ => rfl
  have b_Frame_whole := FunD.bindsN (ps := ["self"]) F_Frame_whole fun _ _ _ _ _ _ us hl => match us, hl with | [_], _ => rfl
  have b_Builder_init := FunD.bindsN (ps := ["self"]) F_Builder_init fun _ _ _ _ _ _ us hl => match us, hl with | [_], _ => rfl
  have b_Builder_put := FunD.bindsN (ps := ["self", "value"]) F_Builder_put fun _ _ _ _ _ _ us hl => match us, hl with | [_, _], _ => rfl
  have b_Builder_take := FunD.bindsN (ps := ["self", "event"]) F_Builder_take fun _ _ _ _ _ _ us hl => match us, hl with | [_, _], _ => rfl
  have b__law_cell := FunD.bindsN (ps := ["_law_script", "_law_k"]) F__law_cell fun _ _ _ _ _ _ us hl => match us, hl with | [_, _], _ => rfl
  have b__law_numbers := FunD.bindsN (ps := ["_law_cell_here", "_law_many"]) F__law_numbers fun _ _ _ _ _ _ us hl => match us, hl with | [_, _], _ => rfl
  have b__law_state := FunD.bindsN (ps := ["_law_script", "_law_left"]) F__law_state fun _ _ _ _ _ _ us hl => match us, hl with | [_, _], _ => rfl
  have b__law_next := FunD.bindsN (ps := ["_law_state_here", "_law_many"]) F__law_next fun _ _ _ _ _ _ us hl => match us, hl with | [_, _], _ => rfl
  have b__law_big := FunD.bindsN (ps := ["_law_state_here", "_law_many"]) F__law_big fun _ _ _ _ _ _ us hl => match us, hl with | [_, _], _ => rfl
  have b__law_normal := FunD.bindsN (ps := ["_law_m", "_law_e"]) F__law_normal fun _ _ _ _ _ _ us hl => match us, hl with | [_, _], _ => rfl
  have b__law_number := FunD.bindsN (ps := ["_law_state_here"]) F__law_number fun _ _ _ _ _ _ us hl => match us, hl with | [_], _ => rfl
  have b__law_points := FunD.bindsN (ps := ["_law_state_here"]) F__law_points fun _ _ _ _ _ _ us hl => match us, hl with | [_], _ => rfl
  have b__law_octets := FunD.bindsN (ps := ["_law_state_here"]) F__law_octets fun _ _ _ _ _ _ us hl => match us, hl with | [_], _ => rfl
  have b__law_leaf := FunD.bindsN (ps := ["_law_state_here", "_law_kinds"]) F__law_leaf fun _ _ _ _ _ _ us hl => match us, hl with | [_, _], _ => rfl
  have b__law_value := FunD.bindsN (ps := ["_law_state_here", "_law_deep", "_law_kinds", "_law_has_maps"]) F__law_value fun _ _ _ _ _ _ us hl => match us, hl with | [_, _, _, _], _ => rfl
  have b__law_mixed := FunD.bindsN (ps := ["_law_state_here", "_law_value_here"]) F__law_mixed fun _ _ _ _ _ _ us hl => match us, hl with | [_, _], _ => rfl
  have b_law := FunD.bindsA (ps := ["_law_script"]) F_law fun _ _ _ _ _ _ us hl => match us, hl with | [_], _ => rfl
  refine ⟨fd_law, fun s v => b_law s [v] rfl, fun base _ _ => ?_⟩
  have c_list_of : Cal P w K mg base 1 "list_of" (sp_list_of K) := ⟨⟨_, fd_list_of, ["items"], ok_list_of F_list_of T, He.glo_ok X G (c.fact 18 rfl), F_list_of.kp, b_list_of⟩⟩
  have c_map_of : Cal P w K mg base 1 "map_of" (sp_map_of K) := ⟨⟨_, fd_map_of, ["entries"], ok_map_of F_map_of T, He.glo_ok X G (c.fact 19 rfl), F_map_of.kp, b_map_of⟩⟩
  have c_Frame_init : CalA P w K mg base 1 (mA "Frame" "__init__" K) (sp_Frame_init K) := ⟨⟨fd_Frame_init, ["self", "kind"], ok_Frame_init F_Frame_init T, b_Frame_init⟩⟩
  have c_Frame_put : CalA P w K mg base 1 (mA "Frame" "put" K) (sp_Frame_put K) := ⟨⟨fd_Frame_put, ["self", "value"], ok_Frame_put F_Frame_put T, b_Frame_put⟩⟩
  have c_Frame_whole : CalA P w K mg base 2 (mA "Frame" "whole" K) (sp_Frame_whole K) := ⟨⟨fd_Frame_whole, ["self"], ok_Frame_whole F_Frame_whole T c_list_of c_map_of, b_Frame_whole⟩⟩
  have c_Builder_init : CalA P w K mg base 1 (mA "Builder" "__init__" K) (sp_Builder_init K) := ⟨⟨fd_Builder_init, ["self"], ok_Builder_init F_Builder_init T, b_Builder_init⟩⟩
  have c_Builder_put : CalA P w K mg base 2 (mA "Builder" "put" K) (sp_Builder_put K) := ⟨⟨fd_Builder_put, ["self", "value"], ok_Builder_put F_Builder_put T c_Frame_put, b_Builder_put⟩⟩
  have c_Builder_take : CalA P w K mg base 3 (mA "Builder" "take" K) (sp_Builder_take K) := ⟨⟨fd_Builder_take, ["self", "event"], ok_Builder_take F_Builder_take T c_Builder_put c_Frame_init c_Frame_whole, b_Builder_take⟩⟩
  have c__law_cell : Cal P w K mg base 1 "_law_cell" (sp__law_cell K) := ⟨⟨_, fd__law_cell, ["_law_script", "_law_k"], ok__law_cell F__law_cell T, He.glo_ok X G (c.fact 20 rfl), F__law_cell.kp, b__law_cell⟩⟩
  have c__law_numbers : Cal P w K mg base 1 "_law_numbers" (sp__law_numbers K) := ⟨⟨_, fd__law_numbers, ["_law_cell_here", "_law_many"], ok__law_numbers F__law_numbers T, He.glo_ok X G (c.fact 21 rfl), F__law_numbers.kp, b__law_numbers⟩⟩
  have c__law_state : Cal P w K mg base 2 "_law_state" (sp__law_state K) := ⟨⟨_, fd__law_state, ["_law_script", "_law_left"], ok__law_state F__law_state T c__law_cell c__law_numbers, He.glo_ok X G (c.fact 22 rfl), F__law_state.kp, b__law_state⟩⟩
  have c__law_next : Cal P w K mg base 1 "_law_next" (sp__law_next K) := ⟨⟨_, fd__law_next, ["_law_state_here", "_law_many"], ok__law_next F__law_next T, He.glo_ok X G (c.fact 23 rfl), F__law_next.kp, b__law_next⟩⟩
  have c__law_big : Cal P w K mg base 2 "_law_big" (sp__law_big K) := ⟨⟨_, fd__law_big, ["_law_state_here", "_law_many"], ok__law_big F__law_big T c__law_cell c__law_next, He.glo_ok X G (c.fact 24 rfl), F__law_big.kp, b__law_big⟩⟩
  have c__law_normal : Cal P w K mg base 1 "_law_normal" (sp__law_normal K) := ⟨⟨_, fd__law_normal, ["_law_m", "_law_e"], ok__law_normal F__law_normal T, He.glo_ok X G (c.fact 25 rfl), F__law_normal.kp, b__law_normal⟩⟩
  have c__law_number : Cal P w K mg base 3 "_law_number" (sp__law_number K) := ⟨⟨_, fd__law_number, ["_law_state_here"], ok__law_number F__law_number T c__law_big c__law_next c__law_normal, He.glo_ok X G (c.fact 26 rfl), F__law_number.kp, b__law_number⟩⟩
  have c__law_points : Cal P w K mg base 2 "_law_points" (sp__law_points K) := ⟨⟨_, fd__law_points, ["_law_state_here"], ok__law_points F__law_points T c__law_next, He.glo_ok X G (c.fact 27 rfl), F__law_points.kp, b__law_points⟩⟩
  have c__law_octets : Cal P w K mg base 2 "_law_octets" (sp__law_octets K) := ⟨⟨_, fd__law_octets, ["_law_state_here"], ok__law_octets F__law_octets T c__law_next, He.glo_ok X G (c.fact 28 rfl), F__law_octets.kp, b__law_octets⟩⟩
  have c__law_leaf : Cal P w K mg base 4 "_law_leaf" (sp__law_leaf K) := ⟨⟨_, fd__law_leaf, ["_law_state_here", "_law_kinds"], ok__law_leaf F__law_leaf T c__law_next c__law_number c__law_octets c__law_points, He.glo_ok X G (c.fact 29 rfl), F__law_leaf.kp, b__law_leaf⟩⟩
  have c__law_value : ∀ n, Cal P w K mg base (5 + 1 * n) "_law_value" (sp__law_value K n) := by
    intro n
    induction n with
    | zero => exact ⟨⟨_, fd__law_value, ["_law_state_here", "_law_deep", "_law_kinds", "_law_has_maps"], F__law_value.ok sc__law_value (fun _ _ _ _ h => (no__law_value h).elim) (fun _ _ _ _ _ _ _ _ _ h => (no__law_value h).elim), He.glo_ok X G (c.fact 30 rfl), F__law_value.kp, b__law_value⟩⟩
    | succ n c__law_value =>
      exact ⟨⟨_, fd__law_value, ["_law_state_here", "_law_deep", "_law_kinds", "_law_has_maps"], ok__law_value F__law_value T c__law_leaf c__law_next c__law_points c__law_value, He.glo_ok X G (c.fact 30 rfl), F__law_value.kp, b__law_value⟩⟩
  have c__law_mixed : ∀ n, Cal P w K mg base (2 + 1 * n) "_law_mixed" (sp__law_mixed K n) := by
    intro n
    induction n with
    | zero => exact ⟨⟨_, fd__law_mixed, ["_law_state_here", "_law_value_here"], F__law_mixed.ok sc__law_mixed (fun _ _ _ _ h => (no__law_mixed h).elim) (fun _ _ _ _ _ _ _ _ _ h => (no__law_mixed h).elim), He.glo_ok X G (c.fact 31 rfl), F__law_mixed.kp, b__law_mixed⟩⟩
    | succ n c__law_mixed =>
      exact ⟨⟨_, fd__law_mixed, ["_law_state_here", "_law_value_here"], ok__law_mixed F__law_mixed T c__law_mixed c__law_next, He.glo_ok X G (c.fact 31 rfl), F__law_mixed.kp, b__law_mixed⟩⟩
  exact ok_law F_law T c_Builder_init c_Builder_take c__law_cell (c__law_mixed 30) c__law_state (c__law_value 6)
end Fa
open PySem PySem.W PySem.Calls PyProof.Rows
set_option maxRecDepth 100000 in
set_option maxHeartbeats 0 in
theorem PySem.Challenge.cw_formsalike_k11_entries_in_any_order_holds : PySem.Challenge.rw_formsalike_k11_entries_in_any_order.Holds := by
  w_on; o_law
  refine HandSHeadRun.head_any (r := OpenLaw.row PySem.Challenge.rw_formsalike_k11_entries_in_any_order) (q := view (OpenLaw.row PySem.Challenge.rw_formsalike_k11_entries_in_any_order).prog [22]) (H := Fa.hk) (ob := Fa.ob) (M := 4000) (loose := Fa.loose) (d := HandSHeadRun.topDef (OpenLaw.row PySem.Challenge.rw_formsalike_k11_entries_in_any_order).prog 22) (kwd := []) Fa.ob_eq
    (by kernel_rfl) (fun s => by kernel_rfl) Fa.run (by kernel_rfl) (by kernel_rfl) (by kernel_rfl) (by rfl) (by first | assumption | decide +kernel) (by decide +kernel) ⟨rfl, rfl, rfl, rfl, rfl, by decide +kernel⟩ ?hw ?hc
  case hw => w_witness2
  case hc =>
    refine L2.walk_ofE (l := PySem.Challenge.rw_formsalike_k11_entries_in_any_order) (n := 63) (k := 33) (x := "_law_script") (CX := L2.CX0) rfl (by decide) (by kernel_rfl) ⟨rfl, by decide, by decide⟩ ?F (fun _ _ _ _ z => z)
    intro w mg fa h Y G hmg0
    obtain ⟨K, KX, c⟩ := Y
    have hmg : mg ("law" : PySem.Str) = some (.ref fa) := by
      have e : (HandSHeadRun.topDef (OpenLaw.row PySem.Challenge.rw_formsalike_k11_entries_in_any_order).prog 22).name = ("law" : PySem.Str) := by kernel_rfl
      rw [← e]
      exact hmg0
    obtain ⟨fd, hb, hF⟩ := Fa.facts (P := (PySem.Challenge.rw_formsalike_k11_entries_in_any_order).prog) (w := w) KX G hmg c
    exact ⟨K, fd, Fa.sp_law K, KX, hb, fun H a ns hl ho hS => ⟨a, ns, rfl, hS, hl, ho, fun _ => rfl⟩, hF⟩
#print axioms PySem.Challenge.cw_formsalike_k11_entries_in_any_order_holds
