import PyProof.Rows.All
import Wide.All
import OpenK.AllK
import Wide.FinOn
import HandS.ForMost
import HandS.More
import HandS.Wide
import HandS.Steps
import HandS.TupAny
import HandS.IsInst
import HandS.Defaults
import HandS.Head0
import HandS.Head1
import HandS.Head2
import HandS.HeadEnd
import HandS.HeadHook1
import HandS.HeadHook2
import HandS.Property
import HandS.Style
import KE.GoesMore
import KE.GoesEnum
import PySem.Challenge.RW_formsalike_k06_utf8_there_and_back
set_option Elab.async false
set_option linter.all false
set_option maxRecDepth 100000
set_option maxHeartbeats 4000000
namespace Fa
open PySem PySem.Spec PyProof.Rows L2
abbrev FnP (K : PySem.W.Frag) (x qual : Str) (st : Stmt) (f : Addr) (fd : FuncData) : Prop := FunD K x qual (defArgs st) (defBody st) (defScope st) [] [] f fd
/-! ### a def that is called by its name -/
structure Cal (P : Program) (w : World) (K : PySem.W.Frag) (mg : Str → Option Value) (base : Heap) (k : Nat) (x : Str) (sp : Sp) : Prop where
  ex : ∃ (f : Addr) (fd : FuncData) (ps : List Str), FnOk P w K mg base CX0 k f fd ps sp ∧ mg x = some (.ref f) ∧ PySem.W.keepIn K (.ref f) = true ∧ Binds K fd ps []
section
variable {X : Cx} {k : Nat} {x : Str} {sp : Sp} {p pos : Pos} {e : Expr} {es : List Expr} {t : TA}
theorem pe_callC (c : Cal X.prog X.w X.K X.mg X.base k x sp) (hr : Room k X.A) (hg : Gl X x) (ha : PA X (e :: es) t) (hdb : (x == ("__debug__" : Str)) = false := by decide) (he : starEach (e :: es) X.env = (false, eval e X.env) :: starEach es X.env := by rfl) (hpl : (backTo pos (starEach es X.env)).any (·.1) = false := by rfl) :
    PE X (.Call (.Name x p) (e :: es) [] pos) (tCall sp [] E0 t) := by
  obtain ⟨f, fd, ps, F, m, kp, b⟩ := c.ex
  exact pe_call F hr hg m kp b .nil pass0 ha hdb he hpl
theorem pe_callC0 (c : Cal X.prog X.w X.K X.mg X.base k x sp) (hr : Room k X.A) (hg : Gl X x) (hdb : (x == ("__debug__" : Str)) = false := by decide) :
    PE X (.Call (.Name x p) [] [] pos) (tCall sp [] E0 tNil) := by
  obtain ⟨f, fd, ps, F, m, kp, b⟩ := c.ex
  exact pe_call0 F hr hg m kp b .nil pass0 hdb
theorem pe_globI {i : Int} (hg : Gl X x) (hm : ∃ t, X.mg x = some (.int i t)) (hd : (x == ("__debug__" : Str)) = false := by decide) : PE X (.Name x pos) (tC (.int i)) := by
  obtain ⟨t, m⟩ := hm
  exact pe_glob hg m ⟨t, rfl⟩ hd
theorem pe_globS {i : Str} (hg : Gl X x) (hm : ∃ t, X.mg x = some (.str i t)) (hd : (x == ("__debug__" : Str)) = false := by decide) : PE X (.Name x pos) (tC (.str i)) := by
  obtain ⟨t, m⟩ := hm
  exact pe_glob hg m ⟨t, rfl⟩ hd
theorem pe_globR {a : Addr} (hg : Gl X x) (m : X.mg x = some (.ref a)) (hd : (x == ("__debug__" : Str)) = false := by decide) : PE X (.Name x pos) (tC (.ref a)) := pe_glob hg m rfl hd
end
/-! ### operations by names -/
def rAddI : R2 := rI0 fun i j => .int (i + j)
def rSubI : R2 := rI0 fun i j => .int (i - j)
def rMulI : R2 := rI CMul fun i j => .int (i * j)
def rMulW : R2 := rI CMulW fun i j => .int (i * j)
def rDivI : R2 := rI CDiv fun i j => .int (i / j)
def rDivW : R2 := rI CDivW fun i j => .int (i / j)
def rModI : R2 := rI (fun _ j => 0 < j) fun i j => .int (i % j)
def rPowI : R2 := rI CPow fun i j => .int (i ^ j.toNat)
def rShlI : R2 := rI CPow fun i j => .int (i * 2 ^ j.toNat)
def rShrI : R2 := rI (fun _ j => 0 ≤ j) fun i j => .int (i / 2 ^ j.toNat)
def rAndI : R2 := rI0 fun i j => .int (Builtin.bitAnd i j)
def rLtI : R2 := rI0 fun i j => .bl (decide (i < j))
def rLeI : R2 := rI0 fun i j => .bl (decide (i ≤ j))
def rGtI : R2 := rI0 fun i j => .bl (decide (j < i))
def rGeI : R2 := rI0 fun i j => .bl (decide (j ≤ i))
def rNegI : V → Hp → VK → Prop := rU fun i => .int (-i)
def rAddS : R2 := fun x y H Q => ∃ i j, x = .str i ∧ y = .str j ∧ i.length + j.length ≤ sizeLine ∧ Q (.str (i ++ j)) H
def rLtS : R2 := fun x y H Q => ∃ i j, x = .str i ∧ y = .str j ∧ Q (.bl (decide (i.cps.toList < j.cps.toList))) H
def rAbs : List V → Hp → VK → Prop := fun xs H Q => ∃ i, xs = [.int i] ∧ Q (.int (if i < 0 then -i else i)) H
def rInt1 : List V → Hp → VK → Prop := fun xs H Q => (∃ i, xs = [.int i] ∧ Q (.int i) H) ∨ ∃ k, xs = [.bl k] ∧ Q (.int (if k then 1 else 0)) H
def rBool1 : List V → Hp → VK → Prop := fun xs H Q => (∃ i, xs = [.int i] ∧ Q (.bl (i != 0)) H) ∨ ∃ k, xs = [.bl k] ∧ Q (.bl k) H
def rStrI : List V → Hp → VK → Prop := fun xs H Q => ∃ i, xs = [.int i] ∧ i.natAbs.log2 < 1920 ∧ Q (.str (toString i)) H
def rOrd : List V → Hp → VK → Prop := fun xs H Q => ∃ x, xs = [.str x] ∧ x.length = 1 ∧ Q (.int (x.cps.getD 0 0 : Nat)) H
def rChr : List V → Hp → VK → Prop := fun xs H Q => ∃ i, xs = [.int i] ∧ 0 ≤ i ∧ i ≤ 1114111 ∧ Q (.str ⟨#[i.toNat]⟩) H
def rMax2 : List V → Hp → VK → Prop := fun xs H Q => ∃ i j, xs = [.int i, .int j] ∧ Q (.int (if j > i then j else i)) H
def rMin2 : List V → Hp → VK → Prop := fun xs H Q => ∃ i j, xs = [.int i, .int j] ∧ Q (.int (if j < i then j else i)) H
def rLenQ (K : PySem.W.Frag) : List V → Hp → VK → Prop := fun xs H Q => ∃ p ys, xs = [.ref p] ∧ (SqL K H p ys ∨ SqT K H p ys) ∧ Q (.int ys.length) H
def rLenS : List V → Hp → VK → Prop := fun xs H Q => ∃ z, xs = [.str z] ∧ z.length ≤ sizeLine ∧ Q (.int z.length) H
def rListOf (K : PySem.W.Frag) : List V → Hp → VK → Prop := fun xs H Q => ∃ p ys, xs = [.ref p] ∧ (SqL K H p ys ∨ SqT K H p ys) ∧ ∀ l, H l = none → Q (.ref l) (upd H l (.lst ys))
def rTupOf (K : PySem.W.Frag) : List V → Hp → VK → Prop := fun xs H Q => ∃ p ys, xs = [.ref p] ∧ ((SqL K H p ys ∧ ∀ l, H l = none → Q (.ref l) (upd H l (.tup ys))) ∨ (SqT K H p ys ∧ Q (.ref p) H))
/-! ### heaps -/
/-- all that was tracked, but for what stands in S, is as it was -/
def Keep (S : List Addr) (H H1 : Hp) : Prop := ∀ a o, a ∉ S → H a = some o → H1 a = some o
theorem Keep.refl {S : List Addr} (H : Hp) : Keep S H H := fun _ _ _ h => h
theorem Keep.trans {S : List Addr} {H H1 H2 : Hp} (a : Keep S H H1) (b : Keep S H1 H2) : Keep S H H2 := fun x o n h => b x o n (a x o n h)
theorem Keep.mono {S S' : List Addr} {H H1 : Hp} (a : Keep S H H1) (h : ∀ x, x ∈ S → x ∈ S') : Keep S' H H1 := fun x o n e => a x o (fun z => n (h x z)) e
theorem Keep.all {S : List Addr} {H H1 : Hp} (a : Keep [] H H1) : Keep S H H1 := a.mono (fun _ h => by cases h)
theorem Keep.new {S : List Addr} {H : Hp} {p : Addr} {o : HO} (h : H p = none) : Keep S H (upd H p o) := fun a u _ e => by
  rw [upd_ne (ne_of_none e h)]
  exact e
theorem Keep.put {S : List Addr} {H H1 : Hp} {p : Addr} {o : HO} (k : Keep S H H1) (h : p ∈ S ∨ H p = none) : Keep S H (upd H1 p o) := fun a u n e => by
  rcases h with h | h
  · rw [upd_ne (fun z => n (by rw [z]; exact h))]
    exact k a u n e
  · rw [upd_ne (ne_of_none e h)]
    exact k a u n e
theorem Keep.rd {S : List Addr} {H H1 : Hp} {a : Addr} {u : HO} (k : Keep S H H1) (n : a ∉ S) (h : Rd H a u) : Rd H1 a u := by
  rcases h with h | ⟨o, h⟩
  · exact .inl (k a _ n h)
  · exact .inr ⟨o, k a _ n h⟩
theorem Keep.sqL {S : List Addr} {K : PySem.W.Frag} {H H1 : Hp} {a : Addr} {xs : List V} (k : Keep S H H1) (n : a ∉ S) (h : SqL K H a xs) : SqL K H1 a xs := by
  rcases h with h | h
  · exact .inl (k.rd n h)
  · exact .inr h
theorem Keep.sqT {S : List Addr} {K : PySem.W.Frag} {H H1 : Hp} {a : Addr} {xs : List V} (k : Keep S H H1) (n : a ∉ S) (h : SqT K H a xs) : SqT K H1 a xs := by
  rcases h with h | h
  · exact .inl (k.rd n h)
  · exact .inr h
theorem Keep.fresh {S : List Addr} {H H1 : Hp} {a : Addr} (k : Keep S H H1) (n : a ∉ S) (h : H1 a = none) : H a = none := by
  cases e : H a with
  | none => rfl
  | some o =>
    rw [k a o n e] at h
    cases h
/-! ### to read a term forwards: one rule a construct -/
section
variable {K : PySem.W.Frag} {σ : L2.St} {H : Hp} {Q : VK} {D : Ends} {t u : TS} {te ta tb tc : TE} {tt tt2 : TT} {i j : Int} {n : Nat} {v x y : V} {r r2 : R2} {b : Bool} {ar : TA} {A B : Prop} {QT : Bool → Hp → Prop} {QA : List V → Hp → Prop}
theorem i_seq (h : t { D with nx := u D } σ H) : tSeq t u D σ H := h
theorem i_asg (h : te σ H fun x H1 => D.nx (σ.set n (some x)) H1) : tAsg te (gName n) D σ H := h
theorem i_asgG {g : TG} (h : te σ H fun x H1 => g x σ H1 D.nx) : tAsg te g D σ H := h
theorem i_ret (h : te σ H D.rt) : tRet te D σ H := h
theorem i_retN (h : D.rt .non H) : tRetN D σ H := h
theorem i_drop (h : te σ H fun _ H1 => D.nx σ H1) : tDrop te D σ H := h
theorem i_ifS (h : tt σ H fun b H1 => if b = true then t D σ H1 else u D σ H1) : tIfS tt t u D σ H := h
theorem i_next (h : D.nx σ H) : tNext D σ H := h
theorem i_cont (h : D.ct σ H) : tCont D σ H := h
theorem i_break (h : D.bk σ H) : tBreak D σ H := h
theorem i_var (e : σ[n]? = some (some v)) (h : Q v H) : tVar n σ H Q := ⟨v, e, h⟩
theorem i_c (h : Q v H) : tC v σ H Q := h
theorem i_op (h : ta σ H fun x H1 => tb σ H1 fun y H2 => r x y H2 Q) : tOp r ta tb σ H Q := h
theorem i_un {f : V → Hp → VK → Prop} (h : ta σ H fun x H1 => f x H1 Q) : tUn f ta σ H Q := h
theorem i_nil (h : QA [] H) : tNil σ H QA := h
theorem i_cons (h : ta σ H fun x H1 => ar σ H1 fun xs H2 => QA (x :: xs) H2) : tCons ta ar σ H QA := h
theorem i_call {sp : Sp} {E : XK} (h : ar σ H fun vs H1 => sp vs H1 Q E) : tCall sp [] E ar σ H Q := by
  show ar σ H fun vs H1 => sp (vs ++ []) H1 Q E
  simpa only [List.append_nil] using h
theorem i_cb {f : List V → Hp → VK → Prop} (h : ar σ H fun vs H1 => f vs H1 Q) : tCB f ar σ H Q := h
theorem i_test (h : ta σ H fun x H' => ∃ k, x = .bl k ∧ QT k H') : tTest ta σ H QT := h
theorem i_tB (h : ta σ H fun x H' => ∃ k, x = .bl k ∧ QT k H') : tB ta σ H QT := h
theorem i_bl (h : QT b H) : ∃ k, V.bl b = .bl k ∧ QT k H := ⟨b, rfl, h⟩
theorem i_and (h : tt σ H fun c H1 => if c = true then tt2 σ H1 QT else QT false H1) : tAnd tt tt2 σ H QT := h
theorem i_or (h : tt σ H fun c H1 => if c = true then QT true H1 else tt2 σ H1 QT) : tOr tt tt2 σ H QT := h
theorem i_not (h : tt σ H fun c H1 => QT (!c) H1) : tNot tt σ H QT := h
theorem i_andV (h : ta σ H fun x H1 => ∃ c, x = .bl c ∧ if c = true then tb σ H1 Q else Q (.bl false) H1) : tAndV ta tb σ H Q := h
theorem i_orV (h : ta σ H fun x H1 => ∃ c, x = .bl c ∧ if c = true then Q (.bl true) H1 else tb σ H1 Q) : tOrV ta tb σ H Q := h
theorem i_notV (h : ta σ H fun x H1 => ∃ c, x = .bl c ∧ Q (.bl (!c)) H1) : tNotV ta σ H Q := h
theorem i_chain (h : ta σ H fun x H1 => tb σ H1 fun y H2 => r x y H2 fun z H3 => ∃ k, z = .bl k ∧ (if k = true then tc σ H3 fun w' H4 => r2 y w' H4 Q else Q (.bl false) H3)) : tChain r r2 ta tb tc σ H Q := h
theorem i_if (h : tt σ H fun c H1 => if c = true then ta σ H1 Q else tb σ H1 Q) : tIf tt ta tb σ H Q := h
theorem i_ex {P : Bool → Prop} (h : P b) : ∃ c, V.bl b = .bl c ∧ P c := ⟨b, rfl, h⟩
theorem i_T (h : A) : if true = true then A else B := iteT h
theorem i_F (h : B) : if false = true then A else B := iteF h
theorem i_NT (h : B) : if (!true) = true then A else B := iteF h
theorem i_NF (h : A) : if (!false) = true then A else B := iteT h
theorem i_NN {c : Bool} (h : if c = true then A else B) : if (!!c) = true then A else B := by rw [Bool.not_not]; exact h
theorem i_NDT {c : Prop} [Decidable c] (h : ¬ c) (h1 : A) : if (!decide c) = true then A else B := by rw [decide_eq_false h]; exact iteT h1
theorem i_NDF {c : Prop} [Decidable c] (h : c) (h1 : B) : if (!decide c) = true then A else B := by rw [decide_eq_true h]; exact iteF h1
theorem i_D {c : Prop} [Decidable c] (h1 : c → A) (h2 : ¬ c → B) : if decide c = true then A else B := by
  by_cases h : c
  · rw [decide_eq_true h]; exact i_T (h1 h)
  · rw [decide_eq_false h]; exact i_F (h2 h)
theorem i_ND {c : Prop} [Decidable c] (h1 : ¬ c → A) (h2 : c → B) : if (!decide c) = true then A else B := by
  by_cases h : c
  · rw [decide_eq_true h]; exact i_F (h2 h)
  · rw [decide_eq_false h]; exact i_T (h1 h)
theorem i_DT {c : Prop} [Decidable c] (h : c) (h1 : A) : if decide c = true then A else B := by rw [decide_eq_true h]; exact i_T h1
theorem i_DF {c : Prop} [Decidable c] (h : ¬ c) (h1 : B) : if decide c = true then A else B := by rw [decide_eq_false h]; exact i_F h1
theorem i_B (c : Bool) (h1 : c = true → A) (h2 : c = false → B) : if c = true then A else B := by
  cases c
  · exact i_F (h2 rfl)
  · exact i_T (h1 rfl)
theorem i_add (h : Q (.int (i + j)) H) : rAddI (.int i) (.int j) H Q := ⟨i, j, rfl, rfl, h⟩
theorem i_sub (h : Q (.int (i - j)) H) : rSubI (.int i) (.int j) H Q := ⟨i, j, rfl, rfl, h⟩
theorem i_mul (c : CMul i j) (h : Q (.int (i * j)) H) : rMulI (.int i) (.int j) H Q := ⟨i, j, rfl, rfl, c, h⟩
theorem i_mulL (c : -(2 ^ 64) < i ∧ i < 2 ^ 64) (h : Q (.int (i * j)) H) : rMulI (.int i) (.int j) H Q := ⟨i, j, rfl, rfl, .inl c, h⟩
theorem i_mulR (c : -(2 ^ 64) < j ∧ j < 2 ^ 64) (h : Q (.int (i * j)) H) : rMulI (.int i) (.int j) H Q := ⟨i, j, rfl, rfl, .inr c, h⟩
theorem i_mulW (c : CMulW i j) (h : Q (.int (i * j)) H) : rMulW (.int i) (.int j) H Q := ⟨i, j, rfl, rfl, c, h⟩
theorem i_div (c : 0 < j ∧ j < 1073741824) (h : Q (.int (i / j)) H) : rDivI (.int i) (.int j) H Q := ⟨i, j, rfl, rfl, c, h⟩
theorem i_divW (c : CDivW i j) (h : Q (.int (i / j)) H) : rDivW (.int i) (.int j) H Q := ⟨i, j, rfl, rfl, c, h⟩
theorem i_mod (c : 0 < j) (h : Q (.int (i % j)) H) : rModI (.int i) (.int j) H Q := ⟨i, j, rfl, rfl, c, h⟩
theorem i_pow (c : 0 ≤ j ∧ j ≤ 1000000 ∧ i.natAbs < 2 ^ 64) (h : Q (.int (i ^ j.toNat)) H) : rPowI (.int i) (.int j) H Q := ⟨i, j, rfl, rfl, c, h⟩
theorem i_shl (c : 0 ≤ j ∧ j ≤ 1000000 ∧ i.natAbs < 2 ^ 64) (h : Q (.int (i * 2 ^ j.toNat)) H) : rShlI (.int i) (.int j) H Q := ⟨i, j, rfl, rfl, c, h⟩
theorem i_shr (c : 0 ≤ j) (h : Q (.int (i / 2 ^ j.toNat)) H) : rShrI (.int i) (.int j) H Q := ⟨i, j, rfl, rfl, c, h⟩
theorem i_band (h : Q (.int (Builtin.bitAnd i j)) H) : rAndI (.int i) (.int j) H Q := ⟨i, j, rfl, rfl, h⟩
theorem i_lt (h : Q (.bl (decide (i < j))) H) : rLtI (.int i) (.int j) H Q := ⟨i, j, rfl, rfl, h⟩
theorem i_le (h : Q (.bl (decide (i ≤ j))) H) : rLeI (.int i) (.int j) H Q := ⟨i, j, rfl, rfl, h⟩
theorem i_gt (h : Q (.bl (decide (j < i))) H) : rGtI (.int i) (.int j) H Q := ⟨i, j, rfl, rfl, h⟩
theorem i_ge (h : Q (.bl (decide (j ≤ i))) H) : rGeI (.int i) (.int j) H Q := ⟨i, j, rfl, rfl, h⟩
theorem i_neg (h : Q (.int (-i)) H) : rNegI (.int i) H Q := ⟨i, rfl, h⟩
theorem dV {i j : Int} : decide (V.int i = V.int j) = decide (i = j) := by
  rw [dec_int]
  exact Bool.beq_eq_decide_eq i j
theorem i_eqI (h : Q (.bl (decide (i = j))) H) : rEq (.int i) (.int j) H Q := ⟨rfl, by rw [dV]; exact h⟩
theorem i_neI (h : Q (.bl (!decide (i = j))) H) : rNe (.int i) (.int j) H Q := ⟨rfl, by rw [dV]; exact h⟩
theorem i_eqS {i j : Str} (h : Q (.bl (decide (i = j))) H) : rEq (.str i) (.str j) H Q := ⟨rfl, by
  have e : decide (V.str i = V.str j) = decide (i = j) := by
    by_cases q : i = j
    · rw [decide_eq_true q, decide_eq_true (congrArg V.str q)]
    · rw [decide_eq_false q, decide_eq_false fun z => q (V.str.inj z)]
  rw [e]; exact h⟩
theorem i_neS {i j : Str} (h : Q (.bl (!decide (i = j))) H) : rNe (.str i) (.str j) H Q := ⟨rfl, by
  have e : decide (V.str i = V.str j) = decide (i = j) := by
    by_cases q : i = j
    · rw [decide_eq_true q, decide_eq_true (congrArg V.str q)]
    · rw [decide_eq_false q, decide_eq_false fun z => q (V.str.inj z)]
  rw [e]; exact h⟩
theorem i_neB {i j : Bool} (h : Q (.bl (!decide (i = j))) H) : rNe (.bl i) (.bl j) H Q := ⟨rfl, by
  have e : decide (V.bl i = V.bl j) = decide (i = j) := by cases i <;> cases j <;> rfl
  rw [e]; exact h⟩
theorem i_eqB {i j : Bool} (h : Q (.bl (decide (i = j))) H) : rEq (.bl i) (.bl j) H Q := ⟨rfl, by
  have e : decide (V.bl i = V.bl j) = decide (i = j) := by cases i <;> cases j <;> rfl
  rw [e]; exact h⟩
theorem i_isN (h : Q (.bl (decide (v = .non))) H) : rIsN v .non H Q := ⟨rfl, h⟩
theorem i_notN (h : Q (.bl (!decide (v = .non))) H) : rNotN v .non H Q := ⟨rfl, h⟩
theorem i_abs (h : Q (.int (if i < 0 then -i else i)) H) : rAbs [.int i] H Q := ⟨i, rfl, h⟩
theorem i_int1 (h : Q (.int i) H) : rInt1 [.int i] H Q := .inl ⟨i, rfl, h⟩
theorem i_int1b (h : Q (.int (if b then 1 else 0)) H) : rInt1 [.bl b] H Q := .inr ⟨b, rfl, h⟩
theorem i_max2 (h : Q (.int (if j > i then j else i)) H) : rMax2 [.int i, .int j] H Q := ⟨i, j, rfl, h⟩
theorem i_strI (c : i.natAbs.log2 < 1920) (h : Q (.str (toString i)) H) : rStrI [.int i] H Q := ⟨i, rfl, c, h⟩
theorem i_lenL {p : Addr} {ys : List V} (c : SqL K H p ys) (h : Q (.int ys.length) H) : rLenQ K [.ref p] H Q := ⟨p, ys, rfl, .inl c, h⟩
theorem i_lenT {p : Addr} {ys : List V} (c : SqT K H p ys) (h : Q (.int ys.length) H) : rLenQ K [.ref p] H Q := ⟨p, ys, rfl, .inr c, h⟩
theorem i_ixL {p : Addr} {ys : List V} (c : SqL K H p ys) (a : atI ys i = some v) (h : Q v H) : rIxL K (.ref p) (.int i) H Q := ⟨p, ys, i, v, rfl, rfl, c, a, h⟩
theorem i_ixT {p : Addr} {ys : List V} (c : SqT K H p ys) (a : atI ys i = some v) (h : Q v H) : rIxT K (.ref p) (.int i) H Q := ⟨p, ys, i, v, rfl, rfl, c, a, h⟩
/-- a new object stands at p, all else is as it was -/
structure NewAt (H : Hp) (p : Addr) (o : HO) (H1 : Hp) : Prop where
  free : H p = none
  at_ : H1 p = some o
  keep : ∀ S, Keep S H H1
theorem NewAt.mk' {p : Addr} {o : HO} (h : H p = none) : NewAt H p o (upd H p o) := ⟨h, upd_same, fun _ => .new h⟩
theorem NewAt.sqL {p : Addr} {xs : List V} {H1 : Hp} (h : NewAt H p (.lst xs) H1) : SqL K H1 p xs := SqL.of h.at_
theorem NewAt.sqT {p : Addr} {xs : List V} {H1 : Hp} (h : NewAt H p (.tup xs) H1) : SqT K H1 p xs := SqT.of h.at_
def NewL (xs : List V) (H : Hp) (Q : VK) : Prop := xs.length ≤ sizeLine ∧ ∀ p, H p = none → Q (.ref p) (upd H p (.lst xs))
def NewT (xs : List V) (H : Hp) (Q : VK) : Prop := xs.length ≤ sizeLine ∧ ∀ p, H p = none → Q (.ref p) (upd H p (.tup xs))
theorem i_lst (h : ar σ H fun xs H1 => NewL xs H1 Q) : tLst ar σ H Q := h
theorem i_tup (h : ar σ H fun xs H1 => NewT xs H1 Q) : tTup ar σ H Q := h
theorem small_of {n : Nat} (h : n ≤ 1000000) : n ≤ sizeLine := Nat.le_trans h (by decide)
theorem small_lt {n : Nat} (h : n < 1000000) : n < sizeLine := Nat.lt_of_lt_of_le h (by decide)
theorem i_newL {xs : List V} (c : xs.length ≤ 1000000) (h : ∀ p H1, NewAt H p (.lst xs) H1 → Q (.ref p) H1) : NewL xs H Q := ⟨small_of c, fun p np => h p _ (.mk' np)⟩
theorem i_newT {xs : List V} (c : xs.length ≤ 1000000) (h : ∀ p H1, NewAt H p (.tup xs) H1 → Q (.ref p) H1) : NewT xs H Q := ⟨small_of c, fun p np => h p _ (.mk' np)⟩
theorem i_append {to : TE} (h : to σ H fun o H1 => tyV K "list" o H1 ∧ ar σ H1 fun ys H2 => rAppend o ys H2 Q) : tBM K "list" rAppend to ar σ H Q := h
theorem i_app {p : Addr} {xs : List V} (e : H p = some (.lst xs)) (c : xs.length < 1000000) (h : Q .non (upd H p (.lst (xs ++ [v])))) : rAppend (.ref p) [v] H Q := ⟨p, xs, v, rfl, rfl, e, small_lt c, h⟩
theorem i_extend {to : TE} (h : to σ H fun o H1 => tyV K "list" o H1 ∧ ar σ H1 fun ys H2 => rExtend o ys H2 Q) : tBM K "list" rExtend to ar σ H Q := h
theorem i_ext {p q : Addr} {xs zs : List V} (e : H p = some (.lst xs)) (e2 : H q = some (.lst zs)) (c : xs.length + zs.length ≤ 1000000) (h : Q .non (upd H p (.lst (xs ++ zs)))) : rExtend (.ref p) [.ref q] H Q := ⟨p, q, xs, zs, rfl, rfl, e, e2, small_of c, h⟩
theorem i_cat {p q : Addr} {xs zs : List V} (e : H p = some (.lst xs)) (e2 : H q = some (.lst zs)) (c : xs.length + zs.length ≤ 1000000) (h : ∀ r H1, NewAt H r (.lst (xs ++ zs)) H1 → Q (.ref r) H1) : rCat (.ref p) (.ref q) H Q := ⟨p, q, xs, zs, rfl, rfl, e, e2, small_of c, fun r nr => h r _ (.mk' nr)⟩
theorem i_tupL {p : Addr} {xs : List V} (e : SqL K H p xs) (h : ∀ r H1, NewAt H r (.tup xs) H1 → Q (.ref r) H1) : rTupOf K [.ref p] H Q := ⟨p, xs, rfl, .inl ⟨e, fun r nr => h r _ (.mk' nr)⟩⟩
theorem i_lstOf {p : Addr} {xs : List V} (e : SqL K H p xs ∨ SqT K H p xs) (h : ∀ r H1, NewAt H r (.lst xs) H1 → Q (.ref r) H1) : rListOf K [.ref p] H Q := ⟨p, xs, rfl, e, fun r nr => h r _ (.mk' nr)⟩
theorem i_lenQ {p : Addr} {ys : List V} (c : SqL K H p ys ∨ SqT K H p ys) (h : Q (.int ys.length) H) : rLenQ K [.ref p] H Q := ⟨p, ys, rfl, c, h⟩
theorem i_gSub {to ti : TE} {ts : TSet} {QS : L2.St → Hp → Prop} (h : to σ H fun o H1 => ti σ H1 fun i H2 => ts o i v H2 fun H3 => QS σ H3) : gSub to ti ts v σ H QS := h
theorem i_gName {QS : L2.St → Hp → Prop} (h : QS (σ.set n (some v)) H) : gName n v σ H QS := h
theorem i_setL {p : Addr} {xs : List V} {k : Int} {j : Nat} {QH : Hp → Prop} (e : H p = some (.lst xs)) (c : ixN xs.length k = some j) (h : QH (upd H p (.lst (xs.set j v)))) : rSetL (.ref p) (.int k) v H QH := ⟨p, xs, k, j, rfl, rfl, e, c, h⟩
theorem ty_lst {p : Addr} {xs : List V} (e : H p = some (.lst xs)) : tyV K "list" (.ref p) H := .inl ⟨rfl, _, SqL.of e⟩
end
/-! ### loops -/
section
variable {K : PySem.W.Frag} {σ : L2.St} {H : Hp} {Q : VK} {D : Ends} {g : TG} {tb : TS} {ar : TA} {te tl : TE} {wi : TI} {tt : TT} {vs : List Nat} {a : Addr} {xs : List V}
def ForK (J : It) (g : TG) (tb : TS) (D : Ends) (σ : L2.St) (H1 : Hp) : Prop := ∃ W : Nat → Nat → L2.St → Hp → Prop, (∃ m, W 0 m σ H1) ∧ ∀ i m σ H, W i m σ H →
  (J.stop i H ∧ D.nx σ H) ∨ (J.go i H ∧ ∃ N : L2.St → Hp → Prop, (∀ σ' H', N σ' H' → ∃ m', m' < m ∧ W (i + 1) m' σ' H') ∧ ∀ x H', J.yld i H x H' → g x σ H' fun σ2 H2 => tb { D with nx := N, ct := N, bk := D.nx } σ2 H2)
theorem i_for (h : wi σ H fun J H1 => ForK J g tb D σ H1) : tFor wi g tb D σ H := h
def RngK1 (vs : List V) (H : Hp) (R : It → Hp → Prop) : Prop := ∃ j : Int, vs = [.int j] ∧ -(2 ^ 62) ≤ j ∧ j < 2 ^ 62 ∧ R (Itr 0 j.toNat) H
def RngK2 (vs : List V) (H : Hp) (R : It → Hp → Prop) : Prop := ∃ i j : Int, vs = [.int i, .int j] ∧ (-(2 ^ 62) ≤ i ∧ i < 2 ^ 62 ∧ -(2 ^ 62) ≤ j ∧ j < 2 ^ 62) ∧ R (Itr i (j - i).toNat) H
theorem i_rng1 {R : It → Hp → Prop} (h : ar σ H fun vs H1 => RngK1 vs H1 R) : iRng1 ar σ H R := h
theorem i_rng2 {R : It → Hp → Prop} (h : ar σ H fun vs H1 => RngK2 vs H1 R) : iRng2 ar σ H R := h
theorem i_rngK1 {R : It → Hp → Prop} {j : Int} (c : -(2 ^ 62) ≤ j ∧ j < 2 ^ 62) (h : R (Itr 0 j.toNat) H) : RngK1 [.int j] H R := ⟨j, rfl, c.1, c.2, h⟩
theorem i_rngK2 {R : It → Hp → Prop} {i j : Int} (c : -(2 ^ 62) ≤ i ∧ i < 2 ^ 62 ∧ -(2 ^ 62) ≤ j ∧ j < 2 ^ 62) (h : R (Itr i (j - i).toNat) H) : RngK2 [.int i, .int j] H R := ⟨i, j, rfl, c, h⟩
def ListK (K : PySem.W.Frag) (x : V) (H : Hp) (R : It → Hp → Prop) : Prop := ∃ a, x = .ref a ∧ (∃ xs, SqL K H a xs) ∧ R (Itl K a) H
def TupK (K : PySem.W.Frag) (x : V) (H : Hp) (R : It → Hp → Prop) : Prop := ∃ a, x = .ref a ∧ (∃ xs, SqT K H a xs) ∧ R (Itt K a) H
theorem i_list {R : It → Hp → Prop} (h : tl σ H fun x H1 => ListK K x H1 R) : iList K tl σ H R := h
theorem i_tupI {R : It → Hp → Prop} (h : tl σ H fun x H1 => TupK K x H1 R) : iTup K tl σ H R := h
theorem i_listK {R : It → Hp → Prop} (c : SqL K H a xs) (h : R (Itl K a) H) : ListK K (.ref a) H R := ⟨a, rfl, ⟨xs, c⟩, h⟩
theorem i_tupK {R : It → Hp → Prop} (c : SqT K H a xs) (h : R (Itt K a) H) : TupK K (.ref a) H R := ⟨a, rfl, ⟨xs, c⟩, h⟩
/-- for k in range(n) -/
theorem f_rng {n : Nat} (Pv : Nat → L2.St → Hp → Prop) (h0 : Pv 0 σ H)
    (hs : ∀ i σ H, i < n → Pv i σ H → g (.int (i : Int)) σ H fun σ2 H2 => tb { D with nx := Pv (i + 1), ct := Pv (i + 1), bk := D.nx } σ2 H2) (hd : ∀ σ H, Pv n σ H → D.nx σ H) : ForK (Itr 0 n) g tb D σ H :=
  for_range (lo := 0) Pv h0 (fun i σ H hi hp => by have z := hs i σ H hi hp; simpa using z) hd
theorem f_rngL {lo : Int} {n : Nat} (Pv : Nat → L2.St → Hp → Prop) (h0 : Pv 0 σ H)
    (hs : ∀ i σ H, i < n → Pv i σ H → g (.int (lo + i)) σ H fun σ2 H2 => tb { D with nx := Pv (i + 1), ct := Pv (i + 1), bk := D.nx } σ2 H2) (hd : ∀ σ H, Pv n σ H → D.nx σ H) : ForK (Itr lo n) g tb D σ H :=
  for_range (lo := lo) Pv h0 hs hd
theorem f_list (Pv : Nat → L2.St → Hp → Prop) (h0 : Pv 0 σ H) (hl : ∀ i σ H, i ≤ xs.length → Pv i σ H → SqL K H a xs)
    (hs : ∀ i x σ H, xs[i]? = some x → Pv i σ H → g x σ H fun σ2 H2 => tb { D with nx := Pv (i + 1), ct := Pv (i + 1), bk := D.nx } σ2 H2) (hd : ∀ σ H, Pv xs.length σ H → D.nx σ H) : ForK (Itl K a) g tb D σ H :=
  for_list (xs := xs) Pv h0 hl hs hd
theorem f_tup (Pv : Nat → L2.St → Hp → Prop) (h0 : Pv 0 σ H) (hl : ∀ i σ H, i ≤ xs.length → Pv i σ H → SqT K H a xs)
    (hs : ∀ i x σ H, xs[i]? = some x → Pv i σ H → g x σ H fun σ2 H2 => tb { D with nx := Pv (i + 1), ct := Pv (i + 1), bk := D.nx } σ2 H2) (hd : ∀ σ H, Pv xs.length σ H → D.nx σ H) : ForK (Itt K a) g tb D σ H :=
  for_tup (xs := xs) Pv h0 hl hs hd
/-- a comprehension; Pv: the turn, the list so far, the heap -/
def LcK (J : It) (g : TG) (tt : TT) (te : TE) (vs : List Nat) (σ : L2.St) (H1 : Hp) (Q : VK) : Prop := ∀ D, H1 D = none → ∃ W : Nat → Nat → Hp → Prop, (∃ m, W 0 m (upd H1 D (.lst []))) ∧ ∀ i m H, W i m H →
  (J.stop i H ∧ Q (.ref D) H) ∨ (J.go i H ∧ ∃ Nx : Hp → Prop, (∀ H', Nx H' → ∃ m', m' < m ∧ W (i + 1) m' H') ∧ ∀ x H', J.yld i H x H' → g x (wipe σ vs) H' fun σ2 H2 => wipe σ2 vs = wipe σ vs ∧ tt σ2 H2 fun b H3 =>
    if b = true then te σ2 H3 fun y H4 => ∃ acc, H4 D = some (.lst acc) ∧ acc.length < sizeLine ∧ Nx (upd H4 D (.lst (acc ++ [y]))) else Nx H3)
theorem i_lc (h : wi σ H fun J H1 => LcK J g tt te vs σ H1 Q) : tLc wi g tt te vs σ H Q := h
theorem i_yes {QT : Bool → Hp → Prop} (h : QT true H) : tYes σ H QT := h
/-- the end of a turn of a comprehension -/
theorem i_lcN {D : Addr} {acc : List V} {y : V} {N : Hp → Prop} (e : H D = some (.lst acc)) (c : acc.length < 1000000) (h : N (upd H D (.lst (acc ++ [y])))) : ∃ acc, H D = some (.lst acc) ∧ acc.length < sizeLine ∧ N (upd H D (.lst (acc ++ [y]))) := ⟨acc, e, small_lt c, h⟩
theorem c_rng {n : Nat} (Pv : Addr → Nat → Hp → Prop) (h0 : ∀ D, H D = none → Pv D 0 (upd H D (.lst [])))
    (hs : ∀ D i H1, H D = none → i < n → Pv D i H1 → g (.int (i : Int)) (wipe σ vs) H1 fun σ2 H2 => wipe σ2 vs = wipe σ vs ∧ tt σ2 H2 fun b H3 =>
      if b = true then te σ2 H3 fun y H4 => ∃ acc, H4 D = some (.lst acc) ∧ acc.length < sizeLine ∧ Pv D (i + 1) (upd H4 D (.lst (acc ++ [y]))) else Pv D (i + 1) H3)
    (hd : ∀ D H1, H D = none → Pv D n H1 → Q (.ref D) H1) : LcK (Itr 0 n) g tt te vs σ H Q := fun D hD =>
  lc_range (lo := 0) (Pv D) (h0 D hD) (fun i H1 hi hp => by
    have z := hs D i H1 hD hi hp
    have e : (0 : Int) + (i : Int) = i := by omega
    rw [e]
    exact z) (fun H1 hp => hd D H1 hD hp)
theorem c_list (Pv : Addr → Nat → Hp → Prop) (h0 : ∀ D, H D = none → Pv D 0 (upd H D (.lst []))) (hl : ∀ D i H1, H D = none → i ≤ xs.length → Pv D i H1 → SqL K H1 a xs)
    (hs : ∀ D i x H1, H D = none → xs[i]? = some x → Pv D i H1 → g x (wipe σ vs) H1 fun σ2 H2 => wipe σ2 vs = wipe σ vs ∧ tt σ2 H2 fun b H3 =>
      if b = true then te σ2 H3 fun y H4 => ∃ acc, H4 D = some (.lst acc) ∧ acc.length < sizeLine ∧ Pv D (i + 1) (upd H4 D (.lst (acc ++ [y]))) else Pv D (i + 1) H3)
    (hd : ∀ D H1, H D = none → Pv D xs.length H1 → Q (.ref D) H1) : LcK (Itl K a) g tt te vs σ H Q := fun D hD =>
  lc_list (xs := xs) (Pv D) (h0 D hD) (fun i H1 hi hp => hl D i H1 hD hi hp) (fun i x H1 hi hp => hs D i x H1 hD hi hp) (fun H1 hp => hd D H1 hD hp)
theorem c_tup (Pv : Addr → Nat → Hp → Prop) (h0 : ∀ D, H D = none → Pv D 0 (upd H D (.lst []))) (hl : ∀ D i H1, H D = none → i ≤ xs.length → Pv D i H1 → SqT K H1 a xs)
    (hs : ∀ D i x H1, H D = none → xs[i]? = some x → Pv D i H1 → g x (wipe σ vs) H1 fun σ2 H2 => wipe σ2 vs = wipe σ vs ∧ tt σ2 H2 fun b H3 =>
      if b = true then te σ2 H3 fun y H4 => ∃ acc, H4 D = some (.lst acc) ∧ acc.length < sizeLine ∧ Pv D (i + 1) (upd H4 D (.lst (acc ++ [y]))) else Pv D (i + 1) H3)
    (hd : ∀ D H1, H D = none → Pv D xs.length H1 → Q (.ref D) H1) : LcK (Itt K a) g tt te vs σ H Q := fun D hD =>
  lc_tup (xs := xs) (Pv D) (h0 D hD) (fun i H1 hi hp => hl D i H1 hD hi hp) (fun i x H1 hi hp => hs D i x H1 hD hi hp) (fun H1 hp => hd D H1 hD hp)
end

/-! ### the head's facts: any that a program decides over the written part -/
abbrev Fx : Type := PySem.W.Frag → Bool
/-- a def: where it stands, its name, qualified name, parameters, body, scope, defaults -/
structure DefX where
  adr : PySem.W.Frag → Addr
  name : Str
  qual : Str
  params : Arguments
  body : List Stmt
  scope : Scope
  dfl : List He.Dv := []
def dX (adr : PySem.W.Frag → Addr) (name qual : Str) (st : Stmt) (dfl : List He.Dv := []) : DefX := ⟨adr, name, qual, defArgs st, defBody st, defScope st, dfl⟩
def fnX (K : PySem.W.Frag) (a : Addr) : He.FnW := match K.lookup a with
  | some ⟨_, _, .func fd, _⟩ => some (fd.name, fd.qualname, fd.params, fd.body, fd.scope, fd.globals, fd.closure, fd.builtins)
  | _ => none
def DefX.val (d : DefX) : He.FnW := some (d.name, d.qual, d.params, .stmts d.body, d.scope, mainGlobals, [], builtinsNs)
def DefX.dvs (K : PySem.W.Frag) (d : DefX) : List V := d.dfl.map (He.Dv.v K)
def DefX.ok (K : PySem.W.Frag) (d : DefX) : Bool := PySem.W.keepIn K (.ref (d.adr K)) && (match K.lookup (d.adr K) with
  | some ⟨_, _, .func fd, _⟩ => PySem.W.codeIn K fd.code d.qual && He.dflB K fd.defaults (d.dvs K)
  | _ => false)
theorem DefX.funD {K : PySem.W.Frag} {d : DefX} (e : fnX K (d.adr K) = d.val) (c : d.ok K = true) : ∃ fd, FunD K d.name d.qual d.params d.body d.scope (d.dvs K) [] (d.adr K) fd := by
  obtain ⟨kp, c2⟩ := He.ba c
  unfold fnX at e
  cases q : K.lookup (d.adr K) with
  | none =>
    rw [q] at c2
    cases c2
  | some o =>
    obtain ⟨oc, od, dt, osl⟩ := o
    rw [q] at c2 e
    cases dt with
    | func fd =>
      obtain ⟨n1, n2, n3, n4, n5, n6, n7, n8, n9, n10, n11, n12, n13, n14, n15⟩ := fd
      have e2 : (some (n1, n2, n3, n4, n5, n6, n7, n15) : He.FnW) = some (d.name, d.qual, d.params, .stmts d.body, d.scope, mainGlobals, [], builtinsNs) := e
      simp only [Option.some.injEq, Prod.mk.injEq] at e2
      obtain ⟨h1, h2, h3, h4, h5, h6, h7, h8⟩ := e2
      subst h1 h2 h3 h4 h5 h6 h7 h8
      obtain ⟨k1, k2⟩ := He.ba (show (PySem.W.codeIn K n13 d.qual && He.dflB K n8 (d.dvs K)) = true from c2)
      exact ⟨_, ⟨oc, od, n8, n9, n10, n11, n12, n13, n14, osl, rfl, q, k1, He.dflB_ok k2, .inl rfl⟩, kp⟩
    | _ => cases c2
abbrev AlX : Type := Bool × List He.FnW
def obsX (fs : List Fx) (fn : List DefX) (K : PySem.W.Frag) : AlX := ((fs.all fun f => f K) && fn.all fun d => d.ok K, fn.map fun d => fnX K (d.adr K))
def valX (fn : List DefX) : AlX := (true, fn.map DefX.val)
def SaysX (fs : List Fx) (fn : List DefX) (K : PySem.W.Frag) : Prop := obsX fs fn K = valX fn
/-- what the module's names reach, and the statics -/
def asX (n : Nat) (g : Addr → Option Obj) : List Addr := He.asD g n ++ [cStatics]
def obsXG (n : Nat) (fs : List Fx) (fn : List DefX) (g : Addr → Option Obj) : AlX := obsX fs fn (He.frG g (asX n g))
def hookX (n : Nat) (fs : List Fx) (fn : List DefX) : PySem.W.Hook where
  α := AlX
  obs := fun s => obsXG n fs fn s.heap.get?
  val := fun _ => valX fn
  says := fun _ h => ∃ K : PySem.W.Frag, K.In h ∧ SaysX fs fn K
  of := fun _ _ e => ⟨_, He.frG_in, e⟩
  keeps := fun _ _ _ ⟨K, hK, c⟩ k => ⟨K, PySem.W.Frag.In.keeps hK k, c⟩
theorem obsXG_eq {n : Nat} {fs : List Fx} {fn : List DefX} {g : Addr → Option Obj} {s : Shared} (h : ∀ a, g a = s.heap.get? a) : obsXG n fs fn g = (hookX n fs fn).obs s := by
  have e : g = s.heap.get? := funext h
  rw [e] <;> rfl
section
variable {fs : List Fx} {fn : List DefX} {K : PySem.W.Frag}
theorem SaysX.fact (c : SaysX fs fn K) (i : Nat) {f : Fx} (h : fs[i]? = some f := by rfl) : f K = true := by
  have c1 := (He.ba (show ((fs.all fun f => f K) && fn.all fun d => d.ok K) = true from congrArg (fun z : AlX => z.1) c)).1
  exact List.all_eq_true.mp c1 f (List.mem_of_getElem? h)
theorem SaysX.def_ (c : SaysX fs fn K) (i : Nat) {d : DefX} (h : fn[i]? = some d := by rfl) : ∃ fd, FunD K d.name d.qual d.params d.body d.scope (d.dvs K) [] (d.adr K) fd := by
  have c2 := (He.ba (show ((fs.all fun f => f K) && fn.all fun d => d.ok K) = true from congrArg (fun z : AlX => z.1) c)).2
  have e : fn.map (fun d => fnX K (d.adr K)) = fn.map DefX.val := congrArg (fun z : AlX => z.2) c
  have e2 : (fn.map fun d => fnX K (d.adr K))[i]? = (fn.map DefX.val)[i]? := by rw [e]
  rw [List.getElem?_map, List.getElem?_map, h] at e2
  exact DefX.funD (Option.some.inj e2) (List.all_eq_true.mp c2 d (List.mem_of_getElem? h))
end
/-! ### facts -/
def fFa (f : He.Fa) : Fx := fun K => f.ok K
def gA (x : Str) : PySem.W.Frag → Addr := fun K => He.ga K x
def mA (C m : Str) : PySem.W.Frag → Addr := fun K => He.ma K (He.ga K C) m
/-- the getter of a property -/
def pA (C m : Str) : PySem.W.Frag → Addr := fun K => match PySem.W.recIn K (mA C m K) "property" with
  | some (.ref g :: _) => g
  | _ => 0
def propB (C m : Str) : Fx := fun K => decide (PySem.W.findIn K (.ref (gA C K)) m = some (some (.ref (mA C m K)))) && (decide (PySem.W.specialIn K (.ref (mA C m K)) "__get__" = some (some (.builtin "property.__get__"))) && (decide (PySem.W.takesIn K (.ref (mA C m K)) = some true) &&
  (match PySem.W.recIn K (mA C m K) "property" with
  | some (.ref _ :: _) => true
  | _ => false)))
theorem propB_ok {K : PySem.W.Frag} {C m : Str} (h : propB C m K = true) : PropOf K (gA C K) m (mA C m K) (pA C m K) := by
  obtain ⟨h1, h⟩ := He.ba h
  obtain ⟨h2, h⟩ := He.ba h
  obtain ⟨h3, h4⟩ := He.ba h
  refine ⟨of_decide_eq_true h1, of_decide_eq_true h2, of_decide_eq_true h3, ?_⟩
  unfold pA
  cases q : PySem.W.recIn K (mA C m K) "property" with
  | none =>
    rw [q] at h4
    cases h4
  | some l =>
    rw [q] at h4
    match l, h4 with
    | .ref g :: r, _ => exact ⟨r, rfl⟩
/-! ### written constants: tuples at any depth -/
inductive Lit where
  | non | bl (b : Bool) | int (i : Int) | str (x : Str) | tup (ls : List Lit)
mutual
def litB (K : PySem.W.Frag) : Value → Lit → Bool
  | .none, .non => true
  | .bool b, .bl c => b == c
  | .int i _, .int j => decide (i = j)
  | .str x _, .str y => decide (x = y)
  | .ref a, .tup ls => (match K.lookup a with
    | some ⟨.type c, _, .seq its _, _⟩ => decide (c = "tuple") && (decide (its.size ≤ sizeLine) && litsB K its.toList ls)
    | _ => false)
  | _, _ => false
def litsB (K : PySem.W.Frag) : List Value → List Lit → Bool
  | [], [] => true
  | v :: vs, l :: ls => litB K v l && litsB K vs ls
  | _, _ => false
end
mutual
/-- v is, in the written part, the constant -/
def LitIs (K : PySem.W.Frag) : V → Lit → Prop
  | v, .non => v = .non
  | v, .bl b => v = .bl b
  | v, .int i => v = .int i
  | v, .str x => v = .str x
  | v, .tup ls => ∃ a xs, v = .ref a ∧ (∀ H, SqT K H a xs) ∧ LitsAre K xs ls
def LitsAre (K : PySem.W.Frag) : List V → List Lit → Prop
  | xs, [] => xs = []
  | xs, l :: ls => ∃ y ys, xs = y :: ys ∧ LitIs K y l ∧ LitsAre K ys ls
end
mutual
theorem litB_ok {K : PySem.W.Frag} : ∀ {l : Lit} {u : Value}, litB K u l = true → ∃ v, RelV v u ∧ LitIs K v l
  | .non, u, h => by
    cases u <;> first | exact ⟨.non, rfl, rfl⟩ | (simp [litB] at h)
  | .bl b, u, h => by
    cases u with
    | bool c =>
      have e : c = b := by simpa [litB] using h
      subst e
      exact ⟨.bl c, rfl, rfl⟩
    | _ => simp [litB] at h
  | .int i, u, h => by
    cases u with
    | int c t =>
      have e : c = i := by simpa [litB] using h
      subst e
      exact ⟨.int c, ⟨t, rfl⟩, rfl⟩
    | _ => simp [litB] at h
  | .str i, u, h => by
    cases u with
    | str c t =>
      have e : c = i := by simpa [litB] using h
      subst e
      exact ⟨.str c, ⟨t, rfl⟩, rfl⟩
    | _ => simp [litB] at h
  | .tup ls, u, h => by
    cases u with
    | ref a =>
      unfold litB at h
      cases q : K.lookup a with
      | none =>
        rw [q] at h
        cases h
      | some o =>
        obtain ⟨oc, od, dt, osl⟩ := o
        rw [q] at h
        cases oc with
        | type c =>
          cases dt with
          | seq its n =>
            obtain ⟨h1, h2⟩ := He.ba (show (decide (c = "tuple") && (decide (its.size ≤ sizeLine) && litsB K its.toList ls)) = true from h)
            obtain ⟨h3, h4⟩ := He.ba h2
            obtain ⟨xs, hv, hl⟩ := litsB_ok h4
            refine ⟨.ref a, rfl, a, xs, rfl, fun H => .inr ⟨_, its, n, q, congrArg Value.type (of_decide_eq_true h1), rfl, ?_⟩, hl⟩
            first | exact ⟨of_decide_eq_true h3, hv⟩ | exact ⟨rfl, of_decide_eq_true h3, hv⟩
          | _ => cases h
        | _ => cases dt <;> cases h
    | _ => simp [litB] at h
theorem litsB_ok {K : PySem.W.Frag} : ∀ {ls : List Lit} {us : List Value}, litsB K us ls = true → ∃ vs, Vals vs us ∧ LitsAre K vs ls
  | [], us, h => by
    cases us with
    | nil => exact ⟨[], .nil, rfl⟩
    | cons => simp [litsB] at h
  | l :: ls, us, h => by
    cases us with
    | nil => simp [litsB] at h
    | cons u us =>
      obtain ⟨h1, h2⟩ := He.ba (show (litB K u l && litsB K us ls) = true by simpa [litsB] using h)
      obtain ⟨v, r, i⟩ := litB_ok h1
      obtain ⟨vs, rs, is⟩ := litsB_ok h2
      exact ⟨v :: vs, .cons r rs, v, vs, rfl, i, is⟩
end
/-- the module's name x stands for the constant -/
def constB (x : Str) (l : Lit) : Fx := fun K => match PySem.W.nsIn K mainGlobals x with
  | some (some u) => litB K u l
  | _ => false
theorem const_ok {K : PySem.W.Frag} {h : Heap} {mg : Str → Option Value} (X : K.In h) (G : h.Ns mainGlobals mg) {x : Str} {l : Lit} (c : constB x l K = true) : ∃ v u, mg x = some u ∧ RelV v u ∧ LitIs K v l := by
  unfold constB at c
  cases q : PySem.W.nsIn K mainGlobals x with
  | none =>
    rw [q] at c
    cases c
  | some o =>
    rw [q] at c
    cases o with
    | none => cases c
    | some u =>
      obtain ⟨v, r, i⟩ := litB_ok (show litB K u l = true from c)
      exact ⟨v, u, PySem.W.mg_of X G q, r, i⟩

/-! ### classes: the attributes' names in order, a row of values -/
structure Kls (K : PySem.W.Frag) (x : Str) (ns : List Str) : Prop where
  cl : Cls K (gA x K)
  na : ∀ f ∈ ns, NoAttr K (gA x K) f
  nd : ns.Nodup
def klsB (x : Str) (ns : List Str) : Fx := fun K => (He.Fa.cls x).ok K && ((ns.all fun f => (He.Fa.noat x f).ok K) && decide ns.Nodup)
theorem klsB_ok {K : PySem.W.Frag} {x : Str} {ns : List Str} (h : klsB x ns K = true) : Kls K x ns := by
  obtain ⟨h1, h⟩ := He.ba h
  obtain ⟨h2, h3⟩ := He.ba h
  exact ⟨He.cls_ok h1, fun f hf => He.noat_ok (List.all_eq_true.mp h2 f hf), of_decide_eq_true h3⟩
structure CalA (P : Program) (w : World) (K : PySem.W.Frag) (mg : Str → Option Value) (base : Heap) (k : Nat) (a : Addr) (sp : Sp) : Prop where
  ex : ∃ (fd : FuncData) (ps : List Str), FnOk P w K mg base CX0 k a fd ps sp ∧ Binds K fd ps []
theorem zip_lookup {x : Str} {v : V} : ∀ {ns : List Str} {vs : List V} {i : Nat}, ns.Nodup → ns[i]? = some x → vs[i]? = some v → (ns.zip vs).lookup x = some v
  | [], _, _, _, h, _ => by simp at h
  | n :: ns, [], i, _, _, h => by simp at h
  | n :: ns, u :: vs, 0, hn, h, e => by
    obtain rfl : n = x := by simpa using h
    obtain rfl : u = v := by simpa using e
    simp [List.lookup]
  | n :: ns, u :: vs, i + 1, hn, h, e => by
    obtain ⟨h1, h2⟩ := List.nodup_cons.mp hn
    have h' : ns[i]? = some x := by simpa using h
    have ne : (x == n) = false := beq_eq_false_iff_ne.mpr fun z => h1 (z ▸ List.mem_of_getElem? h')
    show (match x == n with
      | true => some u
      | false => (ns.zip vs).lookup x) = some v
    rw [ne]
    exact zip_lookup h2 h' (by simpa using e)
theorem zip_none {x : Str} : ∀ {ns : List Str} {vs : List V}, x ∉ ns → (ns.zip vs).lookup x = none
  | [], _, _ => by simp
  | n :: ns, [], _ => by simp
  | n :: ns, u :: vs, h => by
    have ne : (x == n) = false := beq_eq_false_iff_ne.mpr fun z => h (by simp [z])
    show (match x == n with
      | true => some u
      | false => (ns.zip vs).lookup x) = none
    rw [ne]
    exact zip_none fun z => h (by simp [z])
theorem zip_put {x : Str} {v : V} : ∀ {ns : List Str} {vs : List V} {i : Nat}, ns.Nodup → ns[i]? = some x → i < vs.length → putF x v (ns.zip vs) = ns.zip (vs.set i v)
  | [], _, _, _, h, _ => by simp at h
  | n :: ns, [], i, _, _, h => by simp at h
  | n :: ns, u :: vs, 0, hn, h, e => by
    obtain rfl : n = x := by simpa using h
    simp [putF]
  | n :: ns, u :: vs, i + 1, hn, h, e => by
    obtain ⟨h1, h2⟩ := List.nodup_cons.mp hn
    have h' : ns[i]? = some x := by simpa using h
    have ne : ¬ n = x := fun z => h1 (by rw [z]; exact List.mem_of_getElem? h')
    show (if n = x then (n, v) :: ns.zip vs else (n, u) :: putF x v (ns.zip vs)) = _
    rw [if_neg ne, zip_put h2 h' (by simpa using e)]
    rfl
theorem zip_add {x : Str} {v : V} : ∀ {ns : List Str} {vs : List V}, ns.Nodup → ns[vs.length]? = some x → putF x v (ns.zip vs) = ns.zip (vs ++ [v])
  | [], _, _, h => by simp at h
  | n :: ns, [], hn, h => by
    obtain rfl : n = x := by simpa using h
    simp [putF]
  | n :: ns, u :: vs, hn, h => by
    obtain ⟨h1, h2⟩ := List.nodup_cons.mp hn
    have h' : ns[vs.length]? = some x := by simpa using h
    have ne : ¬ n = x := fun z => h1 (by rw [z]; exact List.mem_of_getElem? h')
    show (if n = x then (n, v) :: ns.zip vs else (n, u) :: putF x v (ns.zip vs)) = _
    rw [if_neg ne, zip_add h2 h']
    rfl
section
variable {K : PySem.W.Frag} {σ : L2.St} {H : Hp} {Q : VK} {D : Ends} {ta tv : TE} {ar : TA} {x f m : Str} {ns : List Str} {vs : List V} {v y : V} {p dx C : Addr} {sp : Sp}
def FldK (K : PySem.W.Frag) (x : V) (f : Str) (H1 : Hp) (Q : VK) : Prop := ∃ a C dx fs v, x = .ref a ∧ H1 a = some (.ins C dx fs) ∧ Cls K C ∧ NoAttr K C f ∧ fs.lookup f = some v ∧ Q v H1
theorem i_fld (h : ta σ H fun x H1 => FldK K x f H1 Q) : tFld K ta f σ H Q := h
theorem i_fldK (k : Kls K x ns) (e : H p = some (.ins (gA x K) dx (ns.zip vs))) (i : Nat) (hf : ns[i]? = some f) (hv : vs[i]? = some v) (h : Q v H) : FldK K (.ref p) f H Q :=
  ⟨p, _, dx, _, v, rfl, e, k.cl, k.na f (List.mem_of_getElem? hf), zip_lookup k.nd hf hv, h⟩
def PutK (K : PySem.W.Frag) (x y : V) (f : Str) (H2 : Hp) (R : Hp → Prop) : Prop := ∃ a C dx fs, x = .ref a ∧ H2 a = some (.ins C dx fs) ∧ Cls K C ∧ NoAttr K C f ∧ fs.length < 1000 ∧ R (upd H2 a (.ins C dx (putF f y fs)))
theorem i_sfld (h : tv σ H fun y H1 => ta σ H1 fun x H2 => PutK K x y f H2 fun H3 => D.nx σ H3) : sFld K ta tv f D σ H := h
theorem i_putK {R : Hp → Prop} (k : Kls K x ns) (e : H p = some (.ins (gA x K) dx (ns.zip vs))) (i : Nat) (hf : ns[i]? = some f) (hi : i < vs.length) (hl : ns.length ≤ 900) (h : R (upd H p (.ins (gA x K) dx (ns.zip (vs.set i y))))) : PutK K (.ref p) y f H R := by
  refine ⟨p, _, dx, _, rfl, e, k.cl, k.na f (List.mem_of_getElem? hf), ?_, ?_⟩
  · rw [List.length_zip]; omega
  · rw [zip_put k.nd hf hi]; exact h
theorem i_putN {R : Hp → Prop} (k : Kls K x ns) (e : H p = some (.ins (gA x K) dx (ns.zip vs))) (hf : ns[vs.length]? = some f) (hl : ns.length ≤ 900) (h : R (upd H p (.ins (gA x K) dx (ns.zip (vs ++ [y]))))) : PutK K (.ref p) y f H R := by
  refine ⟨p, _, dx, _, rfl, e, k.cl, k.na f (List.mem_of_getElem? hf), ?_, ?_⟩
  · rw [List.length_zip]; omega
  · rw [zip_add k.nd hf]; exact h
def MethK (C : Addr) (m : Str) (sp : Sp) (x : V) (ar : TA) (σ : L2.St) (H1 : Hp) (Q : VK) : Prop := ∃ a dx fs, x = .ref a ∧ H1 a = some (.ins C dx fs) ∧ fs.lookup m = none ∧ ar σ H1 fun vs H2 => sp (x :: (vs ++ [])) H2 Q E0
theorem i_meth (h : ta σ H fun x H1 => MethK C m sp x ar σ H1 Q) : tMeth C m sp [] E0 ta ar σ H Q := h
theorem i_methK (e : H p = some (.ins C dx (ns.zip vs))) (hm : m ∉ ns) (h : ar σ H fun vs H2 => sp (.ref p :: vs) H2 Q E0) : MethK C m sp (.ref p) ar σ H Q :=
  ⟨p, dx, _, rfl, e, zip_none hm, by simpa only [List.append_nil] using h⟩
theorem i_prop (h : ta σ H fun x H1 => ∃ a dx fs, x = .ref a ∧ H1 a = some (.ins C dx fs) ∧ sp [.ref a] H1 Q E0) : tProp C sp [] E0 ta σ H Q := h
theorem i_propK {fs : List (Str × V)} (e : H p = some (.ins C dx fs)) (h : sp [.ref p] H Q E0) : ∃ a dx fs, V.ref p = .ref a ∧ H a = some (.ins C dx fs) ∧ sp [.ref a] H Q E0 := ⟨p, dx, fs, rfl, e, h⟩
def MakeK (C : Addr) (sp : Sp) (vs : List V) (H1 : Hp) (Q : VK) : Prop := ∀ x dx, H1 x = none → H1 dx = none → dx ≠ x → sp (.ref x :: vs) (upd (upd H1 dx (.own x)) x (.ins C dx [])) (fun v H2 => v = .non ∧ Q (.ref x) H2) E0
theorem i_make (h : ar σ H fun vs H1 => MakeK C sp vs H1 Q) : tMake C sp [] E0 ar σ H Q := by
  show ar σ H fun vs H1 => MakeK C sp (vs ++ []) H1 Q
  simpa only [List.append_nil] using h
/-- a new instance: what was stands -/
theorem i_makeK {us : List V} (ns : List Str) (h : ∀ p dx H1, H p = none → H1 p = some (.ins C dx (ns.zip [])) → (∀ S, Keep S H H1) → sp (.ref p :: us) H1 (fun v H2 => v = .non ∧ Q (.ref p) H2) E0) : MakeK C sp us H Q := fun p dx hp hdx ne => by
  refine h p dx _ hp (by rw [upd_same, List.zip_nil_right]) fun S => ?_
  exact ((Keep.refl H).put (.inr hdx)).put (.inr hp)
/-! targets of several names -/
theorem i_gTup {n : Nat} {t : TGs} {QS : L2.St → Hp → Prop} (c : SqT K H p vs) (hl : vs.length = n) (h : t vs σ H QS) : gTup K n t (.ref p) σ H QS := ⟨p, vs, rfl, c, hl, h⟩
theorem i_gCons {t : TG} {u : TGs} {QS : L2.St → Hp → Prop} (h : t v σ H fun σ' H' => u vs σ' H' QS) : gCons t u (v :: vs) σ H QS := ⟨v, vs, rfl, h⟩
theorem i_gNil {QS : L2.St → Hp → Prop} (h : QS σ H) : gNil [] σ H QS := ⟨rfl, h⟩
theorem i_isB {a b : Bool} (h : Q (.bl (decide (a = b))) H) : rIsB (.bl a) (.bl b) H Q := ⟨a, b, rfl, rfl, h⟩
theorem i_notB {a b : Bool} (h : Q (.bl (!decide (a = b))) H) : rNotB (.bl a) (.bl b) H Q := ⟨a, b, rfl, rfl, h⟩
end
theorem const_tup {K : PySem.W.Frag} {h : Heap} {mg : Str → Option Value} (X : K.In h) (G : h.Ns mainGlobals mg) {x : Str} {ls : List Lit} (c : constB x (.tup ls) K = true) : mg x = some (.ref (He.ga K x)) ∧ LitIs K (.ref (He.ga K x)) (.tup ls) := by
  unfold constB at c
  cases q : PySem.W.nsIn K mainGlobals x with
  | none =>
    rw [q] at c
    cases c
  | some o =>
    rw [q] at c
    cases o with
    | none => cases c
    | some u =>
      obtain ⟨v, r, i⟩ := litB_ok (show litB K u (.tup ls) = true from c)
      obtain ⟨a, xs, e, h1, h2⟩ := id i
      subst e
      obtain rfl : u = Value.ref a := r
      have e : He.ga K x = a := by unfold He.ga; rw [q]
      rw [e]
      exact ⟨PySem.W.mg_of X G q, i⟩

/-! ### enumerate over a tuple; a list or a tuple walked -/
set_option maxHeartbeats 2000000 in
theorem meets_enum1 {v : Value} {ob : Obj} {Hc : Heap → Prop} (B : Begins v ob Hc) :
    Meets (Builtin.«enumerate.__new__» ⟨[.type "enumerate", v], []⟩) (fun _ R s => Hc s.heap ∧
      R (.ok (.ret (.ref (s.heap.push ob).objs.size))) { s with heap := (s.heap.push ob).push { cls := .type "enumerate", data := .fields #[.none, .bool false, .ref s.heap.objs.size, rawInt 0, .none, .none] } }) :=
  .of_wp fun pr wd A R s hh => by
    obtain ⟨hp, g, d, tk, os⟩ := s
    obtain ⟨hc, hh⟩ := hh
    have hsub := sub_enumerate
    have go : ∀ {A' : Around} {E : Value → Shared → Prop} {Q : Value → Shared → Prop}, Q (.ref hp.objs.size) ⟨hp.push ob, g, d, tk, os⟩ → wpAny (model pr wd) A' (pyIter v) Q E ⟨hp, g, d, tk, os⟩ := fun q => B.iter pr wd _ _ ⟨hp, g, d, tk, os⟩ _ hc q
    wp_walk using go
    refine wpAny_stack_any fun st => wpAny_pure ?_
    split
    · rename_i cc _ _ _ _ _
      cases (cc == Value.type "enumerate") <;> (wp_walk using go; exact ⟨_, rfl, hh⟩)
    · (wp_walk using go; exact ⟨_, rfl, hh⟩)
theorem call_enum1 {prog : Program} {w : World} {A : Around} {E : Value → Shared → Prop} {s : Shared} {v : Value} {ob : Obj} {Hc : Heap → Prop} {Q : Value → Shared → Prop} (B : Begins v ob Hc) (hc : Hc s.heap)
    (k : ∀ h', IsEnum h' (s.heap.objs.size + 1) s.heap.objs.size 0 .none → h'.get? s.heap.objs.size = some ob → (∀ b u, s.heap.get? b = some u → h'.get? b = some u) → Q (.ref (s.heap.objs.size + 1)) { s with heap := h' }) :
    wpAny (model prog w) A (call (.type "enumerate") [v]) Q E s := by
  refine callType_new F.called_enumerate (by decide) (F.typeCall_enumerate_1 _) (F.newCall_enumerate_1 _) (fun z => F.args_object_init_2 z _) F.entry_enumerate_new (meets_enum1 B) ⟨hc, ?_⟩
  have sz : (s.heap.push ob).objs.size = s.heap.objs.size + 1 := Heap.size_push ..
  show _ ∧ _
  rw [sz]
  have en : IsEnum ((s.heap.push ob).push { cls := .type "enumerate", data := .fields #[.none, .bool false, .ref s.heap.objs.size, rawInt 0, .none, .none] }) (s.heap.objs.size + 1) s.heap.objs.size 0 .none := by
    have z := Heap.get?_push_size (s.heap.push ob) (o := { cls := .type "enumerate", data := .fields #[.none, .bool false, .ref s.heap.objs.size, rawInt 0, .none, .none] }) rfl
    rw [sz] at z
    exact z
  exact ⟨⟨_, en, rfl⟩, k _ en (Heap.get?_push_of_some _ (Heap.get?_push_size _ B.free)) fun b u x => Heap.get?_push_of_some _ (Heap.get?_push_of_some _ x)⟩
theorem enum_endT {prog : Program} {w : World} {A : Around} {E : Value → Shared → Prop} {s : Shared} {e it a : Addr} {c : Int} {i : Nat} {its : Array Value} {old : Value} {Q : Option Value → Shared → Prop} (hh : A.handled = none) (he : IsEnum s.heap e it c old)
    (hit : s.heap.IsTupleIter it a i) (ht : s.heap.IsTuple a its) (hx : its[i]? = none) (k : ∀ h', Heap.ExtBut it s.heap h' → Q none { s with heap := h' }) : wpAny (model prog w) A (pyNext (.ref e)) Q E s := by
  have ty : s.TypeIs (.ref e) "enumerate" := ⟨_, he, rfl⟩
  unfold pyNext
  refine wpAny_bind (wpAny_attempt (wpAny_callSpecial?_slot (name := Str.ofString "__next__") ty F.slot_enumerate_next (wpAny_call_entry F.slot_enumerate_next ty F.entry_enumerate_next ?_ (F.args_enumerate_next_1 _))))
  show wpAny _ _ (field (.ref e) 2 >>= _) _ _ _
  refine wpAny_bind (wpAny_field he rfl (x := .ref it) rfl (wpAny_bind (wpAny_nextOf_tuple_end hh hit ht hx fun h' z ex st => ?_)))
  obtain ⟨o, ho, hc⟩ := st
  exact wpAny_bind (wpAny_isInstance (T := "StopIteration") (b := true) ⟨o, ho, hc⟩ isSubtype_stop (wpAny_pure (k _ ex)))
/-- the tuple at a as it stands at each turn, each item in a new pair -/
def IteT (K : PySem.W.Frag) (a : Addr) : It :=
  ⟨fun i H => ∃ (xs : List V) (x : V), SqT K H a xs ∧ xs[i]? = some x, fun i H v H' => ∃ T x, v = .ref T ∧ H T = none ∧ H' = upd H T (.tup [.int (i : Nat), x]) ∧ ∀ xs, SqT K H a xs → xs[i]? = some x, fun i H => ∃ xs : List V, SqT K H a xs ∧ xs.length ≤ i⟩
theorem turn_enumT {P : Program} {w : World} {K : PySem.W.Frag} {elts : List Expr} {kk : Nat} {tpos : Pos} (a e it : Addr) (hae : a ≠ e) (hai : a ≠ it) :
    Turn P w K (.Tuple elts kk tpos) (IteT K a) [e, it] e (fun i h => (∃ old, IsEnum h e it ((i : Nat) : Int) old) ∧ h.IsTupleIter it a i ∧ e ≠ it) where
  mem := by simp
  obj := fun i h st b hb => by
    obtain ⟨⟨old, he⟩, ⟨o, ho, hc, hd⟩, _⟩ := st
    rcases (show b = e ∨ b = it by simpa using hb) with rfl | rfl
    · exact ⟨_, he, fun v q => nomatch q⟩
    · exact ⟨o, ho, fun v q => by rw [hd] at q; cases q⟩
  keep := fun i h h' st k => by
    obtain ⟨⟨old, he⟩, hi, hne⟩ := st
    exact ⟨⟨old, k e (by simp) _ he⟩, hi.at fun o q => k it (by simp) o q, hne⟩
  item := by
    intro X hP hw hK hc i pins s σ H E I hf st hg
    subst hP hw hK
    obtain ⟨⟨old, he⟩, hit, hne⟩ := st
    obtain ⟨xs, x, hq, hx⟩ := hg
    obtain ⟨its, rv, p, hz⟩ := I.tuple hq
    obtain ⟨u, hu, ru⟩ := rv.get hx
    have tup : s.heap.IsTuple a its.toArray := p
    have lte : e < s.heap.objs.size := Heap.lt_size he
    have lti : it < s.heap.objs.size := by obtain ⟨_, q, _⟩ := hit; exact Heap.lt_size q
    have hlt : i < its.toArray.size := by
      have z := (List.getElem?_eq_some_iff.mp hu).1
      simpa using z
    refine wpAny_pyNext_enum_itemD (Draws.tuple (A := X.A.in1) (I.ok.hd hc) it a hai its.toArray) he ⟨hit, tup⟩ hlt hne (by simp [hne, hae.symm]) fun x' h' tk hx' ho st' hT hsz hk => ?_
    obtain rfl : x' = u := by
      have z : its[i]? = some x' := by simpa using hx'
      rw [hu] at z
      exact (Option.some.inj z).symm
    refine ⟨_, rfl, wpAny_letOwnedTupleGo_enum (s := { s with heap := h', toks := tk + 1 }) ho fun h'' he' sb => ?_⟩
    have hT2 := (sb.2 _ (Nat.ne_of_gt lte)).trans hT
    have new : ObjOk X.prog X.w (upd H s.heap.objs.size (.tup [.int (i : Nat), x])) h'' s.heap.objs.size (.tup [.int (i : Nat), x]) :=
      ⟨small_of (by show 2 ≤ 1000000; decide), _, .cons ⟨_, rfl⟩ (.cons ru .nil), ⟨_, hT2, rfl, _, rfl⟩⟩
    have far : ∀ b, b ∈ [e, it] → b < s.heap.objs.size := fun b hb => by
      rcases (show b = e ∨ b = it by simpa using hb) with rfl | rfl
      · exact lte
      · exact lti
    have I1 : Inv X pins σ (upd H s.heap.objs.size (.tup [.int (i : Nat), x])) { s with heap := h'', toks := tk + 1 } :=
      I.turnedNew (ch := [e, it]) (fun b ob hb q => (sb.2 b (fun z => hb (by simp [z]))).trans (hk b ob (fun z => hb (by simp [z])) (fun z => hb (by simp [z])) q)) hf (Nat.le_refl _) new
    refine ⟨.ref s.heap.objs.size, _, I1, rfl, ⟨_, x, rfl, I.hok.fresh (Nat.le_refl _), rfl, fun ys hy => by rw [I.tuple_inj hy hq]; exact hx⟩, ⟨⟨x', ?_⟩, st'.1.at fun o q => (sb.2 it (Ne.symm hne)).trans q, hne⟩, fun b hb => ?_⟩
    · have z : ((i + 1 : Nat) : Int) = (i : Int) + 1 := by omega
      rw [z]
      exact he'
    · rw [upd_ne (Nat.ne_of_lt (far b hb))]
      exact (hf b hb).1
  done := by
    intro X hP hw hK hc i pins s σ H E I hf st hg
    subst hP hw hK
    obtain ⟨⟨old, he⟩, hit, hne⟩ := st
    obtain ⟨xs, hq, hx⟩ := hg
    obtain ⟨its, rv, p, hz⟩ := I.tuple hq
    have tup : s.heap.IsTuple a its.toArray := p
    obtain ⟨f0, f1, f2, f3, f4, f5⟩ := hf it (by simp)
    have hl := rv.length
    exact enum_endT (I.ok.hd hc) he hit tup (by simp; omega) fun h' eb => ⟨rfl, I.turned (t' := s.toks) (fun b o hb q => eb b o hb q) f0 f1 f3 f4 f5⟩
  self := fun A i s Q E st h => let ⟨⟨_, he⟩, _⟩ := st; wpAny_pyIter_enum he h
/-- what a for walks: one way or another -/
theorem PI.or {X : Cx} {tg e : Expr} {wi wj : TI} (h1 : PI X tg e wi) (h2 : PI X tg e wj) : PI X tg e (fun σ H R => wi σ H R ∨ wj σ H R) := ⟨fun pins s σ H R I h => by
  rcases h with h | h
  · exact h1.run pins s σ H R I h
  · exact h2.run pins s σ H R I h⟩
def iSeq (K : PySem.W.Frag) (tl : TE) : TI := fun σ H R => iList K tl σ H R ∨ iTup K tl σ H R
theorem pi_seq {X : Cx} {tg l : Expr} {tl : TE} (hl : PE X l tl) : PI X tg l (iSeq X.K tl) := PI.or (pi_list hl) (pi_tup hl)
def iEnumT (K : PySem.W.Frag) (ta : TA) : TI := fun σ H R => ta σ H fun vs H1 => ∃ a xs, vs = [.ref a] ∧ SqT K H1 a xs ∧ R (IteT K a) H1
theorem pi_enumT {X : Cx} {e : Expr} {ta : TA} {p pos tpos : Pos} {elts : List Expr} {kk : Nat} (hg : Gl X "enumerate") (hm : X.mg "enumerate" = none) (ha : PA X [e] ta) (hs : starEach [e] X.env = [(false, eval e X.env)] := by rfl) :
    PI X (.Tuple elts kk tpos) (.Call (.Name "enumerate" p) [e] [] pos) (iEnumT X.K ta) := by
  refine ⟨fun pins s σ H R I h => ?_⟩
  refine Call_ (ld_blt I hg hm boot_enumerate (PyProof.Rows.callWith_type1 (thn (ha.run pos pins s σ H _ I h) fun us s1 ⟨vs, H1, I1, r1, a, xs, ex, hq, q⟩ => ?_) hs rfl))
  subst ex
  cases r1 with
  | cons r rr =>
    cases rr
    cases r
    obtain ⟨its, rv, p', hz⟩ := I1.tuple hq
    have tup : s1.heap.IsTuple a its.toArray := p'
    have lta : a < s1.heap.objs.size := by obtain ⟨_, q, _⟩ := tup; exact Heap.lt_size q
    refine call_enum1 (begins_tuple a its.toArray) tup fun h' he hit hk => wpAny_pyIter_enum he ?_
    have I2 : Inv X pins σ H1 { s1 with heap := h' } := I1.kept (t' := s1.toks) hk
    refine ⟨s1.heap.objs.size + 1, [s1.heap.objs.size + 1, s1.heap.objs.size], _, _, H1, rfl, I2, turn_enumT a (s1.heap.objs.size + 1) s1.heap.objs.size (Nat.ne_of_lt (Nat.lt_succ_of_lt lta)) (Nat.ne_of_lt lta), ⟨⟨.none, he⟩, ⟨_, hit, rfl, rfl⟩, Nat.succ_ne_self _⟩, fun b hb => ?_, q⟩
    have le : s1.heap.objs.size ≤ b := by
      rcases (show b = s1.heap.objs.size + 1 ∨ b = s1.heap.objs.size by simpa using hb) with z | z
      · rw [z]; exact Nat.le_add_right _ _
      · rw [z]; exact Nat.le_refl _
    exact I1.fpOk le (I1.hok.fresh le)
def iEnumQ (K : PySem.W.Frag) (ta : TA) : TI := fun σ H R => iEnum K ta σ H R ∨ iEnumT K ta σ H R
theorem pi_enumQ {X : Cx} {e : Expr} {ta : TA} {p pos tpos : Pos} {elts : List Expr} {kk : Nat} (hg : Gl X "enumerate") (hm : X.mg "enumerate" = none) (ha : PA X [e] ta) (hs : starEach [e] X.env = [(false, eval e X.env)] := by rfl) :
    PI X (.Tuple elts kk tpos) (.Call (.Name "enumerate" p) [e] [] pos) (iEnumQ X.K ta) := PI.or (pi_enum hg hm ha hs) (pi_enumT hg hm ha hs)
section
variable {K : PySem.W.Frag} {σ : L2.St} {H H0 : Hp} {D : Ends} {g : TG} {tb : TS} {a : Addr} {xs : List V} {S : List Addr} {n : Nat}
/-- a walk of a list or a tuple that stays -/
theorem i_seqFor (e : σ[n]? = some (some (.ref a))) (hq : SqL K H0 a xs ∨ SqT K H0 a xs) (na : a ∉ S) (Pv : Nat → L2.St → Hp → Prop) (hk : ∀ i σ H1, Pv i σ H1 → Keep S H0 H1) (h0 : Pv 0 σ H)
    (hs : ∀ i x σ H1, xs[i]? = some x → Pv i σ H1 → g x σ H1 fun σ2 H2 => tb { D with nx := Pv (i + 1), ct := Pv (i + 1), bk := D.nx } σ2 H2) (hd : ∀ σ H1, Pv xs.length σ H1 → D.nx σ H1) : tFor (iSeq K (tVar n)) g tb D σ H := by
  rcases hq with h | h
  · exact .inl ⟨_, e, a, rfl, ⟨xs, (hk 0 σ H h0).sqL na h⟩, for_list Pv h0 (fun i σ H1 _ hp => (hk i σ H1 hp).sqL na h) hs hd⟩
  · exact .inr ⟨_, e, a, rfl, ⟨xs, (hk 0 σ H h0).sqT na h⟩, for_tup Pv h0 (fun i σ H1 _ hp => (hk i σ H1 hp).sqT na h) hs hd⟩
theorem i_enumFor (e : σ[n]? = some (some (.ref a))) (hq : SqL K H0 a xs ∨ SqT K H0 a xs) (na : a ∉ S) (Pv : Nat → L2.St → Hp → Prop) (hk : ∀ i σ H1, Pv i σ H1 → Keep S H0 H1) (h0 : Pv 0 σ H)
    (hs : ∀ i x σ H1 T H2, xs[i]? = some x → Pv i σ H1 → NewAt H1 T (.tup [.int (i : Nat), x]) H2 → g (.ref T) σ H2 fun σ2 H3 => tb { D with nx := Pv (i + 1), ct := Pv (i + 1), bk := D.nx } σ2 H3) (hd : ∀ σ H1, Pv xs.length σ H1 → D.nx σ H1) : tFor (iEnumQ K (tCons (tVar n) tNil)) g tb D σ H := by
  rcases hq with h | h
  · refine .inl ⟨_, e, a, xs, rfl, (hk 0 σ H h0).sqL na h, ?_⟩
    refine ⟨fun i m σ H1 => m = xs.length - i ∧ i ≤ xs.length ∧ Pv i σ H1, ⟨xs.length, by simp, Nat.zero_le _, h0⟩, ?_⟩
    rintro i m σ H1 ⟨rfl, hi, p⟩
    have q := (hk i σ H1 p).sqL na h
    by_cases hlt : i < xs.length
    · refine .inr ⟨⟨xs, xs[i], q, by simp [hlt]⟩, Pv (i + 1), fun σ' H' p' => ⟨xs.length - (i + 1), by omega, rfl, hlt, p'⟩, fun x H' y => ?_⟩
      obtain ⟨T, z, rfl, hT, rfl, hz⟩ := y
      exact hs i z σ H1 T _ (hz xs q) p (.mk' hT)
    · obtain rfl : i = xs.length := by omega
      exact .inl ⟨⟨xs, q, Nat.le_refl _⟩, hd σ H1 p⟩
  · refine .inr ⟨_, e, a, xs, rfl, (hk 0 σ H h0).sqT na h, ?_⟩
    refine ⟨fun i m σ H1 => m = xs.length - i ∧ i ≤ xs.length ∧ Pv i σ H1, ⟨xs.length, by simp, Nat.zero_le _, h0⟩, ?_⟩
    rintro i m σ H1 ⟨rfl, hi, p⟩
    have q := (hk i σ H1 p).sqT na h
    by_cases hlt : i < xs.length
    · refine .inr ⟨⟨xs, xs[i], q, by simp [hlt]⟩, Pv (i + 1), fun σ' H' p' => ⟨xs.length - (i + 1), by omega, rfl, hlt, p'⟩, fun x H' y => ?_⟩
      obtain ⟨T, z, rfl, hT, rfl, hz⟩ := y
      exact hs i z σ H1 T _ (hz xs q) p (.mk' hT)
    · obtain rfl : i = xs.length := by omega
      exact .inl ⟨⟨xs, q, Nat.le_refl _⟩, hd σ H1 p⟩
end

local macro_rules | `(tactic| walk_at "s1") => `(tactic| first
  | with_reducible refine i_seq ?_
  | with_reducible refine i_asg ?_
  | ((with_reducible refine i_var (v := ?kv) ?ke ?kh); (case ke => rfl))
  | with_reducible refine i_c ?_
  | with_reducible refine i_op ?_
  | with_reducible refine i_un ?_
  | with_reducible refine i_cons ?_
  | with_reducible refine i_nil ?_
  | with_reducible refine i_call ?_
  | with_reducible refine i_cb ?_
  | with_reducible refine i_test ?_
  | with_reducible refine i_tB ?_
  | with_reducible refine i_ex ?_
  | with_reducible refine i_ifS ?_
  | with_reducible refine i_T ?_
  | with_reducible refine i_F ?_
  | with_reducible refine i_NT ?_
  | with_reducible refine i_NF ?_
  | with_reducible refine i_NN ?_
  | with_reducible refine i_ret ?_
  | with_reducible refine i_retN ?_
  | with_reducible refine i_drop ?_
  | with_reducible refine i_next ?_
  | with_reducible refine i_and ?_
  | with_reducible refine i_or ?_
  | with_reducible refine i_not ?_
  | with_reducible refine i_andV ?_
  | with_reducible refine i_orV ?_
  | with_reducible refine i_notV ?_
  | with_reducible refine i_chain ?_
  | with_reducible refine i_if ?_
  | with_reducible refine i_lst ?_
  | with_reducible refine i_tup ?_
  | with_reducible refine i_append ?_
  | with_reducible refine i_extend ?_
  | with_reducible refine i_asgG ?_
  | with_reducible refine i_gSub ?_
  | with_reducible refine i_for ?_
  | with_reducible refine i_rng1 ?_
  | with_reducible refine i_rng2 ?_
  | with_reducible refine i_list ?_
  | with_reducible refine i_tupI ?_
  | with_reducible refine i_lc ?_
  | with_reducible refine i_yes ?_
  | ((with_reducible refine i_rngK1 ?_ ?_); (first | decide | omega))
  | ((with_reducible refine i_rngK2 ?_ ?_); (first | decide | omega))
  | with_reducible refine i_gName ?_
  | with_reducible refine i_add ?_
  | with_reducible refine i_sub ?_
  | with_reducible refine i_lt ?_
  | with_reducible refine i_le ?_
  | with_reducible refine i_gt ?_
  | with_reducible refine i_ge ?_
  | with_reducible refine i_neg ?_
  | with_reducible refine i_eqI ?_
  | with_reducible refine i_neI ?_
  | with_reducible refine i_neB ?_
  | with_reducible refine i_eqB ?_
  | with_reducible refine i_eqS ?_
  | with_reducible refine i_neS ?_
  | with_reducible refine i_isN ?_
  | with_reducible refine i_notN ?_
  | with_reducible refine i_abs ?_
  | with_reducible refine i_int1 ?_
  | with_reducible refine i_int1b ?_
  | with_reducible refine i_max2 ?_
  | with_reducible refine i_band ?_
  | ((with_reducible refine i_div ?_ ?_); (first | decide | omega))
  | ((with_reducible refine i_mod ?_ ?_); (first | decide | omega))
  | ((with_reducible refine i_pow ?_ ?_); (first | decide | omega))
  | ((with_reducible refine i_mulL ?_ ?_); (first | decide | omega))
  | ((with_reducible refine i_mulR ?_ ?_); (first | decide | omega))
  | ((with_reducible refine i_newL ?_ ?_); (exact Nat.le_of_ble_eq_true rfl))
  | ((with_reducible refine i_newT ?_ ?_); (exact Nat.le_of_ble_eq_true rfl)))
local macro_rules | `(tactic| walk_at "go") => `(tactic| repeat (walk_at "s1"))
local macro_rules | `(tactic| walk_at "D") => `(tactic| first
  | ((with_reducible apply i_D); all_goals intro)
  | ((with_reducible apply i_ND); all_goals intro)
  | ((with_reducible apply i_B); all_goals intro))
local macro_rules | `(tactic| walk_at "s1") => `(tactic| first
  | with_reducible refine i_fld ?_
  | with_reducible refine i_sfld ?_
  | with_reducible refine i_meth ?_
  | with_reducible refine i_prop ?_
  | with_reducible refine i_make ?_
  | with_reducible refine i_gCons ?_
  | with_reducible refine i_gNil ?_
  | with_reducible refine i_isB ?_
  | with_reducible refine i_notB ?_)
/-! ### the law's draws -/
def sp__law_cell (K : PySem.W.Frag) : Sp := fun vs H Q _ => ∃ (a : Addr) (ns : List Int) (k : Int), vs = [.ref a, .int k] ∧ SqL K H a (ns.map V.int) ∧ 0 ≤ k ∧ ∀ z, Q (.int z) H
def sp__law_numbers (K : PySem.W.Frag) : Sp := fun vs H Q _ => ∃ (c : Int) (m : Nat), vs = [.int c, .int m] ∧ m ≤ 1000 ∧ ∀ (p : Addr) (ns : List Int) (H1 : Hp), ns.length = m → NewAt H p (.lst (ns.map V.int)) H1 → Q (.ref p) H1
/-- the law's own state: its list, the list of its numbers, the script -/
structure Pst where
  p : Addr
  nl : Addr
  sc : Addr
instance : Coe Pst Addr := ⟨Pst.p⟩
/-- the script stands -/
def Scr (K : PySem.W.Frag) (p : Pst) (ns : List Int) (H : Hp) : Prop := (Rd H p.sc (.lst (ns.map V.int)) ∧ p.sc ≠ p.p) ∨ ∀ H', SqL K H' p.sc (ns.map V.int)
theorem Scr.sq {K : PySem.W.Frag} {p : Pst} {ns : List Int} {H : Hp} (h : Scr K p ns H) : SqL K H p.sc (ns.map V.int) := by
  rcases h with h | h
  · exact .inl h.1
  · exact h H
theorem Scr.keep {K : PySem.W.Frag} {p : Pst} {ns : List Int} {H H1 : Hp} (h : Scr K p ns H) (k : Keep [p] H H1) : Scr K p ns H1 := by
  rcases h with h | h
  · exact .inl ⟨k.rd (by simpa using h.2) h.1, h.2⟩
  · exact .inr h
/-- the law's own state stands at p -/
structure Dr (K : PySem.W.Frag) (p : Pst) (left last : Int) (H : Hp) : Prop where
  ex : ∃ (at_ : Int) (nums ns : List Int), H p = some (.lst [.ref p.nl, .int at_, .int left, .ref p.sc, .int last]) ∧ 0 ≤ at_ ∧ H p.nl = some (.lst (nums.map V.int)) ∧ nums.length = 120 ∧ p.nl ≠ p ∧ Scr K p ns H
def sp__law_state (K : PySem.W.Frag) : Sp := fun vs H Q _ => ∃ (a : Addr) (ns : List Int) (left : Int), vs = [.ref a, .int left] ∧ SqL K H a (ns.map V.int) ∧ ∀ (p : Pst) H1, H p = none → (∀ S, Keep S H H1) → Dr K p left 3 H1 → Q (.ref p) H1
def sp__law_next (K : PySem.W.Frag) : Sp := fun vs H Q _ => ∃ (p : Pst) (left last m : Int), vs = [.ref p, .int m] ∧ 0 < m ∧ Dr K p left last H ∧ ∀ r H1, 0 ≤ r → r < m → Dr K p left last H1 → Keep [p] H H1 → Q (.int r) H1
def sp__law_big (K : PySem.W.Frag) : Sp := sp__law_next K
/-! _law_cell(_law_script, _law_k) : _law_script=0 _law_k=1 -/
def N__law_cell : List Str := ["_law_script", "_law_k"]
-- sp__law_cell
def t__law_cell_0a_0 (K : PySem.W.Frag) : TS := (tRet (tOp (rIxL K) (tVar 0) (tVar 1)))
def t__law_cell_1 (K : PySem.W.Frag) : TS := (tRet (tC (.int 0)))
def t__law_cell_0 (K : PySem.W.Frag) : TS := tSeq (tIfS (tTest (tOp rLtI (tVar 1) (tCB (rLenQ K) (tCons (tVar 0) tNil)))) (t__law_cell_0a_0 K) tNext) (t__law_cell_1 K)
/-! _law_numbers(_law_cell_here, _law_many) : _law_cell_here=0 _law_many=1 _law_rest=2 _law_size=3 _law_numbers_here=4 _law_k=5 _law_mixed=6 -/
def N__law_numbers : List Str := ["_law_cell_here", "_law_many", "_law_rest", "_law_size", "_law_numbers_here", "_law_k", "_law_mixed"]
-- sp__law_numbers
def t__law_numbers_3a_0a_1 (K : PySem.W.Frag) : TS := (tAsg (tOp rDivI (tVar 2) (tC (.int 1000))) (gName 2))
def t__law_numbers_3a_0a_0 (K : PySem.W.Frag) : TS := tSeq (tDrop (tBM K "list" rAppend (tVar 4) (tCons (tOp rModI (tCB rInt1 (tCons (tVar 2) tNil)) (tC (.int 1000))) tNil))) (t__law_numbers_3a_0a_1 K)
def t__law_numbers_3a_0b_2 (K : PySem.W.Frag) : TS := (tDrop (tBM K "list" rAppend (tVar 4) (tCons (tOp rModI (tCB rInt1 (tCons (tOp rDivI (tVar 6) (tC (.int 7))) tNil)) (tC (.int 1000))) tNil)))
def t__law_numbers_3a_0b_1 (K : PySem.W.Frag) : TS := tSeq (tAsg (tOp rModI (tCB rInt1 (tCons (tOp rAddI (tOp rAddI (tOp rMulI (tVar 6) (tVar 6)) (tOp rMulI (tC (.int 40692)) (tVar 5))) (tC (.int 3))) tNil)) (tC (.int 2147483629))) (gName 6)) (t__law_numbers_3a_0b_2 K)
def t__law_numbers_3a_0b_0 (K : PySem.W.Frag) : TS := tSeq (tAsg (tOp rModI (tCB rInt1 (tCons (tOp rAddI (tOp rAddI (tOp rMulI (tVar 3) (tC (.int 48271))) (tOp rMulI (tVar 5) (tC (.int 69621)))) (tC (.int 11))) tNil)) (tC (.int 2147483647))) (gName 6)) (t__law_numbers_3a_0b_1 K)
def t__law_numbers_3a_0 (K : PySem.W.Frag) : TS := (tIfS (tAnd (tTest (tOp rGeI (tVar 3) (tOp rPowI (tC (.int 10)) (tC (.int 18))))) (tTest (tOp rGtI (tVar 2) (tC (.int 0))))) (t__law_numbers_3a_0a_0 K) (t__law_numbers_3a_0b_0 K))
def t__law_numbers_4 (K : PySem.W.Frag) : TS := (tRet (tVar 4))
def t__law_numbers_3 (K : PySem.W.Frag) : TS := tSeq (tFor (iRng1 (tCons (tVar 1) tNil)) (gName 5) (t__law_numbers_3a_0 K)) (t__law_numbers_4 K)
def t__law_numbers_2 (K : PySem.W.Frag) : TS := tSeq (tAsg (tLst tNil) (gName 4)) (t__law_numbers_3 K)
def t__law_numbers_1 (K : PySem.W.Frag) : TS := tSeq (tAsg (tVar 2) (gName 3)) (t__law_numbers_2 K)
def t__law_numbers_0 (K : PySem.W.Frag) : TS := tSeq (tAsg (tCB rAbs (tCons (tVar 0) tNil)) (gName 2)) (t__law_numbers_1 K)
/-! _law_state(_law_script, _law_left) : _law_script=0 _law_left=1 _law_numbers_here=2 _law_parted=3 _law_k=4 -/
def N__law_state : List Str := ["_law_script", "_law_left", "_law_numbers_here", "_law_parted", "_law_k"]
-- sp__law_state
def t__law_state_2a_2 (K : PySem.W.Frag) : TS := (tDrop (tBM K "list" rAppend (tVar 2) (tCons (tOp (rIxL K) (tOp (rIxL K) (tVar 3) (tC (.int 2))) (tVar 4)) tNil)))
def t__law_state_2a_1 (K : PySem.W.Frag) : TS := tSeq (tDrop (tBM K "list" rAppend (tVar 2) (tCons (tOp (rIxL K) (tOp (rIxL K) (tVar 3) (tC (.int 1))) (tVar 4)) tNil))) (t__law_state_2a_2 K)
def t__law_state_2a_0 (K : PySem.W.Frag) : TS := tSeq (tDrop (tBM K "list" rAppend (tVar 2) (tCons (tOp (rIxL K) (tOp (rIxL K) (tVar 3) (tC (.int 0))) (tVar 4)) tNil))) (t__law_state_2a_1 K)
def t__law_state_3 (K : PySem.W.Frag) : TS := (tRet (tLst (tCons (tVar 2) (tCons (tC (.int 0)) (tCons (tVar 1) (tCons (tVar 0) (tCons (tC (.int 3)) tNil)))))))
def t__law_state_2 (K : PySem.W.Frag) : TS := tSeq (tFor (iRng1 (tCons (tC (.int 40)) tNil)) (gName 4) (t__law_state_2a_0 K)) (t__law_state_3 K)
def t__law_state_1 (K : PySem.W.Frag) : TS := tSeq (tAsg (tLc (iRng1 (tCons (tC (.int 3)) tNil)) (gName 4) tYes (tCall (sp__law_numbers K) [] E0 (tCons (tCall (sp__law_cell K) [] E0 (tCons (tVar 0) (tCons (tVar 4) tNil))) (tCons (tC (.int 40)) tNil))) [4]) (gName 3)) (t__law_state_2 K)
def t__law_state_0 (K : PySem.W.Frag) : TS := tSeq (tAsg (tLst tNil) (gName 2)) (t__law_state_1 K)
/-! _law_next(_law_state_here, _law_many) : _law_state_here=0 _law_many=1 _law_at=2 -/
def N__law_next : List Str := ["_law_state_here", "_law_many", "_law_at"]
-- sp__law_next
def t__law_next_2 (K : PySem.W.Frag) : TS := (tRet (tOp rModI (tCB rInt1 (tCons (tOp rAddI (tOp (rIxL K) (tOp (rIxL K) (tVar 0) (tC (.int 0))) (tOp rModI (tVar 2) (tC (.int 120)))) (tOp rMulI (tC (.int 7)) (tOp rDivI (tVar 2) (tC (.int 120))))) tNil)) (tVar 1)))
def t__law_next_1 (K : PySem.W.Frag) : TS := tSeq (tAsg (tOp rAddI (tVar 2) (tC (.int 1))) (gSub (tVar 0) (tC (.int 1)) rSetL)) (t__law_next_2 K)
def t__law_next_0 (K : PySem.W.Frag) : TS := tSeq (tAsg (tOp (rIxL K) (tVar 0) (tC (.int 1))) (gName 2)) (t__law_next_1 K)
/-! _law_big(_law_state_here, _law_many) : _law_state_here=0 _law_many=1 _law_cell_here=2 -/
def N__law_big : List Str := ["_law_state_here", "_law_many", "_law_cell_here"]
-- sp__law_big
def t__law_big_1 (K : PySem.W.Frag) : TS := (tRet (tOp rModI (tCB rInt1 (tCons (tOp rAddI (tOp rMulI (tVar 2) (tC (.int 1009))) (tCall (sp__law_next K) [] E0 (tCons (tVar 0) (tCons (tC (.int 1000)) tNil)))) tNil)) (tVar 1)))
def t__law_big_0 (K : PySem.W.Frag) : TS := tSeq (tAsg (tCB rAbs (tCons (tCall (sp__law_cell K) [] E0 (tCons (tOp (rIxL K) (tVar 0) (tC (.int 3))) (tCons (tOp rAddI (tC (.int 3)) (tCall (sp__law_next K) [] E0 (tCons (tVar 0) (tCons (tC (.int 30)) tNil)))) tNil))) tNil)) (gName 2)) (t__law_big_1 K)
section
variable {K : PySem.W.Frag}
theorem Dr.keep {p : Pst} {left last : Int} {H H1 : Hp} (h : Dr K p left last H) (k : Keep [] H H1) : Dr K p left last H1 := by
  obtain ⟨at_, nums, ns, hp, ha, hn, hl, nn, hs⟩ := h
  exact ⟨at_, nums, ns, k _ _ (by simp) hp, ha, k _ _ (by simp) hn, hl, nn, hs.keep k.all⟩
theorem Dr.new {p : Pst} {q : Addr} {o : HO} {left last : Int} {H H1 : Hp} (h : Dr K p left last H) (n : NewAt H q o H1) : Dr K p left last H1 := h.keep (n.keep [])
theorem Dr.at_ {p : Pst} {left last : Int} {H : Hp} (h : Dr K p left last H) : ∃ xs, H p = some (.lst xs) := by
  obtain ⟨at_, nums, ns, hp, _⟩ := h
  exact ⟨_, hp⟩
theorem Dr.ne {p : Pst} {q : Addr} {o : HO} {left last : Int} {H H1 : Hp} (h : Dr K p left last H) (n : NewAt H q o H1) : p.p ≠ q := by
  obtain ⟨xs, hp⟩ := h.at_
  exact ne_of_none hp n.free
theorem Dr.neT {p : Pst} {q : Addr} {xs : List V} {left last : Int} {H : Hp} (h : Dr K p left last H) (n : H q = some (.tup xs)) : q ≠ p.p := by
  obtain ⟨ys, e⟩ := h.at_
  exact ne_of n e (by intro z; cases z)
/-- what was not there when the state stood may be written -/
theorem Dr.upd {p : Pst} {P : Addr} {o : HO} {l l' t t' : Int} {H0 H : Hp} (h0 : Dr K p l t H0) (hP : H0 P = none) (h : Dr K p l' t' H) : Dr K p l' t' (upd H P o) := by
  obtain ⟨at0, nums0, ns0, hp0, ha0, hn0, hl0, nn0, hs0⟩ := h0
  obtain ⟨at_, nums, ns, hp, ha, hn, hl, nn, hs⟩ := h
  have n1 : p.p ≠ P := ne_of_none hp0 hP
  have n2 : p.nl ≠ P := ne_of_none hn0 hP
  rcases hs0 with ⟨r, _⟩ | r
  · refine ⟨at_, nums, ns, by rw [upd_ne n1]; exact hp, ha, by rw [upd_ne n2]; exact hn, hl, nn, ?_⟩
    rcases hs with ⟨q, e⟩ | q
    · have n3 : p.sc ≠ P := by rcases r with r | ⟨_, r⟩ <;> exact ne_of_none r hP
      refine .inl ⟨?_, e⟩
      rcases q with q | ⟨u, q⟩
      · exact .inl (by rw [upd_ne n3]; exact q)
      · exact .inr ⟨u, by rw [upd_ne n3]; exact q⟩
    · exact .inr q
  · exact ⟨at_, nums, ns0, by rw [upd_ne n1]; exact hp, ha, by rw [upd_ne n2]; exact hn, hl, nn, .inr r⟩
theorem atI_map {ns : List Int} {j : Nat} (h : j < ns.length) : atI (ns.map V.int) (j : Int) = some (.int (ns[j]'h)) := atI_nat (by simp [h])
theorem len__law_cell {vs : List V} {H : Hp} {Q : VK} {E : XK} (h : sp__law_cell K vs H Q E) : vs.length = 2 := by obtain ⟨_, _, _, rfl, _⟩ := h; rfl
theorem r__law_cell {vs : List V} {H : Hp} {Q : VK} {E : XK} (h : sp__law_cell K vs H Q E) : t__law_cell_0 K { nx := fun _ H' => Q .non H', rt := Q } (start N__law_cell vs) H := by
  obtain ⟨a, ns, k, rfl, hs, hk, hq⟩ := h
  obtain ⟨j, rfl⟩ : ∃ j : Nat, k = j := ⟨k.toNat, by omega⟩
  unfold t__law_cell_0
  walk_at "go"
  refine i_lenL hs ?_
  walk_at "go"
  walk_at "D"
  all_goals rename_i h
  · unfold t__law_cell_0a_0
    walk_at "go"
    have h' : j < ns.length := by simpa using h
    exact i_ixL hs (atI_map h') (hq _)
  · walk_at "go"
    unfold t__law_cell_1
    walk_at "go"
    exact hq 0
theorem len__law_next {vs : List V} {H : Hp} {Q : VK} {E : XK} (h : sp__law_next K vs H Q E) : vs.length = 2 := by obtain ⟨_, _, _, _, rfl, _⟩ := h; rfl
theorem r__law_next {vs : List V} {H : Hp} {Q : VK} {E : XK} (h : sp__law_next K vs H Q E) : t__law_next_0 K { nx := fun _ H' => Q .non H', rt := Q } (start N__law_next vs) H := by
  obtain ⟨p, left, last, m, rfl, hm, ⟨at_, nums, ns, hp, ha, hn, hl, nn, hs⟩, hq⟩ := h
  unfold t__law_next_0
  walk_at "go"
  refine i_ixL (SqL.of hp) rfl ?_
  unfold t__law_next_1
  walk_at "go"
  refine i_setL hp rfl ?_
  have k1 : Keep [p] H (upd H p (.lst [.ref p.nl, .int (at_ + 1), .int left, .ref p.sc, .int last])) := Keep.put (.refl H) (.inl (by simp))
  have nn' : p.nl ∉ [p.p] := by simpa using nn
  have hn1 := k1 _ _ nn' hn
  have hs1 := hs.keep k1
  unfold t__law_next_2
  walk_at "go"
  refine i_ixL (SqL.of upd_same) rfl ?_
  walk_at "go"
  obtain ⟨j, hj, hj2⟩ : ∃ j : Nat, at_ % 120 = j ∧ j < nums.length := ⟨(at_ % 120).toNat, by omega, by omega⟩
  rw [hj]
  refine i_ixL (SqL.of hn1) (atI_map hj2) ?_
  walk_at "go"
  refine hq _ _ (Int.emod_nonneg _ (by omega)) (Int.emod_lt_of_pos _ hm) ⟨at_ + 1, nums, ns, upd_same, by omega, hn1, hl, nn, hs1⟩ k1
theorem len__law_big {vs : List V} {H : Hp} {Q : VK} {E : XK} (h : sp__law_big K vs H Q E) : vs.length = 2 := by obtain ⟨_, _, _, _, rfl, _⟩ := h; rfl
theorem r__law_big {vs : List V} {H : Hp} {Q : VK} {E : XK} (h : sp__law_big K vs H Q E) : t__law_big_0 K { nx := fun _ H' => Q .non H', rt := Q } (start N__law_big vs) H := by
  obtain ⟨p, left, last, m, rfl, hm, hd, hq⟩ := h
  obtain ⟨at_, nums, ns, hp, ha, hn, hl, nn, hs⟩ := id hd
  unfold t__law_big_0
  walk_at "go"
  refine i_ixL (SqL.of hp) rfl ?_
  walk_at "go"
  refine ⟨p, left, last, 30, rfl, by decide, hd, fun r H1 r0 r1 hd1 k1 => ?_⟩
  walk_at "go"
  refine ⟨p.sc, ns, 3 + r, rfl, (hs.keep k1).sq, by omega, fun z => ?_⟩
  walk_at "go"
  unfold t__law_big_1
  walk_at "go"
  refine ⟨p, left, last, 1000, rfl, by decide, hd1, fun r2 H2 r20 r21 hd2 k2 => ?_⟩
  walk_at "go"
  exact hq _ _ (Int.emod_nonneg _ (by omega)) (Int.emod_lt_of_pos _ hm) hd2 (k1.trans k2)

theorem len__law_numbers {vs : List V} {H : Hp} {Q : VK} {E : XK} (h : sp__law_numbers K vs H Q E) : vs.length = 2 := by obtain ⟨_, _, rfl, _⟩ := h; rfl
theorem r__law_numbers {vs : List V} {H : Hp} {Q : VK} {E : XK} (h : sp__law_numbers K vs H Q E) : t__law_numbers_0 K { nx := fun _ H' => Q .non H', rt := Q } (start N__law_numbers vs) H := by
  obtain ⟨c, m, rfl, hm, hq⟩ := h
  unfold t__law_numbers_0
  walk_at "go"
  generalize (if c < 0 then -c else c) = s
  unfold t__law_numbers_1
  walk_at "go"
  unfold t__law_numbers_2
  walk_at "go"
  intro p H1 new
  walk_at "go"
  unfold t__law_numbers_3
  walk_at "go"
  refine f_rng (fun i σ H2 => ∃ (r : Int) (ns : List Int) (k mx : Option V), σ = [some (.int c), some (.int m), some (.int r), some (.int s), some (.ref p), k, mx] ∧ ns.length = i ∧ NewAt H p (.lst (ns.map V.int)) H2)
    ⟨s, [], none, none, rfl, rfl, new⟩ ?_ ?_
  · rintro i σ H2 hi ⟨r, ns, k, mx, rfl, hl, new2⟩
    have hi' : i < m := by simpa using hi
    walk_at "go"
    unfold t__law_numbers_3a_0
    have up : ∀ v : Int, NewAt H p (.lst ((ns ++ [v]).map V.int)) (upd H2 p (.lst (ns.map V.int ++ [.int v]))) := fun v => ⟨new2.free, by rw [upd_same, List.map_append]; rfl, fun S => (new2.keep S).put (.inr new2.free)⟩
    walk_at "go"
    have two : t__law_numbers_3a_0b_0 K { nx := fun σ H2 => ∃ (r : Int) (ns : List Int) (k mx : Option V), σ = [some (.int c), some (.int m), some (.int r), some (.int s), some (.ref p), k, mx] ∧ ns.length = i + 1 ∧ NewAt H p (.lst (ns.map V.int)) H2, rt := Q, bk := t__law_numbers_4 K { nx := fun _ H' => Q .non H', rt := Q }, ct := fun σ H2 => ∃ (r : Int) (ns : List Int) (k mx : Option V), σ = [some (.int c), some (.int m), some (.int r), some (.int s), some (.ref p), k, mx] ∧ ns.length = i + 1 ∧ NewAt H p (.lst (ns.map V.int)) H2 } [some (.int c), some (.int m), some (.int r), some (.int s), some (.ref p), some (.int i), mx] H2 := by
      unfold t__law_numbers_3a_0b_0
      walk_at "go"
      generalize hz : ((s * 48271 + (i : Int) * 69621 + 11) % 2147483647) = z
      have z0 : 0 ≤ z ∧ z < 2147483647 := by omega
      unfold t__law_numbers_3a_0b_1
      walk_at "go"
      generalize ((z * z + 40692 * (i : Int) + 3) % 2147483629) = y
      unfold t__law_numbers_3a_0b_2
      walk_at "go"
      refine ⟨ty_lst new2.at_, ?_⟩
      walk_at "go"
      refine i_app new2.at_ (by simp; omega) ?_
      exact ⟨r, ns ++ [y / 7 % 1000], _, _, rfl, by simp [hl], up _⟩
    walk_at "D"
    · walk_at "go"
      walk_at "D"
      · unfold t__law_numbers_3a_0a_0
        walk_at "go"
        refine ⟨ty_lst new2.at_, ?_⟩
        walk_at "go"
        refine i_app new2.at_ (by simp; omega) ?_
        unfold t__law_numbers_3a_0a_1
        walk_at "go"
        exact ⟨r / 1000, ns ++ [r % 1000], _, _, rfl, by simp [hl], up _⟩
      · exact two
    · walk_at "go"
      exact two
  · rintro σ H2 ⟨r, ns, k, mx, rfl, hl, new2⟩
    unfold t__law_numbers_4
    walk_at "go"
    exact hq _ ns _ (by simpa using hl) new2
theorem len__law_state {vs : List V} {H : Hp} {Q : VK} {E : XK} (h : sp__law_state K vs H Q E) : vs.length = 2 := by obtain ⟨_, _, _, rfl, _⟩ := h; rfl
theorem r__law_state {vs : List V} {H : Hp} {Q : VK} {E : XK} (h : sp__law_state K vs H Q E) : t__law_state_0 K { nx := fun _ H' => Q .non H', rt := Q } (start N__law_state vs) H := by
  obtain ⟨a, ns, left, rfl, hs, hq⟩ := h
  unfold t__law_state_0
  walk_at "go"
  intro nl H1 new
  walk_at "go"
  unfold t__law_state_1
  walk_at "go"
  -- the three rows
  have hs1 := (new.keep []).sqL (K := K) (by simp) hs
  refine c_rng (fun D i H2 => ∃ rows : List (Addr × List Int), H2 D = some (.lst (rows.map fun r => V.ref r.1)) ∧ rows.length = i ∧ (∀ r ∈ rows, H2 r.1 = some (.lst (r.2.map V.int)) ∧ r.2.length = 40 ∧ H r.1 = none ∧ r.1 ≠ nl ∧ r.1 ≠ D) ∧ ∀ S, Keep S H1 H2) ?_ ?_ ?_
  · intro D hD
    exact ⟨[], upd_same, rfl, by simp, fun S => .new hD⟩
  · rintro D i H2 hD hi ⟨rows, hDl, hl, hr, kp⟩
    walk_at "go"
    refine ⟨rfl, ?_⟩
    walk_at "go"
    refine ⟨a, ns, i, rfl, (kp []).sqL (by simp) hs1, by omega, fun z => ?_⟩
    walk_at "go"
    refine ⟨z, 40, rfl, by decide, fun p ms H3 hm n3 => ?_⟩
    have hD3 := n3.keep [] _ _ (by simp) hDl
    have hi3 : i < 3 := by simpa using hi
    have nDp : D ≠ p := ne_of_none hDl n3.free
    refine ⟨_, hD3, small_lt (by simp; omega), rows ++ [(p, ms)], by rw [upd_same]; simp, by simp [hl], fun r hr' => ?_, fun S => ((kp S).trans (n3.keep S)).put (.inr hD)⟩
    rcases List.mem_append.mp hr' with h | h
    · obtain ⟨e1, e2, e3, e4, e5⟩ := hr r h
      exact ⟨by rw [upd_ne e5]; exact n3.keep [] _ _ (by simp) e1, e2, e3, e4, e5⟩
    · obtain rfl : r = (p, ms) := by simpa using h
      have f0 : H1 p = none := (kp []).fresh (by simp) n3.free
      exact ⟨by rw [upd_ne nDp.symm]; exact n3.at_, hm, (new.keep []).fresh (by simp) f0, (ne_of_none new.at_ f0).symm, nDp.symm⟩
  · rintro D H2 hD ⟨rows, hDl, hl, hr, kp⟩
    have hl3 : rows.length = 3 := by simpa using hl
    obtain ⟨r0, r1, r2, rfl⟩ : ∃ r0 r1 r2, rows = [r0, r1, r2] := by
      match rows, hl3 with
      | [r0, r1, r2], _ => exact ⟨r0, r1, r2, rfl⟩
    have q0 := hr r0 (by simp)
    have q1 := hr r1 (by simp)
    have q2 := hr r2 (by simp)
    have nlD : nl ≠ D := ne_of_none new.at_ hD
    walk_at "go"
    unfold t__law_state_2
    walk_at "go"
    have hnl : H2 nl = some (.lst []) := kp [] _ _ (by simp) new.at_
    have kp0 : ∀ S, Keep S H H2 := fun S => (new.keep S).trans (kp S)
    refine f_rng (fun i σ H3 => ∃ (nums : List Int) (k : Option V), σ = [some (.ref a), some (.int left), some (.ref nl), some (.ref D), k] ∧ nums.length = 3 * i ∧ H3 nl = some (.lst (nums.map V.int)) ∧ Keep [nl] H2 H3) ⟨[], none, rfl, rfl, hnl, .refl _⟩ ?_ ?_
    · rintro i σ H3 hi ⟨nums, k, rfl, hn, h3, k3⟩
      have hi40 : i < 40 := by simpa using hi
      walk_at "go"
      unfold t__law_state_2a_0
      walk_at "go"
      have put : ∀ (H4 : Hp) (o : HO), Keep [nl] H2 H4 → Keep [nl] H2 (upd H4 nl o) := fun H4 o k => k.put (.inl (by simp))
      have gD : ∀ H4, Keep [nl] H2 H4 → SqL K H4 D [.ref r0.1, .ref r1.1, .ref r2.1] := fun H4 k => SqL.of (k _ _ (by simpa using nlD.symm) (by simpa using hDl))
      have gr : ∀ H4 (r : Addr × List Int), Keep [nl] H2 H4 → (H2 r.1 = some (.lst (r.2.map V.int)) ∧ r.2.length = 40 ∧ H r.1 = none ∧ r.1 ≠ nl ∧ r.1 ≠ D) → SqL K H4 r.1 (r.2.map V.int) := fun H4 r k q => SqL.of (k _ _ (by simpa using q.2.2.2.1) q.1)
      refine ⟨ty_lst h3, ?_⟩
      walk_at "go"
      refine i_ixL (gD _ k3) rfl ?_
      walk_at "go"
      refine i_ixL (gr _ r0 k3 q0) (atI_map (by omega)) ?_
      walk_at "go"
      refine i_app h3 (by simp; omega) ?_
      unfold t__law_state_2a_1
      walk_at "go"
      refine ⟨ty_lst upd_same, ?_⟩
      have k4 := put H3 (.lst (nums.map V.int ++ [.int (r0.2[i]'(by omega))])) k3
      walk_at "go"
      refine i_ixL (gD _ k4) rfl ?_
      walk_at "go"
      refine i_ixL (gr _ r1 k4 q1) (atI_map (by omega)) ?_
      walk_at "go"
      refine i_app upd_same (by simp; omega) ?_
      have k5 := put _ (.lst (nums.map V.int ++ [.int (r0.2[i]'(by omega))] ++ [.int (r1.2[i]'(by omega))])) k4
      unfold t__law_state_2a_2
      walk_at "go"
      refine ⟨ty_lst upd_same, ?_⟩
      walk_at "go"
      refine i_ixL (gD _ k5) rfl ?_
      walk_at "go"
      refine i_ixL (gr _ r2 k5 q2) (atI_map (by omega)) ?_
      walk_at "go"
      refine i_app upd_same (by simp; omega) ?_
      refine ⟨nums ++ [r0.2[i]'(by omega)] ++ [r1.2[i]'(by omega)] ++ [r2.2[i]'(by omega)], _, rfl, by simp; omega, by rw [upd_same]; simp, put _ _ k5⟩
    · rintro σ H3 ⟨nums, k, rfl, hn, h3, k3⟩
      unfold t__law_state_3
      walk_at "go"
      have kH : ∀ S, Keep S H H3 := fun S x o n e => k3 x o (by simpa using ne_of_none e new.free) ((kp0 S) x o n e)
      intro p H4 n4
      refine hq ⟨p, nl, a⟩ H4 ((kH []).fresh (by simp) n4.free) (fun S => (kH S).trans (n4.keep S)) ⟨0, nums, ns, n4.at_, by decide, n4.keep [] _ _ (by simp) h3, by simpa using hn, ne_of_none h3 n4.free, ?_⟩
      rcases hs with h | ⟨o, its, n, h1, h2, h3, h4⟩
      · have h' := (kH []).rd (by simp) h
        refine .inl ⟨(n4.keep []).rd (by simp) h', ?_⟩
        rcases h' with h' | ⟨_, h'⟩ <;> exact ne_of_none h' n4.free
      · exact .inr fun H' => .inr ⟨o, its, n, h1, h2, h3, h4⟩
end
def F_Utf8 : List Str := ["points", "left", "low", "high", "bits"]
def L_LEADS : List Lit := [.tup [.int 194, .int 223, .int 128, .int 191, .int 1, .int 192], .tup [.int 224, .int 224, .int 160, .int 191, .int 2, .int 224], .tup [.int 225, .int 236, .int 128, .int 191, .int 2, .int 224], .tup [.int 237, .int 237, .int 128, .int 159, .int 2, .int 224], .tup [.int 238, .int 239, .int 128, .int 191, .int 2, .int 224], .tup [.int 240, .int 240, .int 144, .int 191, .int 3, .int 240], .tup [.int 241, .int 243, .int 128, .int 191, .int 3, .int 240], .tup [.int 244, .int 244, .int 128, .int 143, .int 3, .int 240]]
/-! ### UTF-8: the mathematics -/
structure U8 where
  pts : List Int
  left : Int
  low : Int
  high : Int
  bits : Int
def u8new : U8 := ⟨[], 0, 128, 191, 0⟩
abbrev Lead := Int × Int × Int × Int × Int × Int
def leadsZ : List Lead := [(194, 223, 128, 191, 1, 192), (224, 224, 160, 191, 2, 224), (225, 236, 128, 191, 2, 224), (237, 237, 128, 159, 2, 224), (238, 239, 128, 191, 2, 224), (240, 240, 144, 191, 3, 240), (241, 243, 128, 191, 3, 240), (244, 244, 128, 143, 3, 240)]
def pickL (o : Int) : List Lead → Option Lead
  | [] => none
  | l :: ls => if l.1 ≤ o ∧ o ≤ l.2.1 then some l else pickL o ls
def u8begin (u : U8) (o : Int) : Option U8 := if o < 128 then some { u with pts := u.pts ++ [o] } else
  match pickL o leadsZ with
  | some l => some { u with low := l.2.2.1, high := l.2.2.2.1, left := l.2.2.2.2.1, bits := o - l.2.2.2.2.2 }
  | none => none
def u8step (u : U8) (o : Int) : U8 := ⟨if u.left - 1 = 0 then u.pts ++ [u.bits * 64 + o - 128] else u.pts, u.left - 1, 128, 191, u.bits * 64 + o - 128⟩
def u8take (u : U8) (o : Int) : Option U8 := if u.left = 0 then u8begin u o else if u.low ≤ o ∧ o ≤ u.high then some (u8step u o) else none
/-- the run over octets from the i-th on: the state, or the index of the octet that is refused -/
def u8run : U8 → Nat → List Int → U8 ⊕ Nat
  | u, _, [] => .inl u
  | u, i, o :: os => match u8take u o with
    | some u' => u8run u' (i + 1) os
    | none => .inr i
def u8dec (os : List Int) : Option (List Int) × Option Int := match u8run u8new 0 os with
  | .inr i => (none, some i)
  | .inl u => if u.left > 0 then (none, some ((os.length : Int) - 1)) else (some u.pts, none)
theorem u8take_len {u u' : U8} {o : Int} (h : u8take u o = some u') : u'.pts.length ≤ u.pts.length + 1 := by
  unfold u8take at h
  split at h
  · unfold u8begin at h
    split at h
    · cases h; simp
    · split at h
      · cases h; simp
      · cases h
  · split at h
    · cases h
      unfold u8step
      dsimp only
      split <;> simp
    · cases h
def u8enc1 (c : Int) : List Int := if c < 128 then [c] else if c < 2048 then [192 + c / 64, 128 + c % 64] else if c < 65536 then [224 + c / 4096, 128 + c / 64 % 64, 128 + c % 64] else [240 + c / 262144, 128 + c / 4096 % 64, 128 + c / 64 % 64, 128 + c % 64]
def u8enc (cs : List Int) : List Int := cs.flatMap u8enc1
theorem u8enc1_len (c : Int) : (u8enc1 c).length ≤ 4 := by
  unfold u8enc1
  split
  · simp
  · split
    · simp
    · split <;> simp
theorem u8enc_len : ∀ cs : List Int, (u8enc cs).length ≤ 4 * cs.length
  | [] => by simp [u8enc]
  | c :: cs => by
    have h1 := u8enc_len cs
    have h2 := u8enc1_len c
    unfold u8enc at h1 ⊢
    rw [List.flatMap_cons, List.length_append, List.length_cons]
    omega
/-! ### promises -/
abbrev cU (K : PySem.W.Frag) : Addr := gA "Utf8" K
def uRow (l : Addr) (u : U8) : List V := [.ref l, .int u.left, .int u.low, .int u.high, .int u.bits]
structure U8At (K : PySem.W.Frag) (H : Hp) (p l : Addr) (u : U8) : Prop where
  ob : ∃ dx, H p = some (.ins (cU K) dx (F_Utf8.zip (uRow l u)))
  pt : H l = some (.lst (u.pts.map V.int))
theorem U8At.ne {K : PySem.W.Frag} {H : Hp} {p l : Addr} {u : U8} (h : U8At K H p l u) : l ≠ p := by
  obtain ⟨⟨dx, e⟩, f⟩ := h
  exact ne_of f e (by intro z; cases z)
theorem U8At.keep {K : PySem.W.Frag} {S : List Addr} {H H1 : Hp} {p l : Addr} {u : U8} (h : U8At K H p l u) (k : Keep S H H1) (hp : p ∉ S) (hl : l ∉ S) : U8At K H1 p l u := by
  obtain ⟨⟨dx, e⟩, f⟩ := h
  exact ⟨⟨dx, k _ _ hp e⟩, k _ _ hl f⟩
def sp_encode_point (K : PySem.W.Frag) : Sp := fun vs H Q _ => ∃ c : Int, vs = [.int c] ∧ ∀ p H1, NewAt H p (.lst ((u8enc1 c).map V.int)) H1 → Q (.ref p) H1
def sp_encode (K : PySem.W.Frag) : Sp := fun vs H Q _ => ∃ (a : Addr) (cs : List Int), vs = [.ref a] ∧ (SqL K H a (cs.map V.int) ∨ SqT K H a (cs.map V.int)) ∧ cs.length ≤ 200000 ∧ ∀ p H1, H p = none → H1 p = some (.lst ((u8enc cs).map V.int)) → Keep [] H H1 → Q (.ref p) H1
def sp_Utf8_init (K : PySem.W.Frag) : Sp := fun vs H Q _ => ∃ p dx : Addr, vs = [.ref p] ∧ H p = some (.ins (cU K) dx (F_Utf8.zip [])) ∧ ∀ l H1, H l = none → U8At K H1 p l u8new → Keep [p] H H1 → Q .non H1
def sp_Utf8_is_open (K : PySem.W.Frag) : Sp := fun vs H Q _ => ∃ (p l : Addr) (u : U8), vs = [.ref p] ∧ U8At K H p l u ∧ Q (.bl (decide (0 < u.left))) H
def spTake (K : PySem.W.Frag) (f : U8 → Int → Option U8) : Sp := fun vs H Q _ => ∃ (p l : Addr) (u : U8) (o : Int), vs = [.ref p, .int o] ∧ U8At K H p l u ∧ u.pts.length < 900000 ∧ (f u o = none → Q (.bl false) H) ∧ ∀ u' H1, f u o = some u' → U8At K H1 p l u' → Keep [p, l] H H1 → Q (.bl true) H1
def sp_Utf8_begin (K : PySem.W.Frag) : Sp := spTake K u8begin
def sp_Utf8_take (K : PySem.W.Frag) : Sp := spTake K u8take
/-- a pair that decode hands back stands at q -/
def DecAt (H : Hp) (q : Addr) : Option (List Int) × Option Int → Prop
  | (some ps, _) => ∃ t, H q = some (.tup [.ref t, .non]) ∧ H t = some (.tup (ps.map V.int))
  | (none, some i) => H q = some (.tup [.non, .int i])
  | (none, none) => False
def sp_decode (K : PySem.W.Frag) : Sp := fun vs H Q _ => ∃ (a : Addr) (os : List Int), vs = [.ref a] ∧ (SqL K H a (os.map V.int) ∨ SqT K H a (os.map V.int)) ∧ os.length ≤ 800000 ∧ ∀ q H1, H q = none → Keep [] H H1 → DecAt H1 q (u8dec os) → Q (.ref q) H1
/-! encode_point(point) : point=0 -/
def N_encode_point : List Str := ["point"]
def t_encode_point_0a_0 (K : PySem.W.Frag) : TS := (tRet (tLst (tCons (tVar 0) tNil)))
def t_encode_point_1a_0 (K : PySem.W.Frag) : TS := (tRet (tLst (tCons (tOp rAddI (tC (.int 192)) (tOp rDivI (tVar 0) (tC (.int 64)))) (tCons (tOp rAddI (tC (.int 128)) (tOp rModI (tVar 0) (tC (.int 64)))) tNil))))
def t_encode_point_2a_0 (K : PySem.W.Frag) : TS := (tRet (tLst (tCons (tOp rAddI (tC (.int 224)) (tOp rDivI (tVar 0) (tC (.int 4096)))) (tCons (tOp rAddI (tC (.int 128)) (tOp rModI (tOp rDivI (tVar 0) (tC (.int 64))) (tC (.int 64)))) (tCons (tOp rAddI (tC (.int 128)) (tOp rModI (tVar 0) (tC (.int 64)))) tNil)))))
def t_encode_point_3 (K : PySem.W.Frag) : TS := (tRet (tLst (tCons (tOp rAddI (tC (.int 240)) (tOp rDivI (tVar 0) (tC (.int 262144)))) (tCons (tOp rAddI (tC (.int 128)) (tOp rModI (tOp rDivI (tVar 0) (tC (.int 4096))) (tC (.int 64)))) (tCons (tOp rAddI (tC (.int 128)) (tOp rModI (tOp rDivI (tVar 0) (tC (.int 64))) (tC (.int 64)))) (tCons (tOp rAddI (tC (.int 128)) (tOp rModI (tVar 0) (tC (.int 64)))) tNil))))))
def t_encode_point_2 (K : PySem.W.Frag) : TS := tSeq (tIfS (tTest (tOp rLtI (tVar 0) (tC (.int 65536)))) (t_encode_point_2a_0 K) tNext) (t_encode_point_3 K)
def t_encode_point_1 (K : PySem.W.Frag) : TS := tSeq (tIfS (tTest (tOp rLtI (tVar 0) (tC (.int 2048)))) (t_encode_point_1a_0 K) tNext) (t_encode_point_2 K)
def t_encode_point_0 (K : PySem.W.Frag) : TS := tSeq (tIfS (tTest (tOp rLtI (tVar 0) (tC (.int 128)))) (t_encode_point_0a_0 K) tNext) (t_encode_point_1 K)
/-! encode(points) : points=0 octets=1 point=2 -/
def N_encode : List Str := ["points", "octets", "point"]
def t_encode_1a_0 (K : PySem.W.Frag) : TS := (tDrop (tBM K "list" rExtend (tVar 1) (tCons (tCall (sp_encode_point K) [] E0 (tCons (tVar 2) tNil)) tNil)))
def t_encode_2 (K : PySem.W.Frag) : TS := (tRet (tVar 1))
def t_encode_1 (K : PySem.W.Frag) : TS := tSeq (tFor (iSeq K (tVar 0)) (gName 2) (t_encode_1a_0 K)) (t_encode_2 K)
def t_encode_0 (K : PySem.W.Frag) : TS := tSeq (tAsg (tLst tNil) (gName 1)) (t_encode_1 K)
/-! __init__(self) : self=0 -/
def N_Utf8_init : List Str := ["self"]
def t_Utf8_init_4 (K : PySem.W.Frag) : TS := (sFld K (tVar 0) (tC (.int 0)) "bits")
def t_Utf8_init_3 (K : PySem.W.Frag) : TS := tSeq (sFld K (tVar 0) (tC (.int 191)) "high") (t_Utf8_init_4 K)
def t_Utf8_init_2 (K : PySem.W.Frag) : TS := tSeq (sFld K (tVar 0) (tC (.int 128)) "low") (t_Utf8_init_3 K)
def t_Utf8_init_1 (K : PySem.W.Frag) : TS := tSeq (sFld K (tVar 0) (tC (.int 0)) "left") (t_Utf8_init_2 K)
def t_Utf8_init_0 (K : PySem.W.Frag) : TS := tSeq (sFld K (tVar 0) (tLst tNil) "points") (t_Utf8_init_1 K)
/-! is_open(self) : self=0 -/
def N_Utf8_is_open : List Str := ["self"]
def t_Utf8_is_open_0 (K : PySem.W.Frag) : TS := (tRet (tOp rGtI (tFld K (tVar 0) "left") (tC (.int 0))))
/-! begin(self, octet) : self=0 octet=1 first=2 last=3 low=4 high=5 left=6 base=7 -/
def N_Utf8_begin : List Str := ["self", "octet", "first", "last", "low", "high", "left", "base"]
def t_Utf8_begin_0a_1 (K : PySem.W.Frag) : TS := (tRet (tC (.bl true)))
def t_Utf8_begin_0a_0 (K : PySem.W.Frag) : TS := tSeq (tDrop (tBM K "list" rAppend (tFld K (tVar 0) "points") (tCons (tVar 1) tNil))) (t_Utf8_begin_0a_1 K)
def t_Utf8_begin_1a_0a_4 (K : PySem.W.Frag) : TS := (tRet (tC (.bl true)))
def t_Utf8_begin_1a_0a_3 (K : PySem.W.Frag) : TS := tSeq (sFld K (tVar 0) (tOp rSubI (tVar 1) (tVar 7)) "bits") (t_Utf8_begin_1a_0a_4 K)
def t_Utf8_begin_1a_0a_2 (K : PySem.W.Frag) : TS := tSeq (sFld K (tVar 0) (tVar 6) "left") (t_Utf8_begin_1a_0a_3 K)
def t_Utf8_begin_1a_0a_1 (K : PySem.W.Frag) : TS := tSeq (sFld K (tVar 0) (tVar 5) "high") (t_Utf8_begin_1a_0a_2 K)
def t_Utf8_begin_1a_0a_0 (K : PySem.W.Frag) : TS := tSeq (sFld K (tVar 0) (tVar 4) "low") (t_Utf8_begin_1a_0a_1 K)
def t_Utf8_begin_1a_0 (K : PySem.W.Frag) : TS := (tIfS (tTest (tChain rLeI rLeI (tVar 2) (tVar 1) (tVar 3))) (t_Utf8_begin_1a_0a_0 K) tNext)
def t_Utf8_begin_2 (K : PySem.W.Frag) : TS := (tRet (tC (.bl false)))
def t_Utf8_begin_1 (K : PySem.W.Frag) : TS := tSeq (tFor (iTup K (tC (.ref (gA "LEADS" K)))) (gTup K 6 (gCons (gName 2) (gCons (gName 3) (gCons (gName 4) (gCons (gName 5) (gCons (gName 6) (gCons (gName 7) gNil))))))) (t_Utf8_begin_1a_0 K)) (t_Utf8_begin_2 K)
def t_Utf8_begin_0 (K : PySem.W.Frag) : TS := tSeq (tIfS (tTest (tOp rLtI (tVar 1) (tC (.int 128)))) (t_Utf8_begin_0a_0 K) tNext) (t_Utf8_begin_1 K)
/-! take(self, octet) : self=0 octet=1 -/
def N_Utf8_take : List Str := ["self", "octet"]
def t_Utf8_take_0a_0 (K : PySem.W.Frag) : TS := (tRet (tMeth (gA "Utf8" K) "begin" (sp_Utf8_begin K) [] E0 (tVar 0) (tCons (tVar 1) tNil)))
def t_Utf8_take_1a_0 (K : PySem.W.Frag) : TS := (tRet (tC (.bl false)))
def t_Utf8_take_6a_0 (K : PySem.W.Frag) : TS := (tDrop (tBM K "list" rAppend (tFld K (tVar 0) "points") (tCons (tFld K (tVar 0) "bits") tNil)))
def t_Utf8_take_7 (K : PySem.W.Frag) : TS := (tRet (tC (.bl true)))
def t_Utf8_take_6 (K : PySem.W.Frag) : TS := tSeq (tIfS (tTest (tOp rEq (tFld K (tVar 0) "left") (tC (.int 0)))) (t_Utf8_take_6a_0 K) tNext) (t_Utf8_take_7 K)
def t_Utf8_take_5 (K : PySem.W.Frag) : TS := tSeq (sFld K (tVar 0) (tOp rSubI (tFld K (tVar 0) "left") (tC (.int 1))) "left") (t_Utf8_take_6 K)
def t_Utf8_take_4 (K : PySem.W.Frag) : TS := tSeq (sFld K (tVar 0) (tC (.int 191)) "high") (t_Utf8_take_5 K)
def t_Utf8_take_3 (K : PySem.W.Frag) : TS := tSeq (sFld K (tVar 0) (tC (.int 128)) "low") (t_Utf8_take_4 K)
def t_Utf8_take_2 (K : PySem.W.Frag) : TS := tSeq (sFld K (tVar 0) (tOp rSubI (tOp rAddI (tOp rMulI (tFld K (tVar 0) "bits") (tC (.int 64))) (tVar 1)) (tC (.int 128))) "bits") (t_Utf8_take_3 K)
def t_Utf8_take_1 (K : PySem.W.Frag) : TS := tSeq (tIfS (tNot (tTest (tChain rLeI rLeI (tFld K (tVar 0) "low") (tVar 1) (tFld K (tVar 0) "high")))) (t_Utf8_take_1a_0 K) tNext) (t_Utf8_take_2 K)
def t_Utf8_take_0 (K : PySem.W.Frag) : TS := tSeq (tIfS (tTest (tOp rEq (tFld K (tVar 0) "left") (tC (.int 0)))) (t_Utf8_take_0a_0 K) tNext) (t_Utf8_take_1 K)
/-! decode(octets) : octets=0 machine=1 index=2 octet=3 -/
def N_decode : List Str := ["octets", "machine", "index", "octet"]
def t_decode_1a_0a_0 (K : PySem.W.Frag) : TS := (tRet (tTup (tCons (tC .non) (tCons (tVar 2) tNil))))
def t_decode_1a_0 (K : PySem.W.Frag) : TS := (tIfS (tNot (tB (tMeth (gA "Utf8" K) "take" (sp_Utf8_take K) [] E0 (tVar 1) (tCons (tVar 3) tNil)))) (t_decode_1a_0a_0 K) tNext)
def t_decode_2a_0 (K : PySem.W.Frag) : TS := (tRet (tTup (tCons (tC .non) (tCons (tOp rSubI (tCB (rLenQ K) (tCons (tVar 0) tNil)) (tC (.int 1))) tNil))))
def t_decode_3 (K : PySem.W.Frag) : TS := (tRet (tTup (tCons (tCB (rTupOf K) (tCons (tFld K (tVar 1) "points") tNil)) (tCons (tC .non) tNil))))
def t_decode_2 (K : PySem.W.Frag) : TS := tSeq (tIfS (tB (tProp (gA "Utf8" K) (sp_Utf8_is_open K) [] E0 (tVar 1))) (t_decode_2a_0 K) tNext) (t_decode_3 K)
def t_decode_1 (K : PySem.W.Frag) : TS := tSeq (tFor (iEnumQ K (tCons (tVar 0) tNil)) (gTup K 2 (gCons (gName 2) (gCons (gName 3) gNil))) (t_decode_1a_0 K)) (t_decode_2 K)
def t_decode_0 (K : PySem.W.Frag) : TS := tSeq (tAsg (tMake (gA "Utf8" K) (sp_Utf8_init K) [] E0 tNil) (gName 1)) (t_decode_1 K)
section
variable {K : PySem.W.Frag}
theorem len_encode_point {vs : List V} {H : Hp} {Q : VK} {E : XK} (h : sp_encode_point K vs H Q E) : vs.length = 1 := by obtain ⟨_, rfl, _⟩ := h; rfl
theorem r_encode_point {vs : List V} {H : Hp} {Q : VK} {E : XK} (h : sp_encode_point K vs H Q E) : t_encode_point_0 K { nx := fun _ H' => Q .non H', rt := Q } (start N_encode_point vs) H := by
  obtain ⟨c, rfl, hq⟩ := h
  unfold u8enc1 at hq
  unfold t_encode_point_0
  walk_at "go"
  walk_at "D"
  all_goals rename_i h1
  · unfold t_encode_point_0a_0
    walk_at "go"
    rw [if_pos h1] at hq
    exact hq
  · rw [if_neg h1] at hq
    walk_at "go"
    unfold t_encode_point_1
    walk_at "go"
    walk_at "D"
    all_goals rename_i h2
    · unfold t_encode_point_1a_0
      walk_at "go"
      rw [if_pos h2] at hq
      exact hq
    · rw [if_neg h2] at hq
      walk_at "go"
      unfold t_encode_point_2
      walk_at "go"
      walk_at "D"
      all_goals rename_i h3
      · unfold t_encode_point_2a_0
        walk_at "go"
        rw [if_pos h3] at hq
        exact hq
      · rw [if_neg h3] at hq
        walk_at "go"
        unfold t_encode_point_3
        walk_at "go"
        exact hq
theorem len_encode {vs : List V} {H : Hp} {Q : VK} {E : XK} (h : sp_encode K vs H Q E) : vs.length = 1 := by obtain ⟨_, _, rfl, _⟩ := h; rfl
theorem get_map {ns : List Int} {i : Nat} {x : V} (h : (ns.map V.int)[i]? = some x) : ∃ n, ns[i]? = some n ∧ x = .int n := by
  rw [List.getElem?_map] at h
  cases e : ns[i]? with
  | none => rw [e] at h; cases h
  | some n => rw [e] at h; exact ⟨n, rfl, (Option.some.inj h).symm⟩
theorem take_succ {ns : List Int} {i : Nat} {x : Int} (h : ns[i]? = some x) : ns.take (i + 1) = ns.take i ++ [x] := by
  rw [List.take_succ, h]
  rfl
theorem r_encode {vs : List V} {H : Hp} {Q : VK} {E : XK} (h : sp_encode K vs H Q E) : t_encode_0 K { nx := fun _ H' => Q .non H', rt := Q } (start N_encode vs) H := by
  obtain ⟨a, cs, rfl, ha, hl, hq⟩ := h
  unfold t_encode_0
  walk_at "go"
  intro p H1 n1
  walk_at "go"
  unfold t_encode_1
  walk_at "go"
  have np : p ∉ ([] : List Addr) := by simp
  have ha1 : SqL K H1 a (cs.map V.int) ∨ SqT K H1 a (cs.map V.int) := by
    rcases ha with h | h
    · exact .inl ((n1.keep []).sqL (by simp) h)
    · exact .inr ((n1.keep []).sqT (by simp) h)
  have kH : ∀ {H2 : Hp} {o : HO}, Keep [] H H2 → Keep [] H (upd H2 p o) := fun k => k.put (.inr n1.free)
  refine i_seqFor (S := []) ha (by simp) (e := rfl) (Pv := fun i σ H2 => ∃ x : Option V, σ = [some (.ref a), some (.ref p), x] ∧ H2 p = some (.lst ((u8enc (cs.take i)).map V.int)) ∧ Keep [] H H2) ?_ ?_ ?_ ?_
  · rintro i σ H2 ⟨x, rfl, e, k⟩
    exact k
  · exact ⟨none, rfl, n1.at_, n1.keep []⟩
  · rintro i x σ H2 hi ⟨y, rfl, e, k⟩
    obtain ⟨c, hc, rfl⟩ := get_map hi
    walk_at "go"
    unfold t_encode_1a_0
    walk_at "go"
    refine ⟨ty_lst e, ?_⟩
    walk_at "go"
    refine ⟨c, rfl, fun q H3 n3 => ?_⟩
    walk_at "go"
    have e3 := n3.keep [] _ _ (by simp) e
    have h1 := u8enc_len (cs.take i)
    have h2 := u8enc1_len c
    have h3 : (cs.take i).length ≤ cs.length := by rw [List.length_take]; omega
    refine i_ext e3 n3.at_ (by simp only [List.length_map]; omega) ?_
    refine ⟨_, rfl, ?_, kH (k.trans (n3.keep []))⟩
    rw [upd_same, take_succ hc]
    simp [u8enc, List.flatMap_append]
  · rintro σ H2 ⟨x, rfl, e, k⟩
    unfold t_encode_2
    walk_at "go"
    rw [List.length_map, List.take_length] at e
    exact hq p H2 n1.free e k
end
section
variable {K : PySem.W.Frag}
theorem len_Utf8_init {vs : List V} {H : Hp} {Q : VK} {E : XK} (h : sp_Utf8_init K vs H Q E) : vs.length = 1 := by obtain ⟨_, _, rfl, _⟩ := h; rfl
theorem r_Utf8_init (kU : Kls K "Utf8" F_Utf8) {vs : List V} {H : Hp} {Q : VK} {E : XK} (h : sp_Utf8_init K vs H Q E) : t_Utf8_init_0 K { nx := fun _ H' => Q .non H', rt := Q } (start N_Utf8_init vs) H := by
  obtain ⟨p, dx, rfl, hp, hq⟩ := h
  unfold t_Utf8_init_0
  walk_at "go"
  intro l H1 n1
  walk_at "go"
  refine i_putN kU (n1.keep [] _ _ (by simp) hp) rfl (by decide) ?_
  unfold t_Utf8_init_1
  walk_at "go"
  refine i_putN kU upd_same rfl (by decide) ?_
  unfold t_Utf8_init_2
  walk_at "go"
  refine i_putN kU upd_same rfl (by decide) ?_
  unfold t_Utf8_init_3
  walk_at "go"
  refine i_putN kU upd_same rfl (by decide) ?_
  unfold t_Utf8_init_4
  walk_at "go"
  refine i_putN kU upd_same rfl (by decide) ?_
  have ne : l ≠ p := (ne_of_none hp n1.free).symm
  refine hq l _ n1.free ⟨⟨dx, upd_same⟩, ?_⟩ ?_
  · rw [upd_ne ne, upd_ne ne, upd_ne ne, upd_ne ne, upd_ne ne]
    exact n1.at_
  · have k : Keep [p] H H1 := n1.keep _
    exact ((((k.put (.inl (by simp))).put (.inl (by simp))).put (.inl (by simp))).put (.inl (by simp))).put (.inl (by simp))
theorem len_Utf8_is_open {vs : List V} {H : Hp} {Q : VK} {E : XK} (h : sp_Utf8_is_open K vs H Q E) : vs.length = 1 := by obtain ⟨_, _, _, rfl, _⟩ := h; rfl
theorem r_Utf8_is_open (kU : Kls K "Utf8" F_Utf8) {vs : List V} {H : Hp} {Q : VK} {E : XK} (h : sp_Utf8_is_open K vs H Q E) : t_Utf8_is_open_0 K { nx := fun _ H' => Q .non H', rt := Q } (start N_Utf8_is_open vs) H := by
  obtain ⟨p, l, u, rfl, ⟨⟨dx, hp⟩, hl⟩, hq⟩ := h
  unfold t_Utf8_is_open_0
  walk_at "go"
  refine i_fldK kU hp 1 rfl rfl ?_
  walk_at "go"
  exact hq
theorem len_Utf8_begin {vs : List V} {H : Hp} {Q : VK} {E : XK} (h : sp_Utf8_begin K vs H Q E) : vs.length = 2 := by obtain ⟨_, _, _, _, rfl, _⟩ := h; rfl
theorem lits_get : ∀ {ls : List Lit} {xs : List V}, LitsAre K xs ls → xs.length = ls.length ∧ ∀ (i : Nat) (x : V), xs[i]? = some x → ∃ l, ls[i]? = some l ∧ LitIs K x l
  | [], xs, h => by
    obtain rfl : xs = [] := h
    exact ⟨rfl, fun i x e => by simp at e⟩
  | l :: ls, xs, h => by
    obtain ⟨y, ys, rfl, h1, h2⟩ := h
    obtain ⟨a, b⟩ := lits_get h2
    refine ⟨by simp [a], fun i x e => ?_⟩
    cases i with
    | zero =>
      obtain rfl : y = x := by simpa using e
      exact ⟨l, rfl, h1⟩
    | succ i => exact b i x (by simpa using e)
def leadV (l : Lead) : List V := [.int l.1, .int l.2.1, .int l.2.2.1, .int l.2.2.2.1, .int l.2.2.2.2.1, .int l.2.2.2.2.2]
def leadL (l : Lead) : Lit := .tup [.int l.1, .int l.2.1, .int l.2.2.1, .int l.2.2.2.1, .int l.2.2.2.2.1, .int l.2.2.2.2.2]
theorem leads_eq : L_LEADS = leadsZ.map leadL := rfl
theorem lead_is {v : V} {l : Lead} (h : LitIs K v (leadL l)) : ∃ b, v = .ref b ∧ ∀ H, SqT K H b (leadV l) := by
  obtain ⟨b, xs, rfl, hs, h⟩ := h
  obtain ⟨_, _, rfl, rfl, _, _, rfl, rfl, _, _, rfl, rfl, _, _, rfl, rfl, _, _, rfl, rfl, _, _, rfl, rfl, rfl⟩ := h
  exact ⟨b, rfl, hs⟩
theorem r_Utf8_begin (kU : Kls K "Utf8" F_Utf8) (hL : LitIs K (.ref (He.ga K "LEADS")) (.tup L_LEADS)) {vs : List V} {H : Hp} {Q : VK} {E : XK} (h : sp_Utf8_begin K vs H Q E) : t_Utf8_begin_0 K { nx := fun _ H' => Q .non H', rt := Q } (start N_Utf8_begin vs) H := by
  obtain ⟨p, l, u, o, rfl, hu, hz, hn, hs⟩ := h
  have ne := hu.ne
  obtain ⟨⟨dx, hp⟩, hl⟩ := id hu
  unfold t_Utf8_begin_0
  walk_at "go"
  walk_at "D"
  all_goals rename_i h1
  · unfold t_Utf8_begin_0a_0
    walk_at "go"
    refine i_fldK kU hp 0 rfl rfl ⟨ty_lst hl, ?_⟩
    walk_at "go"
    refine i_app hl (by simp only [List.length_map]; omega) ?_
    unfold t_Utf8_begin_0a_1
    walk_at "go"
    have e : u8begin u o = some { u with pts := u.pts ++ [o] } := by unfold u8begin; rw [if_pos h1]
    refine hs _ _ e ⟨⟨dx, by rw [upd_ne ne.symm]; exact hp⟩, by rw [upd_same]; simp⟩ ((Keep.refl H).put (.inl (by simp)))
  · walk_at "go"
    have e : u8begin u o = match pickL o leadsZ with
      | some l => some { u with low := l.2.2.1, high := l.2.2.2.1, left := l.2.2.2.2.1, bits := o - l.2.2.2.2.2 }
      | none => none := by unfold u8begin; rw [if_neg h1]
    obtain ⟨b, xs, eb, hsq, hli⟩ := hL
    obtain ⟨hlen, hget⟩ := lits_get hli
    have h8 : xs.length = 8 := hlen
    have eb' : gA "LEADS" K = b := V.ref.inj eb
    unfold t_Utf8_begin_1
    walk_at "go"
    rw [eb']
    refine i_tupK (hsq H) ?_
    refine f_tup (xs := xs) (fun i σ H1 => H1 = H ∧ pickL o leadsZ = pickL o (leadsZ.drop i) ∧ ∃ x1 x2 x3 x4 x5 x6 : Option V, σ = [some (.ref p), some (.int o), x1, x2, x3, x4, x5, x6]) ⟨rfl, rfl, none, none, none, none, none, none, rfl⟩ (fun i σ H1 _ _ => hsq H1) ?_ ?_
    · rintro i x σ H1 hi ⟨rfl, hpk, x1, x2, x3, x4, x5, x6, rfl⟩
      obtain ⟨lt, hlt, his⟩ := hget i x hi
      rw [leads_eq, List.getElem?_map] at hlt
      obtain ⟨ld, hld, rfl⟩ : ∃ ld, leadsZ[i]? = some ld ∧ lt = leadL ld := by
        cases q : leadsZ[i]? with
        | none => rw [q] at hlt; cases hlt
        | some z => rw [q] at hlt; exact ⟨z, rfl, (Option.some.inj hlt).symm⟩
      have hdrop : leadsZ.drop i = ld :: leadsZ.drop (i + 1) := by
        obtain ⟨hb, he⟩ := List.getElem?_eq_some_iff.mp hld
        rw [← he]
        exact (List.getElem_cons_drop hb).symm
      obtain ⟨c, rfl, hc⟩ := lead_is his
      refine i_gTup (hc H1) rfl ?_
      unfold leadV
      walk_at "go"
      unfold t_Utf8_begin_1a_0
      have miss : ¬ (ld.1 ≤ o ∧ o ≤ ld.2.1) → pickL o leadsZ = pickL o (leadsZ.drop (i + 1)) := fun c => by
        rw [hpk, hdrop]
        exact if_neg c
      have miss' : ¬ (ld.1 ≤ o ∧ o ≤ ld.2.1) → ∀ x1 x2 x3 x4 x5 x6 : Option V, H1 = H1 ∧ pickL o leadsZ = pickL o (leadsZ.drop (i + 1)) ∧ ∃ y1 y2 y3 y4 y5 y6 : Option V, [some (V.ref p), some (.int o), x1, x2, x3, x4, x5, x6] = [some (.ref p), some (.int o), y1, y2, y3, y4, y5, y6] := fun c x1 x2 x3 x4 x5 x6 => ⟨rfl, miss c, x1, x2, x3, x4, x5, x6, rfl⟩
      walk_at "go"
      walk_at "D"
      all_goals rename_i h2
      · walk_at "go"
        walk_at "D"
        all_goals rename_i h3
        · unfold t_Utf8_begin_1a_0a_0
          walk_at "go"
          refine i_putK kU hp 2 rfl (Nat.le_of_ble_eq_true rfl) (by decide) ?_
          unfold t_Utf8_begin_1a_0a_1
          walk_at "go"
          refine i_putK kU upd_same 3 rfl (Nat.le_of_ble_eq_true rfl) (by decide) ?_
          unfold t_Utf8_begin_1a_0a_2
          walk_at "go"
          refine i_putK kU upd_same 1 rfl (Nat.le_of_ble_eq_true rfl) (by decide) ?_
          unfold t_Utf8_begin_1a_0a_3
          walk_at "go"
          refine i_putK kU upd_same 4 rfl (Nat.le_of_ble_eq_true rfl) (by decide) ?_
          unfold t_Utf8_begin_1a_0a_4
          walk_at "go"
          have pk : pickL o leadsZ = some ld := by
            rw [hpk, hdrop]
            exact if_pos ⟨h2, h3⟩
          rw [pk] at e
          refine hs _ _ e ⟨⟨dx, upd_same⟩, ?_⟩ (((((Keep.refl H1).put (.inl (by simp))).put (.inl (by simp))).put (.inl (by simp))).put (.inl (by simp)))
          rw [upd_ne ne, upd_ne ne, upd_ne ne, upd_ne ne]
          exact hl
        · walk_at "go"
          exact miss' (fun c => h3 c.2) _ _ _ _ _ _
      · walk_at "go"
        exact miss' (fun c => h2 c.1) _ _ _ _ _ _
    · rintro σ H1 ⟨rfl, hpk, x1, x2, x3, x4, x5, x6, rfl⟩
      unfold t_Utf8_begin_2
      walk_at "go"
      have pk : pickL o leadsZ = none := by
        rw [hpk, h8]
        rfl
      rw [pk] at e
      exact hn e
theorem len_Utf8_take {vs : List V} {H : Hp} {Q : VK} {E : XK} (h : sp_Utf8_take K vs H Q E) : vs.length = 2 := by obtain ⟨_, _, _, _, rfl, _⟩ := h; rfl
theorem r_Utf8_take (kU : Kls K "Utf8" F_Utf8) {vs : List V} {H : Hp} {Q : VK} {E : XK} (h : sp_Utf8_take K vs H Q E) : t_Utf8_take_0 K { nx := fun _ H' => Q .non H', rt := Q } (start N_Utf8_take vs) H := by
  obtain ⟨p, l, u, o, rfl, hu, hz, hn, hs⟩ := h
  have ne := hu.ne
  obtain ⟨⟨dx, hp⟩, hl⟩ := id hu
  unfold t_Utf8_take_0
  walk_at "go"
  refine i_fldK kU hp 1 rfl rfl ?_
  walk_at "go"
  walk_at "D"
  all_goals rename_i h0
  · have e : u8take u o = u8begin u o := by unfold u8take; rw [if_pos h0]
    rw [e] at hn
    unfold t_Utf8_take_0a_0
    walk_at "go"
    refine i_methK hp (by decide +kernel) ?_
    walk_at "go"
    exact ⟨p, l, u, o, rfl, hu, hz, hn, fun u' H1 e1 => hs u' H1 (e.trans e1)⟩
  · walk_at "go"
    have no : ¬ (u.low ≤ o ∧ o ≤ u.high) → t_Utf8_take_1a_0 K { nx := t_Utf8_take_2 K { nx := fun _ H' => Q .non H', rt := Q }, rt := Q } [some (.ref p), some (.int o)] H := fun c => by
      unfold t_Utf8_take_1a_0
      walk_at "go"
      refine hn ?_
      unfold u8take
      rw [if_neg h0, if_neg c]
    unfold t_Utf8_take_1
    walk_at "go"
    refine i_fldK kU hp 2 rfl rfl ?_
    walk_at "go"
    walk_at "D"
    all_goals rename_i h2
    · walk_at "go"
      refine i_fldK kU hp 3 rfl rfl ?_
      walk_at "go"
      walk_at "D"
      · rename_i h3
        exact no fun c => h3 c.2
      · rename_i h3
        have e : u8take u o = some (u8step u o) := by unfold u8take; rw [if_neg h0, if_pos ⟨h2, h3⟩]
        walk_at "go"
        unfold t_Utf8_take_2
        walk_at "go"
        refine i_fldK kU hp 4 rfl rfl ?_
        walk_at "go"
        refine i_putK kU hp 4 rfl (Nat.le_of_ble_eq_true rfl) (by decide) ?_
        unfold t_Utf8_take_3
        walk_at "go"
        refine i_putK kU upd_same 2 rfl (Nat.le_of_ble_eq_true rfl) (by decide) ?_
        unfold t_Utf8_take_4
        walk_at "go"
        refine i_putK kU upd_same 3 rfl (Nat.le_of_ble_eq_true rfl) (by decide) ?_
        unfold t_Utf8_take_5
        walk_at "go"
        refine i_fldK kU upd_same 1 rfl rfl ?_
        walk_at "go"
        refine i_putK kU upd_same 1 rfl (Nat.le_of_ble_eq_true rfl) (by decide) ?_
        unfold t_Utf8_take_6
        walk_at "go"
        refine i_fldK kU upd_same 1 rfl rfl ?_
        walk_at "go"
        have kp : ∀ {H1 : Hp} {o : HO}, Keep [p, l] H H1 → Keep [p, l] H (upd H1 p o) := fun k => k.put (.inl (by simp))
        have kp4 := kp (o := .ins (cU K) dx (F_Utf8.zip (((((uRow l u).set 4 (.int (u.bits * 64 + o - 128))).set 2 (.int 128)).set 3 (.int 191)).set 1 (.int (u.left - 1))))) (kp (o := .ins (cU K) dx (F_Utf8.zip ((((uRow l u).set 4 (.int (u.bits * 64 + o - 128))).set 2 (.int 128)).set 3 (.int 191)))) (kp (o := .ins (cU K) dx (F_Utf8.zip (((uRow l u).set 4 (.int (u.bits * 64 + o - 128))).set 2 (.int 128)))) (kp (o := .ins (cU K) dx (F_Utf8.zip ((uRow l u).set 4 (.int (u.bits * 64 + o - 128))))) (.refl H))))
        generalize hH : upd (upd (upd (upd H p _) p _) p _) p _ = H4 at kp4 ⊢
        have hp4 : H4 p = some (.ins (cU K) dx (F_Utf8.zip (((((uRow l u).set 4 (.int (u.bits * 64 + o - 128))).set 2 (.int 128)).set 3 (.int 191)).set 1 (.int (u.left - 1))))) := by rw [← hH, upd_same]
        have hl4 : H4 l = some (.lst (u.pts.map V.int)) := by rw [← hH, upd_ne ne, upd_ne ne, upd_ne ne, upd_ne ne]; exact hl
        walk_at "D"
        all_goals rename_i h4
        · unfold t_Utf8_take_6a_0
          walk_at "go"
          refine i_fldK kU hp4 0 rfl rfl ⟨ty_lst hl4, ?_⟩
          walk_at "go"
          refine i_fldK kU hp4 4 rfl rfl ?_
          walk_at "go"
          refine i_app hl4 (by simp only [List.length_map]; omega) ?_
          unfold t_Utf8_take_7
          walk_at "go"
          refine hs _ _ e ⟨⟨dx, by rw [upd_ne ne.symm]; exact hp4⟩, ?_⟩ (kp4.put (.inl (by simp)))
          rw [upd_same]
          unfold u8step
          rw [if_pos h4]
          simp
        · walk_at "go"
          unfold t_Utf8_take_7
          walk_at "go"
          refine hs _ _ e ⟨⟨dx, hp4⟩, ?_⟩ kp4
          unfold u8step
          rw [if_neg h4]
          exact hl4
    · walk_at "go"
      exact no fun c => h2 c.1
end
section
variable {K : PySem.W.Frag}
theorem drop_get {os : List Int} {i : Nat} {o : Int} (h : os[i]? = some o) : os.drop i = o :: os.drop (i + 1) := by
  obtain ⟨hb, he⟩ := List.getElem?_eq_some_iff.mp h
  rw [← he]
  exact (List.getElem_cons_drop hb).symm
theorem notin2 {p l : Addr} {S : List Addr} (h : ∀ x ∈ S, x = p ∨ x = l) {H0 : Hp} (hp : H0 p = none) (hl : H0 l = none) {H1 H2 : Hp} (k0 : Keep [] H0 H1) (k : Keep S H1 H2) : Keep [] H0 H2 := fun a o _ e => by
  refine k a o (fun m => ?_) (k0 a o (by simp) e)
  rcases h a m with z | z
  · rw [z, hp] at e; cases e
  · rw [z, hl] at e; cases e
theorem len_decode {vs : List V} {H : Hp} {Q : VK} {E : XK} (h : sp_decode K vs H Q E) : vs.length = 1 := by obtain ⟨_, _, rfl, _⟩ := h; rfl
theorem r_decode (kU : Kls K "Utf8" F_Utf8) {vs : List V} {H : Hp} {Q : VK} {E : XK} (h : sp_decode K vs H Q E) : t_decode_0 K { nx := fun _ H' => Q .non H', rt := Q } (start N_decode vs) H := by
  obtain ⟨a, os, rfl, ha, hlen, hq⟩ := h
  unfold t_decode_0
  walk_at "go"
  refine i_makeK F_Utf8 fun p dx H1 hp0 hp k1 => ?_
  refine ⟨p, dx, rfl, hp, fun l H2 hl0 hu k2 => ⟨rfl, ?_⟩⟩
  have hl00 : H l = none := (k1 []).fresh (by simp) hl0
  have kH : ∀ {H3 : Hp}, Keep [] H H3 → ∀ {H4 : Hp}, Keep [p, l] H3 H4 → Keep [] H H4 := fun {H3} k0 {H4} k => notin2 (S := [p, l]) (fun x hx => by simpa using hx) hp0 hl00 k0 k
  have k12 : Keep [] H H2 := kH (k1 []) (k2.mono (by simp))
  walk_at "go"
  unfold t_decode_1
  walk_at "go"
  refine i_enumFor (S := []) ha (by simp) (e := rfl) (Pv := fun i σ H3 => ∃ (u : U8) (x2 x3 : Option V), σ = [some (.ref a), some (.ref p), x2, x3] ∧ U8At K H3 p l u ∧ u8run u8new 0 os = u8run u i (os.drop i) ∧ u.pts.length ≤ i ∧ Keep [] H H3) ?_ ?_ ?_ ?_
  · rintro i σ H3 ⟨u, x2, x3, rfl, _, _, _, k⟩
    exact k
  · exact ⟨u8new, none, none, rfl, hu, rfl, Nat.le_refl _, k12⟩
  · rintro i x σ H3 T H4 hi ⟨u, x2, x3, rfl, hu3, hrun, hle, k3⟩ n4
    obtain ⟨o, ho, rfl⟩ := get_map hi
    have hil : i < os.length := (List.getElem?_eq_some_iff.mp ho).1
    have hu4 := hu3.keep (n4.keep []) (by simp) (by simp)
    obtain ⟨⟨dx4, hp4⟩, hl4⟩ := id hu4
    refine i_gTup n4.sqT rfl ?_
    walk_at "go"
    unfold t_decode_1a_0
    walk_at "go"
    refine i_methK hp4 (by decide +kernel) ?_
    walk_at "go"
    rw [drop_get ho] at hrun
    have hrun' : u8run u8new 0 os = match u8take u o with
      | some u' => u8run u' (i + 1) (os.drop (i + 1))
      | none => .inr i := hrun
    refine ⟨p, l, u, o, rfl, hu4, by omega, fun e => ?_, fun u' H5 e hu5 k5 => ?_⟩
    · rw [e] at hrun'
      walk_at "go"
      unfold t_decode_1a_0a_0
      walk_at "go"
      intro q H5 n5
      refine hq q H5 ((k3.trans (n4.keep [])).fresh (by simp) n5.free) ((k3.trans (n4.keep [])).trans (n5.keep [])) ?_
      have e2 : u8dec os = (none, some (i : Int)) := by unfold u8dec; rw [hrun']
      rw [e2]
      exact n5.at_
    · rw [e] at hrun'
      walk_at "go"
      exact ⟨u', _, _, rfl, hu5, hrun', by have := u8take_len e; omega, kH (k3.trans (n4.keep [])) k5⟩
  · rintro σ H3 ⟨u, x2, x3, rfl, hu3, hrun, hle, k3⟩
    obtain ⟨⟨dx3, hp3⟩, hl3⟩ := id hu3
    rw [List.length_map, List.drop_length] at hrun
    have hrun' : u8run u8new 0 os = .inl u := hrun
    unfold t_decode_2
    walk_at "go"
    refine i_propK hp3 ⟨p, l, u, rfl, hu3, ?_⟩
    walk_at "go"
    walk_at "D"
    all_goals rename_i hz
    · unfold t_decode_2a_0
      walk_at "go"
      refine i_lenQ (ys := os.map V.int) (by
        rcases ha with h | h
        · exact .inl (k3.sqL (by simp) h)
        · exact .inr (k3.sqT (by simp) h)) ?_
      walk_at "go"
      intro q H5 n5
      refine hq q H5 (k3.fresh (by simp) n5.free) (k3.trans (n5.keep [])) ?_
      have e2 : u8dec os = (none, some ((os.length : Int) - 1)) := by
        unfold u8dec
        rw [hrun']
        exact if_pos hz
      rw [e2]
      have z := n5.at_
      rw [List.length_map] at z
      exact z
    · walk_at "go"
      unfold t_decode_3
      walk_at "go"
      refine i_fldK kU hp3 0 rfl rfl ?_
      walk_at "go"
      refine i_tupL (SqL.of hl3) fun t H4 n4 => ?_
      walk_at "go"
      intro q H5 n5
      refine hq q H5 ((k3.trans (n4.keep [])).fresh (by simp) n5.free) ((k3.trans (n4.keep [])).trans (n5.keep [])) ?_
      have e2 : u8dec os = (some u.pts, none) := by
        unfold u8dec
        rw [hrun']
        exact if_neg hz
      rw [e2]
      exact ⟨t, n5.at_, n5.keep [] _ _ (by simp) n4.at_⟩
end
/-! ### UTF-8: written and taken again -/
def okPt (c : Int) : Prop := 0 ≤ c ∧ c ≤ 1114111 ∧ ¬ (55296 ≤ c ∧ c ≤ 57343)
theorem pk1 {o : Int} (h : 194 ≤ o ∧ o ≤ 223) : pickL o leadsZ = some (194, 223, 128, 191, 1, 192) := by
  simp only [leadsZ, pickL]
  repeat (first | rw [if_pos (by omega)] | rw [if_neg (by omega)])
theorem pk2 {o : Int} (h : 224 ≤ o ∧ o ≤ 224) : pickL o leadsZ = some (224, 224, 160, 191, 2, 224) := by
  simp only [leadsZ, pickL]
  repeat (first | rw [if_pos (by omega)] | rw [if_neg (by omega)])
theorem pk3 {o : Int} (h : 225 ≤ o ∧ o ≤ 236) : pickL o leadsZ = some (225, 236, 128, 191, 2, 224) := by
  simp only [leadsZ, pickL]
  repeat (first | rw [if_pos (by omega)] | rw [if_neg (by omega)])
theorem pk4 {o : Int} (h : 237 ≤ o ∧ o ≤ 237) : pickL o leadsZ = some (237, 237, 128, 159, 2, 224) := by
  simp only [leadsZ, pickL]
  repeat (first | rw [if_pos (by omega)] | rw [if_neg (by omega)])
theorem pk5 {o : Int} (h : 238 ≤ o ∧ o ≤ 239) : pickL o leadsZ = some (238, 239, 128, 191, 2, 224) := by
  simp only [leadsZ, pickL]
  repeat (first | rw [if_pos (by omega)] | rw [if_neg (by omega)])
theorem pk6 {o : Int} (h : 240 ≤ o ∧ o ≤ 240) : pickL o leadsZ = some (240, 240, 144, 191, 3, 240) := by
  simp only [leadsZ, pickL]
  repeat (first | rw [if_pos (by omega)] | rw [if_neg (by omega)])
theorem pk7 {o : Int} (h : 241 ≤ o ∧ o ≤ 243) : pickL o leadsZ = some (241, 243, 128, 191, 3, 240) := by
  simp only [leadsZ, pickL]
  repeat (first | rw [if_pos (by omega)] | rw [if_neg (by omega)])
theorem pk8 {o : Int} (h : 244 ≤ o ∧ o ≤ 244) : pickL o leadsZ = some (244, 244, 128, 143, 3, 240) := by
  simp only [leadsZ, pickL]
  repeat (first | rw [if_pos (by omega)] | rw [if_neg (by omega)])
theorem begin_lead {u : U8} {o : Int} {l : Lead} (h0 : u.left = 0) (h : 128 ≤ o) (p : pickL o leadsZ = some l) : u8take u o = some { u with low := l.2.2.1, high := l.2.2.2.1, left := l.2.2.2.2.1, bits := o - l.2.2.2.2.2 } := by
  unfold u8take u8begin
  rw [if_pos h0, if_neg (by omega), p]
theorem take_more {u : U8} {o : Int} (h0 : 1 < u.left) (h : u.low ≤ o ∧ o ≤ u.high) : u8take u o = some ⟨u.pts, u.left - 1, 128, 191, u.bits * 64 + o - 128⟩ := by
  unfold u8take u8step
  rw [if_neg (by omega), if_pos h, if_neg (by omega)]
theorem take_last {u : U8} {o : Int} (h0 : u.left = 1) (h : u.low ≤ o ∧ o ≤ u.high) : u8take u o = some ⟨u.pts ++ [u.bits * 64 + o - 128], 0, 128, 191, u.bits * 64 + o - 128⟩ := by
  unfold u8take u8step
  rw [if_neg (by omega), if_pos h, if_pos (by omega), h0]
  rfl
/-- the states on the way through the octets of one code point -/
inductive Way : U8 → List Int → List U8 → Prop
  | nil (u : U8) : Way u [] [u]
  | cons {u v : U8} {o : Int} {os : List Int} {us : List U8} : u8take u o = some v → Way v os us → Way u (o :: os) (u :: us)
theorem two_ways {u : U8} {pts : List Int} {lo hi b : Int} {o1 o2 : Int} (h1 : u8take u o1 = some ⟨pts, 1, lo, hi, b⟩) (h2 : lo ≤ o2 ∧ o2 ≤ hi) :
    Way u [o1, o2] [u, ⟨pts, 1, lo, hi, b⟩, ⟨pts ++ [b * 64 + o2 - 128], 0, 128, 191, b * 64 + o2 - 128⟩] :=
  .cons h1 (.cons (take_last rfl h2) (.nil _))
theorem three_ways {u : U8} {pts : List Int} {lo hi b : Int} {o1 o2 o3 : Int} (h1 : u8take u o1 = some ⟨pts, 2, lo, hi, b⟩) (h2 : lo ≤ o2 ∧ o2 ≤ hi) (h3 : 128 ≤ o3 ∧ o3 ≤ 191) :
    Way u [o1, o2, o3] [u, ⟨pts, 2, lo, hi, b⟩, ⟨pts, 1, 128, 191, b * 64 + o2 - 128⟩, ⟨pts ++ [(b * 64 + o2 - 128) * 64 + o3 - 128], 0, 128, 191, (b * 64 + o2 - 128) * 64 + o3 - 128⟩] :=
  .cons h1 (.cons (take_more (by show (1 : Int) < 2; decide) h2) (.cons (take_last rfl h3) (.nil _)))
theorem four_ways {u : U8} {pts : List Int} {lo hi b : Int} {o1 o2 o3 o4 : Int} (h1 : u8take u o1 = some ⟨pts, 3, lo, hi, b⟩) (h2 : lo ≤ o2 ∧ o2 ≤ hi) (h3 : 128 ≤ o3 ∧ o3 ≤ 191) (h4 : 128 ≤ o4 ∧ o4 ≤ 191) :
    Way u [o1, o2, o3, o4] [u, ⟨pts, 3, lo, hi, b⟩, ⟨pts, 2, 128, 191, b * 64 + o2 - 128⟩, ⟨pts, 1, 128, 191, (b * 64 + o2 - 128) * 64 + o3 - 128⟩, ⟨pts ++ [((b * 64 + o2 - 128) * 64 + o3 - 128) * 64 + o4 - 128], 0, 128, 191, ((b * 64 + o2 - 128) * 64 + o3 - 128) * 64 + o4 - 128⟩] :=
  .cons h1 (.cons (take_more (by show (1 : Int) < 3; decide) h2) (.cons (take_more (by show (1 : Int) < 2; decide) h3) (.cons (take_last rfl h4) (.nil _))))
/-- the states within a character have the points as before and wait; the last one has the point -/
structure Mid (u : U8) (c : Int) (us : List U8) : Prop where
  way : Way u (u8enc1 c) us
  mid : ∀ k a, 0 < k → k < (u8enc1 c).length → us[k]? = some a → a.pts = u.pts ∧ 0 < a.left
  last : ∀ a, us[(u8enc1 c).length]? = some a → a.pts = u.pts ++ [c] ∧ a.left = 0
theorem mid_of {u : U8} {c : Int} (h0 : u.left = 0) (h : okPt c) : ∃ us, Mid u c us := by
  obtain ⟨g0, g1, g2⟩ := h
  by_cases c1 : c < 128
  · have e : u8enc1 c = [c] := if_pos c1
    refine ⟨[u, { u with pts := u.pts ++ [c] }], ?_, ?_, ?_⟩
    · rw [e]
      refine .cons ?_ (.nil _)
      unfold u8take u8begin
      rw [if_pos h0, if_pos c1]
    · intro k a k0 k1
      rw [e] at k1
      simp at k1
      omega
    · intro a ha
      rw [e] at ha
      obtain rfl := Option.some.inj ha
      exact ⟨rfl, h0⟩
  · by_cases c2 : c < 2048
    · have e : u8enc1 c = [192 + c / 64, 128 + c % 64] := by unfold u8enc1; rw [if_neg c1, if_pos c2]
      have w := two_ways (begin_lead h0 (by omega) (pk1 (o := 192 + c / 64) (by omega))) (o2 := 128 + c % 64) (by dsimp only; omega)
      refine ⟨_, by rw [e]; exact w, ?_, ?_⟩
      · intro k a k0 k1 ha
        rw [e] at k1
        have k1' : k < 2 := k1
        obtain rfl : k = 1 := by omega
        obtain rfl := Option.some.inj ha
        exact ⟨rfl, by show (0 : Int) < 1; decide⟩
      · intro a ha
        rw [e] at ha
        obtain rfl := Option.some.inj ha
        refine ⟨?_, rfl⟩
        dsimp only
        rw [show (192 + c / 64 - 192) * 64 + (128 + c % 64) - 128 = c by omega]
    · by_cases c3 : c < 65536
      · have e : u8enc1 c = [224 + c / 4096, 128 + c / 64 % 64, 128 + c % 64] := by unfold u8enc1; rw [if_neg c1, if_neg c2, if_pos c3]
        have w : ∃ lo hi b, Way u [224 + c / 4096, 128 + c / 64 % 64, 128 + c % 64] [u, ⟨u.pts, 2, lo, hi, b⟩, ⟨u.pts, 1, 128, 191, b * 64 + (128 + c / 64 % 64) - 128⟩, ⟨u.pts ++ [(b * 64 + (128 + c / 64 % 64) - 128) * 64 + (128 + c % 64) - 128], 0, 128, 191, (b * 64 + (128 + c / 64 % 64) - 128) * 64 + (128 + c % 64) - 128⟩] ∧ b = 224 + c / 4096 - 224 := by
          have l3 : 128 ≤ 128 + c % 64 ∧ 128 + c % 64 ≤ 191 := by omega
          by_cases d1 : c < 4096
          · exact ⟨_, _, _, three_ways (begin_lead h0 (by omega) (pk2 (o := 224 + c / 4096) (by omega))) (by dsimp only; omega) l3, rfl⟩
          · by_cases d2 : c < 53248
            · exact ⟨_, _, _, three_ways (begin_lead h0 (by omega) (pk3 (o := 224 + c / 4096) (by omega))) (by dsimp only; omega) l3, rfl⟩
            · by_cases d3 : c < 57344
              · exact ⟨_, _, _, three_ways (begin_lead h0 (by omega) (pk4 (o := 224 + c / 4096) (by omega))) (by dsimp only; omega) l3, rfl⟩
              · exact ⟨_, _, _, three_ways (begin_lead h0 (by omega) (pk5 (o := 224 + c / 4096) (by omega))) (by dsimp only; omega) l3, rfl⟩
        obtain ⟨lo, hi, b, w, hb⟩ := w
        refine ⟨_, by rw [e]; exact w, ?_, ?_⟩
        · intro k a k0 k1 ha
          rw [e] at k1
          have k1' : k < 3 := k1
          rcases (show k = 1 ∨ k = 2 by omega) with rfl | rfl
          · obtain rfl := Option.some.inj ha
            exact ⟨rfl, by show (0 : Int) < 2; decide⟩
          · obtain rfl := Option.some.inj ha
            exact ⟨rfl, by show (0 : Int) < 1; decide⟩
        · intro a ha
          rw [e] at ha
          obtain rfl := Option.some.inj ha
          refine ⟨?_, rfl⟩
          dsimp only
          rw [show (b * 64 + (128 + c / 64 % 64) - 128) * 64 + (128 + c % 64) - 128 = c by omega]
      · have e : u8enc1 c = [240 + c / 262144, 128 + c / 4096 % 64, 128 + c / 64 % 64, 128 + c % 64] := by unfold u8enc1; rw [if_neg c1, if_neg c2, if_neg c3]
        have w : ∃ lo hi b, Way u [240 + c / 262144, 128 + c / 4096 % 64, 128 + c / 64 % 64, 128 + c % 64] [u, ⟨u.pts, 3, lo, hi, b⟩, ⟨u.pts, 2, 128, 191, b * 64 + (128 + c / 4096 % 64) - 128⟩, ⟨u.pts, 1, 128, 191, (b * 64 + (128 + c / 4096 % 64) - 128) * 64 + (128 + c / 64 % 64) - 128⟩, ⟨u.pts ++ [((b * 64 + (128 + c / 4096 % 64) - 128) * 64 + (128 + c / 64 % 64) - 128) * 64 + (128 + c % 64) - 128], 0, 128, 191, ((b * 64 + (128 + c / 4096 % 64) - 128) * 64 + (128 + c / 64 % 64) - 128) * 64 + (128 + c % 64) - 128⟩] ∧ b = 240 + c / 262144 - 240 := by
          have l3 : 128 ≤ 128 + c / 64 % 64 ∧ 128 + c / 64 % 64 ≤ 191 := by omega
          have l4 : 128 ≤ 128 + c % 64 ∧ 128 + c % 64 ≤ 191 := by omega
          by_cases d1 : c < 262144
          · exact ⟨_, _, _, four_ways (begin_lead h0 (by omega) (pk6 (o := 240 + c / 262144) (by omega))) (by dsimp only; omega) l3 l4, rfl⟩
          · by_cases d2 : c < 1048576
            · exact ⟨_, _, _, four_ways (begin_lead h0 (by omega) (pk7 (o := 240 + c / 262144) (by omega))) (by dsimp only; omega) l3 l4, rfl⟩
            · exact ⟨_, _, _, four_ways (begin_lead h0 (by omega) (pk8 (o := 240 + c / 262144) (by omega))) (by dsimp only; omega) l3 l4, rfl⟩
        obtain ⟨lo, hi, b, w, hb⟩ := w
        refine ⟨_, by rw [e]; exact w, ?_, ?_⟩
        · intro k a k0 k1 ha
          rw [e] at k1
          have k1' : k < 4 := k1
          rcases (show k = 1 ∨ k = 2 ∨ k = 3 by omega) with rfl | rfl | rfl
          · obtain rfl := Option.some.inj ha
            exact ⟨rfl, by show (0 : Int) < 3; decide⟩
          · obtain rfl := Option.some.inj ha
            exact ⟨rfl, by show (0 : Int) < 2; decide⟩
          · obtain rfl := Option.some.inj ha
            exact ⟨rfl, by show (0 : Int) < 1; decide⟩
        · intro a ha
          rw [e] at ha
          obtain rfl := Option.some.inj ha
          refine ⟨?_, rfl⟩
          dsimp only
          rw [show ((b * 64 + (128 + c / 4096 % 64) - 128) * 64 + (128 + c / 64 % 64) - 128) * 64 + (128 + c % 64) - 128 = c by omega]
theorem way_run {u : U8} {os rest : List Int} {us : List U8} (w : Way u os us) : ∀ i, ∃ v, us[os.length]? = some v ∧ u8run u i (os ++ rest) = u8run v (i + os.length) rest := by
  induction w with
  | nil u => exact fun i => ⟨u, rfl, rfl⟩
  | cons h w ih =>
    intro i
    obtain ⟨v, h1, h2⟩ := ih (i + 1)
    refine ⟨v, h1, ?_⟩
    rename_i u v' o os us
    have e : u8run u i (o :: (os ++ rest)) = u8run v' (i + 1) (os ++ rest) := by
      show (match u8take u o with
        | some u' => u8run u' (i + 1) (os ++ rest)
        | none => .inr i) = _
      rw [h]
    rw [List.cons_append, e, h2, List.length_cons, Nat.add_assoc, Nat.add_comm 1]
theorem way_at {u : U8} {os : List Int} {us : List U8} (w : Way u os us) : us[0]? = some u ∧ us.length = os.length + 1 ∧ ∀ (k : Nat) (o : Int), os[k]? = some o → ∃ a b, us[k]? = some a ∧ us[k + 1]? = some b ∧ u8take a o = some b := by
  induction w with
  | nil u => exact ⟨rfl, rfl, fun k o h => by simp at h⟩
  | cons h w ih =>
    obtain ⟨i1, i2, i3⟩ := ih
    refine ⟨rfl, by simp [i2], fun k o' ho => ?_⟩
    cases k with
    | zero =>
      rename_i u v o os us
      obtain rfl : o = o' := by simpa using ho
      exact ⟨u, v, rfl, by simpa using i1, h⟩
    | succ k => exact i3 k o' (by simpa using ho)
theorem run_enc : ∀ (cs : List Int) (u : U8) (i : Nat), u.left = 0 → (∀ c ∈ cs, okPt c) → ∃ v, u8run u i (u8enc cs) = .inl v ∧ v.left = 0 ∧ v.pts = u.pts ++ cs
  | [], u, i, h0, _ => ⟨u, rfl, h0, by simp⟩
  | c :: cs, u, i, h0, h => by
    obtain ⟨us, m⟩ := mid_of h0 (h c (by simp))
    obtain ⟨v, e1, e2⟩ := way_run (rest := u8enc cs) m.way i
    obtain ⟨l1, l2⟩ := m.last v e1
    obtain ⟨w, f1, f2, f3⟩ := run_enc cs v (i + (u8enc1 c).length) l2 fun x hx => h x (by simp [hx])
    refine ⟨w, ?_, f2, by rw [f3, l1]; simp⟩
    rw [← f1, ← e2]
    rfl
theorem dec_enc {cs : List Int} (h : ∀ c ∈ cs, okPt c) : u8dec (u8enc cs) = (some cs, none) := by
  obtain ⟨v, e, h0, hp⟩ := run_enc cs u8new 0 rfl h
  unfold u8dec
  rw [e]
  show (if v.left > 0 then _ else _) = _
  rw [if_neg (by omega), hp]
  rfl
/-! ### == of rows of ints and of pairs -/
section
variable {K : PySem.W.Frag} {H : Hp} {Q : VK} {a b : Addr}
theorem dpInts : ∀ ns : List Int, DpAll K H (ns.map V.int) (ns.map PyData.int)
  | [] => .nil
  | n :: ns => .cons (.int n) (dpInts ns)
theorem layInts : ∀ ns : List Int, PyData.canLayAll0 (ns.map PyData.int) = true
  | [] => by simp [PyData.canLayAll0]
  | n :: ns => by simp [PyData.canLayAll0, PyData.canLay0, layInts ns]
theorem depInts : ∀ ns : List Int, PyData.depthAll (ns.map PyData.int) = 0
  | [] => by simp [PyData.depthAll]
  | n :: ns => by simp [PyData.depthAll, PyData.depth, depInts ns]
theorem eqvInts : ∀ ns ms : List Int, PyData.eqvAll (ns.map PyData.int) (ms.map PyData.int) = decide (ns = ms)
  | [], [] => by simp [PyData.eqvAll]
  | [], m :: ms => by simp [PyData.eqvAll]
  | n :: ns, [] => by simp [PyData.eqvAll]
  | n :: ns, m :: ms => by simp [PyData.eqvAll, PyData.eqv, eqvInts ns ms, Bool.beq_eq_decide_eq]
theorem shL (ns : List Int) : SeqAt.shaped (.list (ns.map PyData.int)) = true := by simp [SeqAt.shaped, PyData.canLay0, PyData.depth, layInts, depInts]
theorem shT (ns : List Int) : SeqAt.shaped (.tuple (ns.map PyData.int)) = true := by simp [SeqAt.shaped, PyData.canLay0, PyData.depth, layInts, depInts]
theorem i_neL {ns ms : List Int} (h : SqL K H a (ns.map V.int)) (h2 : SqL K H b (ms.map V.int)) (hq : Q (.bl (!decide (ns = ms))) H) : rNeD K (.ref a) (.ref b) H Q :=
  ⟨_, _, .lst h (dpInts ns), .lst h2 (dpInts ms), shL _, shL _, by simpa [PyData.eqv, eqvInts] using hq⟩
theorem i_eqL {ns ms : List Int} (h : SqL K H a (ns.map V.int)) (h2 : SqL K H b (ms.map V.int)) (hq : Q (.bl (decide (ns = ms))) H) : rEqD K (.ref a) (.ref b) H Q :=
  ⟨_, _, .lst h (dpInts ns), .lst h2 (dpInts ms), shL _, shL _, by simpa [PyData.eqv, eqvInts] using hq⟩
/-- a pair: a tuple of ints or None; an int or None -/
def prD : Option (List Int) → Option Int → PyData
  | some ps, some i => .tuple [.tuple (ps.map PyData.int), .int i]
  | some ps, none => .tuple [.tuple (ps.map PyData.int), .none]
  | none, some i => .tuple [.none, .int i]
  | none, none => .tuple [.none, .none]
theorem shP (x : Option (List Int)) (y : Option Int) : SeqAt.shaped (prD x y) = true := by
  cases x <;> cases y <;> simp [prD, SeqAt.shaped, PyData.canLay0, PyData.canLayAll0, PyData.depth, PyData.depthAll, layInts, depInts]
theorem eqvP (x x' : Option (List Int)) (y y' : Option Int) : PyData.eqv (prD x y) (prD x' y') = decide (x = x' ∧ y = y') := by
  cases x <;> cases y <;> cases x' <;> cases y' <;> simp [prD, PyData.eqv, PyData.eqvAll, eqvInts, Bool.beq_eq_decide_eq]
/-- such a pair stands at a -/
def PrAt (K : PySem.W.Frag) (H : Hp) (q : Addr) (x : Option (List Int)) (y : Option Int) : Prop := Dp K H (.ref q) (prD x y)
theorem prT {t : Addr} {ps : List Int} (h : SqT K H a [.ref t, .non]) (h2 : SqT K H t (ps.map V.int)) : PrAt K H a (some ps) none := Dp.tup h (.cons (.tup h2 (dpInts ps)) (.cons .non .nil))
theorem prI {i : Int} (h : SqT K H a [.non, .int i]) : PrAt K H a none (some i) := Dp.tup h (.cons .non (.cons (.int i) .nil))
theorem i_neR {x x' : Option (List Int)} {y y' : Option Int} (h : PrAt K H a x y) (h2 : PrAt K H b x' y') (hq : Q (.bl (!decide (x = x' ∧ y = y'))) H) : rNeD K (.ref a) (.ref b) H Q :=
  ⟨_, _, h, h2, shP _ _, shP _ _, by rw [eqvP]; exact hq⟩
theorem i_eqR {x x' : Option (List Int)} {y y' : Option Int} (h : PrAt K H a x y) (h2 : PrAt K H b x' y') (hq : Q (.bl (decide (x = x' ∧ y = y'))) H) : rEqD K (.ref a) (.ref b) H Q :=
  ⟨_, _, h, h2, shP _ _, shP _ _, by rw [eqvP]; exact hq⟩
theorem DecAt.pr {q : Addr} {r : Option (List Int) × Option Int} (h : DecAt H q r) (w : r.1.isSome = true → r.2 = none) : PrAt K H q r.1 r.2 := by
  obtain ⟨x, y⟩ := r
  cases x with
  | some ps =>
    obtain ⟨t, h1, h2⟩ := h
    obtain rfl : y = none := w rfl
    exact prT (SqT.of h1) (SqT.of h2)
  | none =>
    cases y with
    | some i => exact prI (SqT.of h)
    | none => exact h.elim
end
/-! ### pairs of ints, picks out of a list -/
section
variable {K : PySem.W.Frag} {H : Hp} {q : Addr}
theorem atI_pick {xs : List Int} {r : Int} (h0 : 0 ≤ r) (h1 : r < xs.length) : ∃ v ∈ xs, atI (xs.map V.int) r = some (.int v) := by
  obtain ⟨j, rfl⟩ : ∃ j : Nat, r = j := ⟨r.toNat, by omega⟩
  have h : j < xs.length := by omega
  exact ⟨xs[j], List.getElem_mem h, atI_map h⟩
theorem dp2 {u v : Int} (h : SqT K H q [.int u, .int v]) : Dp K H (.ref q) (.tuple [.int u, .int v]) := .tup h (.cons (.int u) (.cons (.int v) .nil))
theorem sh2 (u v : Int) : SeqAt.shaped (.tuple [.int u, .int v]) = true := by
  simp [SeqAt.shaped, PyData.canLay0, PyData.canLayAll0, PyData.depth, PyData.depthAll]
theorem eqv2 (u v u' v' : Int) : PyData.eqv (.tuple [.int u, .int v]) (.tuple [.int u', .int v']) = decide (u = u' ∧ v = v') := by
  simp [PyData.eqv, PyData.eqvAll, Bool.beq_eq_decide_eq]
theorem i_neP {q q2 : Addr} {u v u' v' : Int} {Q : VK} (h : SqT K H q [.int u, .int v]) (h2 : SqT K H q2 [.int u', .int v']) (hq : Q (.bl (!decide (u = u' ∧ v = v'))) H) : rNeD K (.ref q) (.ref q2) H Q :=
  ⟨_, _, dp2 h, dp2 h2, sh2 _ _, sh2 _ _, by rw [eqv2]; exact hq⟩
theorem i_eqP {q q2 : Addr} {u v u' v' : Int} {Q : VK} (h : SqT K H q [.int u, .int v]) (h2 : SqT K H q2 [.int u', .int v']) (hq : Q (.bl (decide (u = u' ∧ v = v'))) H) : rEqD K (.ref q) (.ref q2) H Q :=
  ⟨_, _, dp2 h, dp2 h2, sh2 _ _, sh2 _ _, by rw [eqv2]; exact hq⟩
theorem kitI : kitB "int" "int" = some true := by decide +kernel
theorem kitIB : kitB "int" "bool" = some false := by decide +kernel
theorem kitT : kitB "tuple" "tuple" = some true := by decide +kernel
theorem i_isi {x : V} {t c : String} {b : Bool} {Q : VK} (ty : TyX K H x (.type t)) (k : kitB t c = some b) (h : Q (.bl b) H) : rIsi K [x, .ty c] H Q := ⟨x, .ty c, .type t, .type c, b, rfl, .ty c, ty, kit_ty k, h⟩
theorem i_isiIB {i : Int} {Q : VK} (h : Q (.bl false) H) : rIsi K [.int i, .ty "bool"] H Q := i_isi (.base (.int i)) kitIB h
theorem i_isiT {xs : List V} {Q : VK} (e : H q = some (.tup xs)) (h : Q (.bl true) H) : rIsi K [.ref q, .ty "tuple"] H Q := i_isi (.base (.tup e)) kitT h
theorem natAbs_lt {x : Int} {n : Nat} (h0 : 0 ≤ x) (h : x < (n : Int)) : x.natAbs < n := by omega
/-- a pick out of a list of ints that was just made -/
theorem i_pick {p : Pst} {l : Addr} {xs : List Int} {r : Int} {H0 H1 H2 : Hp} {Q : VK} {left last : Int} (d : Dr K p left last H0) (n : NewAt H0 l (.lst (xs.map V.int)) H1) (k : Keep [p] H1 H2) (r0 : 0 ≤ r) (r1 : r < xs.length) (h : ∀ v ∈ xs, Q (.int v) H2) : rIxL K (.ref l) (.int r) H2 Q := by
  obtain ⟨v, hv, ha⟩ := atI_pick r0 r1
  exact i_ixL (k.sqL (by simpa using (d.ne n).symm) n.sqL) ha (h v hv)
end
def sp__law_point (K : PySem.W.Frag) : Sp := fun vs H Q _ => ∃ p : Pst, vs = [.ref p] ∧ Dr K p 0 3 H ∧ ∀ c H1, okPt c → Dr K p 0 3 H1 → Keep [p] H H1 → Q (.int c) H1
def sp__law_written (K : PySem.W.Frag) : Sp := sp_encode_point K
def sp_law (K : PySem.W.Frag) : Sp := fun vs H Q _ => ∃ (a : Addr) (ns : List Int), vs = [.ref a] ∧ SqL K H a (ns.map V.int) ∧ ns.length ≤ 63 ∧ Only H ∧ ∀ H', Q (.bl true) H'
/-! _law_point(_law_state_here) : _law_state_here=0 _law_edges=1 _law_pick=2 -/
def N__law_point : List Str := ["_law_state_here", "_law_edges", "_law_pick"]
def t__law_point_2a_0 (K : PySem.W.Frag) : TS := (tRet (tOp (rIxL K) (tVar 1) (tCall (sp__law_next K) [] E0 (tCons (tVar 0) (tCons (tC (.int 10)) tNil)))))
def t__law_point_3a_0 (K : PySem.W.Frag) : TS := (tRet (tCall (sp__law_big K) [] E0 (tCons (tVar 0) (tCons (tC (.int 55296)) tNil))))
def t__law_point_4a_0 (K : PySem.W.Frag) : TS := (tRet (tOp rAddI (tC (.int 57344)) (tCall (sp__law_big K) [] E0 (tCons (tVar 0) (tCons (tC (.int 1056768)) tNil)))))
def t__law_point_5 (K : PySem.W.Frag) : TS := (tRet (tOp (rIxL K) (tLst (tCons (tOp rAddI (tC (.int 32)) (tCall (sp__law_next K) [] E0 (tCons (tVar 0) (tCons (tC (.int 95)) tNil)))) (tCons (tOp rAddI (tC (.int 128)) (tCall (sp__law_next K) [] E0 (tCons (tVar 0) (tCons (tC (.int 900)) tNil)))) tNil))) (tCall (sp__law_next K) [] E0 (tCons (tVar 0) (tCons (tC (.int 2)) tNil)))))
def t__law_point_4 (K : PySem.W.Frag) : TS := tSeq (tIfS (tTest (tOp rEq (tVar 2) (tC (.int 2)))) (t__law_point_4a_0 K) tNext) (t__law_point_5 K)
def t__law_point_3 (K : PySem.W.Frag) : TS := tSeq (tIfS (tTest (tOp rEq (tVar 2) (tC (.int 1)))) (t__law_point_3a_0 K) tNext) (t__law_point_4 K)
def t__law_point_2 (K : PySem.W.Frag) : TS := tSeq (tIfS (tTest (tOp rEq (tVar 2) (tC (.int 0)))) (t__law_point_2a_0 K) tNext) (t__law_point_3 K)
def t__law_point_1 (K : PySem.W.Frag) : TS := tSeq (tAsg (tCall (sp__law_next K) [] E0 (tCons (tVar 0) (tCons (tC (.int 5)) tNil))) (gName 2)) (t__law_point_2 K)
def t__law_point_0 (K : PySem.W.Frag) : TS := tSeq (tAsg (tLst (tCons (tC (.int 0)) (tCons (tC (.int 127)) (tCons (tC (.int 128)) (tCons (tC (.int 2047)) (tCons (tC (.int 2048)) (tCons (tC (.int 55295)) (tCons (tC (.int 57344)) (tCons (tC (.int 65535)) (tCons (tC (.int 65536)) (tCons (tC (.int 1114111)) tNil))))))))))) (gName 1)) (t__law_point_1 K)
/-! _law_written(_law_point_here) : _law_point_here=0 -/
def N__law_written : List Str := ["_law_point_here"]
def t__law_written_0a_0 (K : PySem.W.Frag) : TS := (tRet (tLst (tCons (tVar 0) tNil)))
def t__law_written_1a_0 (K : PySem.W.Frag) : TS := (tRet (tLst (tCons (tOp rAddI (tC (.int 192)) (tOp rDivI (tVar 0) (tC (.int 64)))) (tCons (tOp rAddI (tC (.int 128)) (tOp rModI (tVar 0) (tC (.int 64)))) tNil))))
def t__law_written_2a_0 (K : PySem.W.Frag) : TS := (tRet (tLst (tCons (tOp rAddI (tC (.int 224)) (tOp rDivI (tVar 0) (tC (.int 4096)))) (tCons (tOp rAddI (tC (.int 128)) (tOp rModI (tOp rDivI (tVar 0) (tC (.int 64))) (tC (.int 64)))) (tCons (tOp rAddI (tC (.int 128)) (tOp rModI (tVar 0) (tC (.int 64)))) tNil)))))
def t__law_written_3 (K : PySem.W.Frag) : TS := (tRet (tLst (tCons (tOp rAddI (tC (.int 240)) (tOp rDivI (tVar 0) (tC (.int 262144)))) (tCons (tOp rAddI (tC (.int 128)) (tOp rModI (tOp rDivI (tVar 0) (tC (.int 4096))) (tC (.int 64)))) (tCons (tOp rAddI (tC (.int 128)) (tOp rModI (tOp rDivI (tVar 0) (tC (.int 64))) (tC (.int 64)))) (tCons (tOp rAddI (tC (.int 128)) (tOp rModI (tVar 0) (tC (.int 64)))) tNil))))))
def t__law_written_2 (K : PySem.W.Frag) : TS := tSeq (tIfS (tTest (tOp rLtI (tVar 0) (tC (.int 65536)))) (t__law_written_2a_0 K) tNext) (t__law_written_3 K)
def t__law_written_1 (K : PySem.W.Frag) : TS := tSeq (tIfS (tTest (tOp rLtI (tVar 0) (tC (.int 2048)))) (t__law_written_1a_0 K) tNext) (t__law_written_2 K)
def t__law_written_0 (K : PySem.W.Frag) : TS := tSeq (tIfS (tTest (tOp rLtI (tVar 0) (tC (.int 128)))) (t__law_written_0a_0 K) tNext) (t__law_written_1 K)
/-! law(_law_script) : _law_script=0 _law_state_here=1 _law_points=2 _law_k=3 _law_octets=4 _law_point_here=5 _law_machine=6 _law_whole=7 _law_rows=8 -/
def N_law : List Str := ["_law_script", "_law_state_here", "_law_points", "_law_k", "_law_octets", "_law_point_here", "_law_machine", "_law_whole", "_law_rows"]
def t_law_3a_0 (K : PySem.W.Frag) : TS := (tAsg (tOp rCat (tVar 4) (tCall (sp__law_written K) [] E0 (tCons (tVar 5) tNil))) (gName 4))
def t_law_4a_0 (K : PySem.W.Frag) : TS := (tRet (tC (.bl false)))
def t_law_7a_0 (K : PySem.W.Frag) : TS := (tRet (tC (.bl false)))
def t_law_8a_1a_0a_0 (K : PySem.W.Frag) : TS := (tRet (tC (.bl false)))
def t_law_8a_1a_1a_0 (K : PySem.W.Frag) : TS := (tDrop (tBM K "list" rAppend (tVar 7) (tCons (tVar 5) tNil)))
def t_law_8a_1a_2a_0 (K : PySem.W.Frag) : TS := (tRet (tC (.bl false)))
def t_law_8a_1a_2 (K : PySem.W.Frag) : TS := (tIfS (tTest (tOp (rNeD K) (tFld K (tVar 6) "points") (tVar 7))) (t_law_8a_1a_2a_0 K) tNext)
def t_law_8a_1a_1 (K : PySem.W.Frag) : TS := tSeq (tIfS (tTest (tOp rEq (tOp rAddI (tVar 3) (tC (.int 1))) (tCB (rLenQ K) (tCons (tVar 8) tNil)))) (t_law_8a_1a_1a_0 K) tNext) (t_law_8a_1a_2 K)
def t_law_8a_1a_0 (K : PySem.W.Frag) : TS := tSeq (tIfS (tOr (tTest (tOp rNotB (tMeth (gA "Utf8" K) "take" (sp_Utf8_take K) [] E0 (tVar 6) (tCons (tOp (rIxL K) (tVar 8) (tVar 3)) tNil)) (tC (.bl true)))) (tTest (tOp rNe (tProp (gA "Utf8" K) (sp_Utf8_is_open K) [] E0 (tVar 6)) (tOp rLtI (tOp rAddI (tVar 3) (tC (.int 1))) (tCB (rLenQ K) (tCons (tVar 8) tNil)))))) (t_law_8a_1a_0a_0 K) tNext) (t_law_8a_1a_1 K)
def t_law_8a_1 (K : PySem.W.Frag) : TS := (tFor (iRng1 (tCons (tCB (rLenQ K) (tCons (tVar 8) tNil)) tNil)) (gName 3) (t_law_8a_1a_0 K))
def t_law_8a_0 (K : PySem.W.Frag) : TS := tSeq (tAsg (tCall (sp__law_written K) [] E0 (tCons (tVar 5) tNil)) (gName 8)) (t_law_8a_1 K)
def t_law_9 (K : PySem.W.Frag) : TS := (tRet (tOp (rEqD K) (tCall (sp_decode K) [] E0 (tCons (tCB (rTupOf K) (tCons (tVar 4) tNil)) tNil)) (tTup (tCons (tCB (rTupOf K) (tCons (tVar 2) tNil)) (tCons (tC .non) tNil)))))
def t_law_8 (K : PySem.W.Frag) : TS := tSeq (tFor (iList K (tVar 2)) (gName 5) (t_law_8a_0 K)) (t_law_9 K)
def t_law_7 (K : PySem.W.Frag) : TS := tSeq (tIfS (tOr (tTest (tOp rNotB (tProp (gA "Utf8" K) (sp_Utf8_is_open K) [] E0 (tVar 6)) (tC (.bl false)))) (tTest (tOp (rNeD K) (tFld K (tVar 6) "points") (tLst tNil)))) (t_law_7a_0 K) tNext) (t_law_8 K)
def t_law_6 (K : PySem.W.Frag) : TS := tSeq (tAsg (tLst tNil) (gName 7)) (t_law_7 K)
def t_law_5 (K : PySem.W.Frag) : TS := tSeq (tAsg (tMake (gA "Utf8" K) (sp_Utf8_init K) [] E0 tNil) (gName 6)) (t_law_6 K)
def t_law_4 (K : PySem.W.Frag) : TS := tSeq (tIfS (tOr (tTest (tOp (rNeD K) (tCall (sp_encode K) [] E0 (tCons (tCB (rTupOf K) (tCons (tVar 2) tNil)) tNil)) (tVar 4))) (tOr (tTest (tOp (rNeD K) (tCall (sp_encode K) [] E0 (tCons (tVar 2) tNil)) (tVar 4))) (tTest (tOp (rNeD K) (tCall (sp_decode K) [] E0 (tCons (tVar 4) tNil)) (tTup (tCons (tCB (rTupOf K) (tCons (tVar 2) tNil)) (tCons (tC .non) tNil))))))) (t_law_4a_0 K) tNext) (t_law_5 K)
def t_law_3 (K : PySem.W.Frag) : TS := tSeq (tFor (iList K (tVar 2)) (gName 5) (t_law_3a_0 K)) (t_law_4 K)
def t_law_2 (K : PySem.W.Frag) : TS := tSeq (tAsg (tLst tNil) (gName 4)) (t_law_3 K)
def t_law_1 (K : PySem.W.Frag) : TS := tSeq (tAsg (tLc (iRng1 (tCons (tCall (sp__law_next K) [] E0 (tCons (tVar 1) (tCons (tC (.int 12)) tNil))) tNil)) (gName 3) tYes (tCall (sp__law_point K) [] E0 (tCons (tVar 1) tNil)) [3]) (gName 2)) (t_law_2 K)
def t_law_0 (K : PySem.W.Frag) : TS := tSeq (tAsg (tCall (sp__law_state K) [] E0 (tCons (tVar 0) (tCons (tC (.int 0)) tNil))) (gName 1)) (t_law_1 K)
section
variable {K : PySem.W.Frag}
theorem len__law_written {vs : List V} {H : Hp} {Q : VK} {E : XK} (h : sp__law_written K vs H Q E) : vs.length = 1 := by obtain ⟨_, rfl, _⟩ := h; rfl
theorem r__law_written {vs : List V} {H : Hp} {Q : VK} {E : XK} (h : sp__law_written K vs H Q E) : t__law_written_0 K { nx := fun _ H' => Q .non H', rt := Q } (start N__law_written vs) H := by
  have z := r_encode_point h
  obtain ⟨c, rfl, _⟩ := h
  exact z
theorem len__law_point {vs : List V} {H : Hp} {Q : VK} {E : XK} (h : sp__law_point K vs H Q E) : vs.length = 1 := by obtain ⟨_, rfl, _⟩ := h; rfl
theorem r__law_point {vs : List V} {H : Hp} {Q : VK} {E : XK} (h : sp__law_point K vs H Q E) : t__law_point_0 K { nx := fun _ H' => Q .non H', rt := Q } (start N__law_point vs) H := by
  obtain ⟨p, rfl, hd, hq⟩ := h
  unfold t__law_point_0
  walk_at "go"
  intro e H1 n1
  have hd1 := hd.new n1
  walk_at "go"
  unfold t__law_point_1
  walk_at "go"
  refine ⟨p, 0, 3, 5, rfl, by decide, hd1, fun r H2 r0 r1 hd2 k2 => ?_⟩
  have k02 := (n1.keep [p]).trans k2
  walk_at "go"
  unfold t__law_point_2
  walk_at "go"
  walk_at "D"
  · unfold t__law_point_2a_0
    walk_at "go"
    refine ⟨p, 0, 3, 10, rfl, by decide, hd2, fun r H3 r0 r1 hd3 k3 => ?_⟩
    refine i_pick (xs := [0, 127, 128, 2047, 2048, 55295, 57344, 65535, 65536, 1114111]) hd n1 (k2.trans k3) r0 r1 fun v hv => ?_
    refine hq v H3 ?_ hd3 (k02.trans k3)
    unfold okPt
    simp at hv
    omega
  · walk_at "go"
    unfold t__law_point_3
    walk_at "go"
    walk_at "D"
    · unfold t__law_point_3a_0
      walk_at "go"
      refine ⟨p, 0, 3, 55296, rfl, by decide, hd2, fun r H3 r0 r1 hd3 k3 => ?_⟩
      exact hq r H3 (by unfold okPt; omega) hd3 (k02.trans k3)
    · walk_at "go"
      unfold t__law_point_4
      walk_at "go"
      walk_at "D"
      · unfold t__law_point_4a_0
        walk_at "go"
        refine ⟨p, 0, 3, 1056768, rfl, by decide, hd2, fun r H3 r0 r1 hd3 k3 => ?_⟩
        walk_at "go"
        exact hq _ H3 (by unfold okPt; omega) hd3 (k02.trans k3)
      · walk_at "go"
        unfold t__law_point_5
        walk_at "go"
        refine ⟨p, 0, 3, 95, rfl, by decide, hd2, fun r H3 r0 r1 hd3 k3 => ?_⟩
        walk_at "go"
        refine ⟨p, 0, 3, 900, rfl, by decide, hd3, fun s H4 s0 s1 hd4 k4 => ?_⟩
        walk_at "go"
        intro l H5 n5
        walk_at "go"
        refine ⟨p, 0, 3, 2, rfl, by decide, hd4.new n5, fun r' H6 r0' r1' hd6 k6 => ?_⟩
        refine i_pick (xs := [32 + r, 128 + s]) hd4 n5 k6 r0' r1' fun v hv => ?_
        refine hq v H6 ?_ hd6 ((((k02.trans k3).trans k4).trans (n5.keep _)).trans k6)
        unfold okPt
        simp at hv
        omega
/-! the law -/
variable {D : Ends} {H : Hp} {p : Pst} {P O : Addr} {a b c d e f g h : Option V} {cs : List Int}
/-- the machine, behind all points -/
theorem e9 (hD : ∀ H', D.rt (.bl true) H') (hcs : ∀ c ∈ cs, okPt c) (hlen : cs.length ≤ 12) (hP : H P = some (.lst (cs.map V.int))) (hO : H O = some (.lst ((u8enc cs).map V.int))) :
    t_law_9 K D [a, b, some (.ref P), c, some (.ref O), d, e, f, g] H := by
  have h4 := u8enc_len cs
  unfold t_law_9
  walk_at "go"
  refine i_tupL (SqL.of hO) fun t H1 n1 => ?_
  walk_at "go"
  refine ⟨t, u8enc cs, rfl, .inr n1.sqT, by omega, fun q H2 q0 k2 hq => ?_⟩
  rw [dec_enc hcs] at hq
  walk_at "go"
  have hP2 := k2 _ _ (by simp) (n1.keep [] _ _ (by simp) hP)
  refine i_tupL (SqL.of hP2) fun t3 H3 n3 => ?_
  walk_at "go"
  intro q4 H4 n4
  obtain ⟨t5, h5, h6⟩ := hq
  have g5 := n4.keep [] _ _ (by simp) (n3.keep [] _ _ (by simp) h5)
  have g6 := n4.keep [] _ _ (by simp) (n3.keep [] _ _ (by simp) h6)
  refine i_eqR (prT (SqT.of g5) (SqT.of g6)) (prT n4.sqT (SqT.of (n4.keep [] _ _ (by simp) n3.at_))) ?_
  rw [decide_eq_true ⟨rfl, rfl⟩]
  exact hD _

theorem e8in (kU : Kls K "Utf8" F_Utf8) {H0 : Hp} {M L Wh R : Addr} {c : Int} {i : Nat} {u : U8} {us : List U8} (hc : cs[i]? = some c) (hi : i < 12) (hu0 : u.pts = cs.take i) (m : Mid u c us) (hlen : cs.length ≤ 12)
    (hu : U8At K H0 M L u) (hW : H0 Wh = some (.lst ((cs.take i).map V.int))) (hR : H0 R = some (.lst ((u8enc1 c).map V.int))) (nR : R ∉ [M, L, Wh]) (nW : Wh ∉ [M, L])
    (hD : ∀ v k H1, U8At K H1 M L v → v.left = 0 → v.pts = cs.take (i + 1) → H1 Wh = some (.lst ((cs.take (i + 1)).map V.int)) → Keep [M, L, Wh] H0 H1 → D.nx [a, b, some (.ref P), k, some (.ref O), some (.int c), some (.ref M), some (.ref Wh), some (.ref R)] H1) :
    t_law_8a_1 K D [a, b, some (.ref P), d, some (.ref O), some (.int c), some (.ref M), some (.ref Wh), some (.ref R)] H0 := by
  obtain ⟨w0, wl, wst⟩ := way_at m.way
  have h4 := u8enc1_len c
  have hpos : 0 < (u8enc1 c).length := by
    unfold u8enc1
    split
    · simp
    · split
      · simp
      · split <;> simp
  have hnil : (u8enc1 c).length = 0 → False := by omega
  unfold t_law_8a_1
  walk_at "go"
  refine i_lenL (SqL.of hR) ?_
  walk_at "go"
  refine i_rngK1 (by rw [List.length_map]; omega) ?_
  refine f_rng (fun k σ H1 => ∃ (v : U8) (x : Option V), σ = [a, b, some (.ref P), x, some (.ref O), some (.int c), some (.ref M), some (.ref Wh), some (.ref R)] ∧ us[k]? = some v ∧ U8At K H1 M L v ∧
    H1 Wh = some (.lst ((if k < (u8enc1 c).length then cs.take i else cs.take (i + 1)).map V.int)) ∧ Keep [M, L, Wh] H0 H1) ⟨u, d, rfl, w0, hu, by rw [if_pos hpos]; exact hW, .refl _⟩ ?_ ?_
  · rintro k σ H1 hk ⟨v, x, rfl, hv, hu1, hW1, k1⟩
    have hk' : k < (u8enc1 c).length := by simpa using hk
    rw [if_pos hk'] at hW1
    obtain ⟨o, ho⟩ : ∃ o, (u8enc1 c)[k]? = some o := ⟨_, List.getElem?_eq_getElem hk'⟩
    obtain ⟨v', v2, e1, e2, e3⟩ := wst k o ho
    obtain rfl : v = v' := Option.some.inj (hv.symm.trans e1)
    have hvl : v.pts.length ≤ 13 := by
      have hh : v.pts = cs.take i := by
        by_cases z : k = 0
        · subst z
          rw [w0] at hv
          obtain rfl := Option.some.inj hv
          exact hu0
        · rw [(m.mid k v (by omega) hk' hv).1, hu0]
      rw [hh, List.length_take]
      omega
    have hR1 := k1 _ _ nR hR
    obtain ⟨⟨dx1, hM1⟩, hL1⟩ := id hu1
    walk_at "go"
    unfold t_law_8a_1a_0
    walk_at "go"
    refine i_methK hM1 (by decide +kernel) ?_
    walk_at "go"
    refine i_ixL (SqL.of hR1) (atI_map hk') ?_
    walk_at "go"
    have eo : (u8enc1 c)[k] = o := by
      rw [List.getElem?_eq_getElem hk'] at ho
      exact Option.some.inj ho
    rw [eo]
    refine ⟨M, L, v, o, rfl, hu1, by omega, fun z => (by rw [e3] at z; cases z), fun v3 H2 e4 hu2 k2 => ?_⟩
    obtain rfl : v2 = v3 := Option.some.inj (e3.symm.trans e4)
    have k12 : Keep [M, L, Wh] H0 H2 := k1.trans (k2.mono (by simp))
    have hR2 := k12 _ _ nR hR
    have hW2 := k2 _ _ nW hW1
    obtain ⟨⟨dx2, hM2⟩, hL2⟩ := id hu2
    walk_at "go"
    refine i_NDF rfl ?_
    walk_at "go"
    refine i_propK hM2 ⟨M, L, v2, rfl, hu2, ?_⟩
    walk_at "go"
    refine i_lenL (SqL.of hR2) ?_
    walk_at "go"
    have hop : decide (0 < v2.left) = decide ((k : Int) + 1 < (((u8enc1 c).map V.int).length : Nat)) := by
      rw [List.length_map]
      by_cases z : k + 1 < (u8enc1 c).length
      · rw [decide_eq_true (m.mid (k + 1) v2 (by omega) z e2).2, decide_eq_true (by omega)]
      · have z2 : k + 1 = (u8enc1 c).length := by omega
        rw [z2] at e2
        have z3 := (m.last v2 e2).2
        rw [decide_eq_false (by omega), decide_eq_false (by omega)]
    refine i_NDF hop ?_
    walk_at "go"
    unfold t_law_8a_1a_1
    walk_at "go"
    refine i_lenL (SqL.of hR2) ?_
    walk_at "go"
    by_cases z : k + 1 < (u8enc1 c).length
    · refine i_DF (by rw [List.length_map]; omega) ?_
      walk_at "go"
      unfold t_law_8a_1a_2
      walk_at "go"
      refine i_fldK kU hM2 0 rfl rfl ?_
      walk_at "go"
      refine i_neL (SqL.of hL2) (SqL.of hW2) ?_
      walk_at "go"
      refine i_NDF (by rw [(m.mid (k + 1) v2 (by omega) z e2).1, hu0]) ?_
      walk_at "go"
      exact ⟨v2, _, rfl, e2, hu2, by rw [if_pos z]; exact hW2, k12⟩
    · have z2 : k + 1 = (u8enc1 c).length := by omega
      refine i_DT (by rw [List.length_map]; omega) ?_
      unfold t_law_8a_1a_1a_0
      walk_at "go"
      refine ⟨ty_lst hW2, ?_⟩
      walk_at "go"
      refine i_app hW2 (by rw [List.length_map, List.length_take]; omega) ?_
      unfold t_law_8a_1a_2
      have nM : M ≠ Wh := fun z => nW (by simp [z])
      have nL : L ≠ Wh := fun z => nW (by simp [z])
      have tk : (cs.take i).map V.int ++ [V.int c] = (cs.take (i + 1)).map V.int := by rw [take_succ hc, List.map_append]; rfl
      rw [tk]
      have k3 : Keep [M, L, Wh] H0 (upd H2 Wh (.lst ((cs.take (i + 1)).map V.int))) := k12.put (.inl (by simp))
      have hu3 : U8At K (upd H2 Wh (.lst ((cs.take (i + 1)).map V.int))) M L v2 := ⟨⟨dx2, by rw [upd_ne nM]; exact hM2⟩, by rw [upd_ne nL]; exact hL2⟩
      rw [z2] at e2
      walk_at "go"
      refine i_fldK kU (by rw [upd_ne nM]; exact hM2) 0 rfl rfl ?_
      walk_at "go"
      refine i_neL (SqL.of hu3.pt) (SqL.of upd_same) ?_
      walk_at "go"
      refine i_NDF (by rw [(m.last v2 e2).1, hu0, take_succ hc]) ?_
      walk_at "go"
      exact ⟨v2, _, rfl, by rw [z2]; exact e2, hu3, by rw [if_neg z, upd_same], k3⟩
  · rintro σ H1 ⟨v, x, rfl, hv, hu1, hW1, k1⟩
    have e : (((u8enc1 c).map V.int).length : Int).toNat = (u8enc1 c).length := by simp
    rw [e] at hv hW1
    rw [if_neg (by omega)] at hW1
    obtain ⟨l1, l2⟩ := m.last v hv
    exact hD v x H1 hu1 l2 (by rw [l1, hu0, take_succ hc]) hW1 k1

theorem e5 (kU : Kls K "Utf8" F_Utf8) (hD : ∀ H', D.rt (.bl true) H') (hcs : ∀ c ∈ cs, okPt c) (hlen : cs.length ≤ 12) (hP : H P = some (.lst (cs.map V.int))) (hO : H O = some (.lst ((u8enc cs).map V.int))) :
    t_law_5 K D [a, b, some (.ref P), c, some (.ref O), d, none, none, none] H := by
  unfold t_law_5
  walk_at "go"
  refine i_makeK F_Utf8 fun M dx H1 hM0 hM1 k1 => ?_
  refine ⟨M, dx, rfl, hM1, fun L H2 hL0 hu2 k2 => ⟨rfl, ?_⟩⟩
  have hL00 : H L = none := (k1 []).fresh (by simp) hL0
  have PM : P ≠ M := ne_of_none hP hM0
  have PL : P ≠ L := ne_of_none hP hL00
  have OM : O ≠ M := ne_of_none hO hM0
  have OL : O ≠ L := ne_of_none hO hL00
  have hP2 := k2 P _ (by simpa using PM) (k1 [] _ _ (by simp) hP)
  have hO2 := k2 O _ (by simpa using OM) (k1 [] _ _ (by simp) hO)
  walk_at "go"
  unfold t_law_6
  walk_at "go"
  intro Wh H3 n3
  have hu3 := hu2.keep (n3.keep []) (by simp) (by simp)
  obtain ⟨⟨dx2, hM2⟩, hL2⟩ := id hu2
  obtain ⟨⟨dx3, hM3⟩, hL3⟩ := id hu3
  have hP3 := n3.keep [] _ _ (by simp) hP2
  have hO3 := n3.keep [] _ _ (by simp) hO2
  have MW : M ≠ Wh := ne_of_none hM2 n3.free
  have LW : L ≠ Wh := ne_of_none hL2 n3.free
  have PW : P ≠ Wh := ne_of_none hP2 n3.free
  have OW : O ≠ Wh := ne_of_none hO2 n3.free
  walk_at "go"
  unfold t_law_7
  walk_at "go"
  refine i_propK hM3 ⟨M, L, u8new, rfl, hu3, ?_⟩
  walk_at "go"
  refine i_NDF rfl ?_
  walk_at "go"
  refine i_fldK kU hM3 0 rfl rfl ?_
  walk_at "go"
  intro E H4 n4
  have hu4 := hu3.keep (n4.keep []) (by simp) (by simp)
  refine i_neL (ns := []) (ms := []) (SqL.of hu4.pt) n4.sqL ?_
  walk_at "go"
  refine i_NDF rfl ?_
  walk_at "go"
  have hP4 := n4.keep [] _ _ (by simp) hP3
  have hO4 := n4.keep [] _ _ (by simp) hO3
  have hW4 := n4.keep [] _ _ (by simp) n3.at_
  unfold t_law_8
  walk_at "go"
  refine i_listK (SqL.of hP4) ?_
  have kk : ∀ {H5 : Hp}, Keep [M, L, Wh] H4 H5 → H5 P = some (.lst (cs.map V.int)) := fun k => k _ _ (by simp [PM, PL, PW]) hP4
  refine f_list (xs := cs.map V.int) (fun i σ H5 => ∃ (u : U8) (x3 x5 x8 : Option V), σ = [a, b, some (.ref P), x3, some (.ref O), x5, some (.ref M), some (.ref Wh), x8] ∧ U8At K H5 M L u ∧ u.left = 0 ∧ u.pts = cs.take i ∧ H5 Wh = some (.lst ((cs.take i).map V.int)) ∧ Keep [M, L, Wh] H4 H5)
    ⟨u8new, c, d, none, rfl, hu4, rfl, rfl, hW4, .refl _⟩ (fun i σ H5 _ ⟨_, _, _, _, _, _, _, _, _, k⟩ => SqL.of (kk k)) ?_ ?_
  · rintro i x σ H5 hi ⟨u, x3, x5, x8, rfl, hu5, hl5, hp5, hW5, k5⟩
    obtain ⟨ch, hc, rfl⟩ := get_map hi
    have hil : i < cs.length := (List.getElem?_eq_some_iff.mp hc).1
    obtain ⟨us, m⟩ := mid_of hl5 (hcs ch (List.mem_of_getElem? hc))
    walk_at "go"
    unfold t_law_8a_0
    walk_at "go"
    refine ⟨ch, rfl, fun R H6 n6 => ?_⟩
    have hu6 := hu5.keep (n6.keep []) (by simp) (by simp)
    obtain ⟨⟨dx5, hM5⟩, hL5⟩ := id hu5
    have RM : M ≠ R := ne_of_none hM5 n6.free
    have RL : L ≠ R := ne_of_none hL5 n6.free
    have RW : Wh ≠ R := ne_of_none hW5 n6.free
    walk_at "go"
    refine e8in kU hc (by omega) hp5 m hlen hu6 (n6.keep [] _ _ (by simp) hW5) n6.at_ (by simp [RM.symm, RL.symm, RW.symm]) (by simp [MW.symm, LW.symm]) fun v k H7 hu7 hl7 hp7 hW7 k7 => ?_
    exact ⟨v, k, _, _, rfl, hu7, hl7, hp7, hW7, (k5.trans (n6.keep _)).trans k7⟩
  · rintro σ H5 ⟨u, x3, x5, x8, rfl, hu5, hl5, hp5, hW5, k5⟩
    exact e9 hD hcs hlen (kk k5) (k5 _ _ (by simp [OM, OL, OW]) hO4)
theorem e4 (kU : Kls K "Utf8" F_Utf8) (hD : ∀ H', D.rt (.bl true) H') (hcs : ∀ c ∈ cs, okPt c) (hlen : cs.length ≤ 12) (hP : H P = some (.lst (cs.map V.int))) (hO : H O = some (.lst ((u8enc cs).map V.int))) :
    t_law_4 K D [a, b, some (.ref P), c, some (.ref O), d, none, none, none] H := by
  have h4 := u8enc_len cs
  unfold t_law_4
  walk_at "go"
  refine i_tupL (SqL.of hP) fun t H1 n1 => ?_
  walk_at "go"
  refine ⟨t, cs, rfl, .inr n1.sqT, by omega, fun q H2 q0 hq k2 => ?_⟩
  walk_at "go"
  have k02 : Keep [] H H2 := (n1.keep []).trans k2
  refine i_neL (SqL.of hq) (SqL.of (k02 _ _ (by simp) hO)) ?_
  walk_at "go"
  refine i_NDF rfl ?_
  walk_at "go"
  refine ⟨P, cs, rfl, .inl (SqL.of (k02 _ _ (by simp) hP)), by omega, fun q H3 q0 hq k3 => ?_⟩
  walk_at "go"
  have k03 : Keep [] H H3 := k02.trans k3
  refine i_neL (SqL.of hq) (SqL.of (k03 _ _ (by simp) hO)) ?_
  walk_at "go"
  refine i_NDF rfl ?_
  walk_at "go"
  refine ⟨O, u8enc cs, rfl, .inl (SqL.of (k03 _ _ (by simp) hO)), by omega, fun q H4 q0 k4 hq => ?_⟩
  rw [dec_enc hcs] at hq
  have k04 := k03.trans k4
  walk_at "go"
  refine i_tupL (SqL.of (k04 _ _ (by simp) hP)) fun t5 H5 n5 => ?_
  walk_at "go"
  intro q6 H6 n6
  obtain ⟨t7, h7, h8⟩ := hq
  have g7 := n6.keep [] _ _ (by simp) (n5.keep [] _ _ (by simp) h7)
  have g8 := n6.keep [] _ _ (by simp) (n5.keep [] _ _ (by simp) h8)
  refine i_neR (prT (SqT.of g7) (SqT.of g8)) (prT n6.sqT (SqT.of (n6.keep [] _ _ (by simp) n5.at_))) ?_
  walk_at "go"
  refine i_NDF ⟨rfl, rfl⟩ ?_
  walk_at "go"
  have k06 := (k04.trans (n5.keep [])).trans (n6.keep [])
  exact e5 kU hD hcs hlen (k06 _ _ (by simp) hP) (k06 _ _ (by simp) hO)
theorem len_law {vs : List V} {H : Hp} {Q : VK} {E : XK} (h : sp_law K vs H Q E) : vs.length = 1 := by obtain ⟨_, _, rfl, _⟩ := h; rfl
theorem r_law (kU : Kls K "Utf8" F_Utf8) {vs : List V} {H : Hp} {Q : VK} {E : XK} (h : sp_law K vs H Q E) : t_law_0 K { nx := fun _ H' => Q .non H', rt := Q } (start N_law vs) H := by
  obtain ⟨a, ns, rfl, hs, hl, ho, hq⟩ := h
  unfold t_law_0
  walk_at "go"
  refine ⟨a, ns, 0, rfl, hs, fun p H1 hp k1 hd => ?_⟩
  walk_at "go"
  unfold t_law_1
  walk_at "go"
  refine ⟨p, 0, 3, 12, rfl, by decide, hd, fun n H2 n0 n1 hd2 k2 => ?_⟩
  walk_at "go"
  refine c_rng (fun P i H3 => ∃ cs : List Int, H3 P = some (.lst (cs.map V.int)) ∧ cs.length = i ∧ (∀ c ∈ cs, okPt c) ∧ Dr K p 0 3 H3) ?_ ?_ ?_
  · intro P hP
    exact ⟨[], upd_same, rfl, by simp, hd2.new (.mk' hP)⟩
  · rintro P i H3 hP hi ⟨cs, hc, hcl, hok, hd3⟩
    have hi' : i < 12 := by omega
    have pP : p.p ≠ P := by
      obtain ⟨xs, e⟩ := hd2.at_
      exact ne_of_none e hP
    walk_at "go"
    refine ⟨rfl, ?_⟩
    walk_at "go"
    refine ⟨p, rfl, hd3, fun ch H4 hch hd4 k4 => ?_⟩
    have hc4 := k4 P _ (by simpa using pP.symm) hc
    refine ⟨_, hc4, small_lt (by rw [List.length_map]; omega), cs ++ [ch], by rw [upd_same]; simp, by simp [hcl], fun x hx => ?_, ?_⟩
    · rcases List.mem_append.mp hx with z | z
      · exact hok x z
      · obtain rfl : x = ch := by simpa using z
        exact hch
    · exact hd2.upd hP hd4
  · rintro P H3 hP ⟨cs, hc, hcl, hok, hd3⟩
    have hlen : cs.length ≤ 12 := by omega
    walk_at "go"
    unfold t_law_2
    walk_at "go"
    intro O H4 n4
    have hc4 := n4.keep [] _ _ (by simp) hc
    have PO : P ≠ O := ne_of_none hc n4.free
    walk_at "go"
    unfold t_law_3
    walk_at "go"
    refine i_listK (SqL.of hc4) ?_
    refine f_list (xs := cs.map V.int) (fun i σ H5 => ∃ (O : Addr) (x3 x5 : Option V), σ = [some (.ref a), some (.ref p), some (.ref P), x3, some (.ref O), x5, none, none, none] ∧ H5 O = some (.lst ((u8enc (cs.take i)).map V.int)) ∧ Keep [] H4 H5)
      ⟨O, none, none, rfl, n4.at_, .refl _⟩ (fun i σ H5 _ ⟨_, _, _, _, _, k⟩ => SqL.of (k _ _ (by simp) hc4)) ?_ ?_
    · rintro i x σ H5 hi ⟨O5, x3, x5, rfl, hO5, k5⟩
      obtain ⟨ch, hch, rfl⟩ := get_map hi
      walk_at "go"
      unfold t_law_3a_0
      walk_at "go"
      refine ⟨ch, rfl, fun R H6 n6 => ?_⟩
      have h1 := u8enc_len (cs.take i)
      have h2 := u8enc1_len ch
      have h3 : (cs.take i).length ≤ 12 := by rw [List.length_take]; omega
      refine i_cat (n6.keep [] _ _ (by simp) hO5) n6.at_ (by simp only [List.length_map]; omega) fun O7 H7 n7 => ?_
      walk_at "go"
      refine ⟨O7, _, _, rfl, ?_, (k5.trans (n6.keep [])).trans (n7.keep [])⟩
      rw [n7.at_, take_succ hch]
      simp [u8enc, List.flatMap_append]
    · rintro σ H5 ⟨O5, x3, x5, rfl, hO5, k5⟩
      rw [List.length_map, List.take_length] at hO5
      exact e4 kU hq hok hlen (k5 _ _ (by simp) hc4) hO5
end
/-! ### the text by places -/
def top (i : Nat) : Stmt := PySem.Challenge.pw_formsalike_k06_utf8_there_and_back.main.body.getD i (.Pass ⟨0, 0, 0, 0⟩)
abbrev s_encode_point : Stmt := top 2
abbrev s_encode : Stmt := top 3
abbrev s_Utf8_init : Stmt := inClass (top 4) 0
abbrev s_Utf8_is_open : Stmt := inClass (top 4) 1
abbrev s_Utf8_begin : Stmt := inClass (top 4) 3
abbrev s_Utf8_take : Stmt := inClass (top 4) 2
abbrev s_decode : Stmt := top 5
abbrev s__law_cell : Stmt := top 7
abbrev s__law_numbers : Stmt := top 8
abbrev s__law_state : Stmt := top 9
abbrev s__law_next : Stmt := top 10
abbrev s__law_big : Stmt := top 11
abbrev s__law_point : Stmt := top 12
abbrev s__law_written : Stmt := top 13
abbrev s_law : Stmt := top 14
/-! ### what the walks ask of the module's names -/
structure Txt (K : PySem.W.Frag) (mg : Str → Option Value) : Prop where
  g_LEADS : mg "LEADS" = some (.ref (He.ga K "LEADS"))
  l_LEADS : LitIs K (.ref (He.ga K "LEADS")) (.tup L_LEADS)
  g_Utf8 : mg "Utf8" = some (.ref (He.ga K "Utf8"))
  k_Utf8 : Kls K "Utf8" F_Utf8
  i_Utf8 : Mk K (gA "Utf8" K) (mA "Utf8" "__init__" K)
  m_Utf8_begin : Meth K (gA "Utf8" K) "begin" (mA "Utf8" "begin" K)
  m_Utf8_take : Meth K (gA "Utf8" K) "take" (mA "Utf8" "take" K)
  p_Utf8_is_open : PropOf K (gA "Utf8" K) "is_open" (mA "Utf8" "is_open" K) (pA "Utf8" "is_open" K)
  z_abs : mg "abs" = none
  z_enumerate : mg "enumerate" = none
  z_int : mg "int" = none
  z_len : mg "len" = none
  z_range : mg "range" = none
  z_tuple : mg "tuple" = none
section
variable {P : Program} {w : World} {K : PySem.W.Frag} {mg : Str → Option Value} {base : Heap}
theorem sc_encode_point : FnScope ["point"] ["point"] (defScope s_encode_point) := ⟨rfl, rfl, rfl, by decide +kernel, rfl, by decide +kernel, by decide +kernel⟩
theorem ok_encode_point {f : Addr} {fd : FuncData} (F : FnP K "encode_point" "encode_point" s_encode_point f fd) (T : Txt K mg) : FnOk P w K mg base CX0 1 f fd ["point"] (sp_encode_point K) := by
  refine F.ok sc_encode_point (fun vs H Q E h => len_encode_point h) (fun cdv A outer s H vs Q E hr h => ⟨(t_encode_point_0 K), PSs.nox ?_, r_encode_point h⟩)
  exact (pss_cons (ps_if (pt_cmpR op_lt (pv 0) pe_int (nomark _)) (pss_one (ps_ret (pe_lst (pa_cons (pv 0) pa_nil)))) pss_nil)
      (pss_cons (ps_if (pt_cmpR op_lt (pv 0) pe_int (nomark _)) (pss_one (ps_ret (pe_lst (pa_cons (pe_op op_add pe_int (pe_op op_fdiv (pv 0) pe_int)) (pa_cons (pe_op op_add pe_int (pe_op op_mod (pv 0) pe_int)) pa_nil))))) pss_nil)
      (pss_cons (ps_if (pt_cmpR op_lt (pv 0) pe_int (nomark _)) (pss_one (ps_ret (pe_lst (pa_cons (pe_op op_add pe_int (pe_op op_fdiv (pv 0) pe_int)) (pa_cons (pe_op op_add pe_int (pe_op op_mod (pe_op op_fdiv (pv 0) pe_int) pe_int)) (pa_cons (pe_op op_add pe_int (pe_op op_mod (pv 0) pe_int)) pa_nil)))))) pss_nil)
      (pss_one (ps_ret (pe_lst (pa_cons (pe_op op_add pe_int (pe_op op_fdiv (pv 0) pe_int)) (pa_cons (pe_op op_add pe_int (pe_op op_mod (pe_op op_fdiv (pv 0) pe_int) pe_int)) (pa_cons (pe_op op_add pe_int (pe_op op_mod (pe_op op_fdiv (pv 0) pe_int) pe_int)) (pa_cons (pe_op op_add pe_int (pe_op op_mod (pv 0) pe_int)) pa_nil))))))))))
theorem sc_encode : FnScope ["points", "octets", "point"] ["points"] (defScope s_encode) := ⟨rfl, rfl, rfl, by decide +kernel, rfl, by decide +kernel, by decide +kernel⟩
theorem ok_encode {f : Addr} {fd : FuncData} (F : FnP K "encode" "encode" s_encode f fd) (T : Txt K mg) (c_encode_point : Cal P w K mg base 1 "encode_point" (sp_encode_point K)) : FnOk P w K mg base CX0 2 f fd ["points"] (sp_encode K) := by
  refine F.ok sc_encode (fun vs H Q E h => len_encode h) (fun cdv A outer s H vs Q E hr h => ⟨(t_encode_0 K), PSs.nox ?_, r_encode h⟩)
  exact (pss_cons (ps_set (i := 1) sc_encode.nd rfl (Or.inl rfl) (pe_lst pa_nil))
      (pss_cons (ps_for PassesOwn.never rfl (pi_seq (pv 0)) (pg_name (i := 2) sc_encode.nd rfl (Or.inl rfl)) (pss_one (ps_expr (pe_bm PySem.F.plainAttrs_list PySem.F.slot_list_extend PySem.F.type_list_extend mt_extend (pv 1) (pa_cons (pe_callC c_encode_point (hr.mono (by decide)) (by rfl) (pa_cons (pv 2) pa_nil)) pa_nil)))))
      (pss_one (ps_ret (pv 1)))))
theorem sc_Utf8_init : FnScope ["self"] ["self"] (defScope s_Utf8_init) := ⟨rfl, rfl, rfl, by decide +kernel, rfl, by decide +kernel, by decide +kernel⟩
theorem ok_Utf8_init {f : Addr} {fd : FuncData} (F : FnP K "__init__" "Utf8.__init__" s_Utf8_init f fd) (T : Txt K mg) : FnOk P w K mg base CX0 1 f fd ["self"] (sp_Utf8_init K) := by
  refine F.ok sc_Utf8_init (fun vs H Q E h => len_Utf8_init h) (fun cdv A outer s H vs Q E hr h => ⟨(t_Utf8_init_0 K), PSs.nox ?_, r_Utf8_init T.k_Utf8 h⟩)
  exact (pss_cons (ps_fld (pv 0) (pe_lst pa_nil) rfl)
      (pss_cons (ps_fld (pv 0) pe_int rfl)
      (pss_cons (ps_fld (pv 0) pe_int rfl)
      (pss_cons (ps_fld (pv 0) pe_int rfl)
      (pss_one (ps_fld (pv 0) pe_int rfl))))))
theorem sc_Utf8_is_open : FnScope ["self"] ["self"] (defScope s_Utf8_is_open) := ⟨rfl, rfl, rfl, by decide +kernel, rfl, by decide +kernel, by decide +kernel⟩
theorem ok_Utf8_is_open {f : Addr} {fd : FuncData} (F : FnP K "is_open" "Utf8.is_open" s_Utf8_is_open f fd) (T : Txt K mg) : FnOk P w K mg base CX0 1 f fd ["self"] (sp_Utf8_is_open K) := by
  refine F.ok sc_Utf8_is_open (fun vs H Q E h => len_Utf8_is_open h) (fun cdv A outer s H vs Q E hr h => ⟨(t_Utf8_is_open_0 K), PSs.nox ?_, r_Utf8_is_open T.k_Utf8 h⟩)
  exact (pss_one (ps_ret (pe_cmpR op_gt (pe_fld (pv 0) rfl) pe_int (nomark _))))
theorem sc_Utf8_begin : FnScope ["self", "octet", "first", "last", "low", "high", "left", "base"] ["self", "octet"] (defScope s_Utf8_begin) := ⟨rfl, rfl, rfl, by decide +kernel, rfl, by decide +kernel, by decide +kernel⟩
theorem ok_Utf8_begin {f : Addr} {fd : FuncData} (F : FnP K "begin" "Utf8.begin" s_Utf8_begin f fd) (T : Txt K mg) : FnOk P w K mg base CX0 1 f fd ["self", "octet"] (sp_Utf8_begin K) := by
  refine F.ok sc_Utf8_begin (fun vs H Q E h => len_Utf8_begin h) (fun cdv A outer s H vs Q E hr h => ⟨(t_Utf8_begin_0 K), PSs.nox ?_, r_Utf8_begin T.k_Utf8 T.l_LEADS h⟩)
  exact (pss_cons (ps_if (pt_cmpR op_lt (pv 1) pe_int (nomark _)) (pss_cons (ps_expr (pe_bm PySem.F.plainAttrs_list PySem.F.slot_list_append PySem.F.type_list_append mt_append (pe_fld (pv 0) rfl) (pa_cons (pv 1) pa_nil)))
      (pss_one (ps_ret pe_bl))) pss_nil)
      (pss_cons (ps_for PassesOwn.never rfl (pi_tup (pe_globR (by rfl) T.g_LEADS)) (pg_tup rfl (pgs_cons (pg_name (i := 2) sc_Utf8_begin.nd rfl (Or.inl rfl)) (pgs_cons (pg_name (i := 3) sc_Utf8_begin.nd rfl (Or.inl rfl)) (pgs_cons (pg_name (i := 4) sc_Utf8_begin.nd rfl (Or.inl rfl)) (pgs_cons (pg_name (i := 5) sc_Utf8_begin.nd rfl (Or.inl rfl)) (pgs_cons (pg_name (i := 6) sc_Utf8_begin.nd rfl (Or.inl rfl)) (pgs_cons (pg_name (i := 7) sc_Utf8_begin.nd rfl (Or.inl rfl)) pgs_nil))))))) (pss_one (ps_if (pt_chain op_le op_le (pv 2) (pv 1) (pv 3)) (pss_cons (ps_fld (pv 0) (pv 4) rfl)
      (pss_cons (ps_fld (pv 0) (pv 5) rfl)
      (pss_cons (ps_fld (pv 0) (pv 6) rfl)
      (pss_cons (ps_fld (pv 0) (pe_op op_sub (pv 1) (pv 7)) rfl)
      (pss_one (ps_ret pe_bl)))))) pss_nil)))
      (pss_one (ps_ret pe_bl))))
theorem sc_Utf8_take : FnScope ["self", "octet"] ["self", "octet"] (defScope s_Utf8_take) := ⟨rfl, rfl, rfl, by decide +kernel, rfl, by decide +kernel, by decide +kernel⟩
theorem ok_Utf8_take {f : Addr} {fd : FuncData} (F : FnP K "take" "Utf8.take" s_Utf8_take f fd) (T : Txt K mg) (c_Utf8_begin : CalA P w K mg base 1 (mA "Utf8" "begin" K) (sp_Utf8_begin K)) : FnOk P w K mg base CX0 2 f fd ["self", "octet"] (sp_Utf8_take K) := by
  obtain ⟨_, _, G_Utf8_begin, b_Utf8_begin⟩ := c_Utf8_begin.ex
  refine F.ok sc_Utf8_take (fun vs H Q E h => len_Utf8_take h) (fun cdv A outer s H vs Q E hr h => ⟨(t_Utf8_take_0 K), PSs.nox ?_, r_Utf8_take T.k_Utf8 h⟩)
  exact (pss_cons (ps_if (pt_cmpR op_eq (pe_fld (pv 0) rfl) pe_int (nomark _)) (pss_one (ps_ret (pe_meth (pv 0) T.k_Utf8.cl T.m_Utf8_begin G_Utf8_begin (hr.mono (by decide)) b_Utf8_begin .nil pass0 (pa_cons (pv 1) pa_nil)))) pss_nil)
      (pss_cons (ps_if (pt_not (pt_chain op_le op_le (pe_fld (pv 0) rfl) (pv 1) (pe_fld (pv 0) rfl))) (pss_one (ps_ret pe_bl)) pss_nil)
      (pss_cons (ps_fld (pv 0) (pe_op op_sub (pe_op op_add (pe_op op_mul (pe_fld (pv 0) rfl) pe_int) (pv 1)) pe_int) rfl)
      (pss_cons (ps_fld (pv 0) pe_int rfl)
      (pss_cons (ps_fld (pv 0) pe_int rfl)
      (pss_cons (ps_fld (pv 0) (pe_op op_sub (pe_fld (pv 0) rfl) pe_int) rfl)
      (pss_cons (ps_if (pt_cmpR op_eq (pe_fld (pv 0) rfl) pe_int (nomark _)) (pss_one (ps_expr (pe_bm PySem.F.plainAttrs_list PySem.F.slot_list_append PySem.F.type_list_append mt_append (pe_fld (pv 0) rfl) (pa_cons (pe_fld (pv 0) rfl) pa_nil)))) pss_nil)
      (pss_one (ps_ret pe_bl)))))))))
theorem sc_decode : FnScope ["octets", "machine", "index", "octet"] ["octets"] (defScope s_decode) := ⟨rfl, rfl, rfl, by decide +kernel, rfl, by decide +kernel, by decide +kernel⟩
theorem ok_decode {f : Addr} {fd : FuncData} (F : FnP K "decode" "decode" s_decode f fd) (T : Txt K mg) (c_Utf8_init : CalA P w K mg base 1 (mA "Utf8" "__init__" K) (sp_Utf8_init K)) (c_Utf8_is_open : CalA P w K mg base 1 (pA "Utf8" "is_open" K) (sp_Utf8_is_open K)) (c_Utf8_take : CalA P w K mg base 2 (mA "Utf8" "take" K) (sp_Utf8_take K)) : FnOk P w K mg base CX0 3 f fd ["octets"] (sp_decode K) := by
  obtain ⟨_, _, G_Utf8_init, b_Utf8_init⟩ := c_Utf8_init.ex
  obtain ⟨_, _, G_Utf8_is_open, b_Utf8_is_open⟩ := c_Utf8_is_open.ex
  obtain ⟨_, _, G_Utf8_take, b_Utf8_take⟩ := c_Utf8_take.ex
  refine F.ok sc_decode (fun vs H Q E h => len_decode h) (fun cdv A outer s H vs Q E hr h => ⟨(t_decode_0 K), PSs.nox ?_, r_decode T.k_Utf8 h⟩)
  exact (pss_cons (ps_set (i := 1) sc_decode.nd rfl (Or.inl rfl) (pe_make0 T.i_Utf8 G_Utf8_init (hr.mono (by decide)) (by rfl) T.g_Utf8 b_Utf8_init .nil pass0))
      (pss_cons (ps_for PassesOwn.never rfl (pi_enumQ (by rfl) T.z_enumerate (pa_cons (pv 0) pa_nil)) (pg_tup rfl (pgs_cons (pg_name (i := 2) sc_decode.nd rfl (Or.inl rfl)) (pgs_cons (pg_name (i := 3) sc_decode.nd rfl (Or.inl rfl)) pgs_nil))) (pss_one (ps_if (pt_not (pt_val (pe_meth (pv 1) T.k_Utf8.cl T.m_Utf8_take G_Utf8_take (hr.mono (by decide)) b_Utf8_take .nil pass0 (pa_cons (pv 3) pa_nil)))) (pss_one (ps_ret (pe_tup (pa_cons pe_non (pa_cons (pv 2) pa_nil))))) pss_nil)))
      (pss_cons (ps_if (pt_val (pe_prop (pv 1) T.k_Utf8.cl T.p_Utf8_is_open G_Utf8_is_open (hr.mono (by decide)) b_Utf8_is_open .nil pass0 rfl)) (pss_one (ps_ret (pe_tup (pa_cons pe_non (pa_cons (pe_op op_sub (pe_callB call_len_seq (by rfl) T.z_len (by decide +kernel) (pa_cons (pv 0) pa_nil)) pe_int) pa_nil))))) pss_nil)
      (pss_one (ps_ret (pe_tup (pa_cons (pe_callTy call_tuple_of (by rfl) T.z_tuple (by decide +kernel) (pa_cons (pe_fld (pv 1) rfl) pa_nil)) (pa_cons pe_non pa_nil))))))))
theorem sc__law_cell : FnScope ["_law_script", "_law_k"] ["_law_script", "_law_k"] (defScope s__law_cell) := ⟨rfl, rfl, rfl, by decide +kernel, rfl, by decide +kernel, by decide +kernel⟩
theorem ok__law_cell {f : Addr} {fd : FuncData} (F : FnP K "_law_cell" "_law_cell" s__law_cell f fd) (T : Txt K mg) : FnOk P w K mg base CX0 1 f fd ["_law_script", "_law_k"] (sp__law_cell K) := by
  refine F.ok sc__law_cell (fun vs H Q E h => len__law_cell h) (fun cdv A outer s H vs Q E hr h => ⟨(t__law_cell_0 K), PSs.nox ?_, r__law_cell h⟩)
  exact (pss_cons (ps_if (pt_cmpR op_lt (pv 1) (pe_callB call_len_seq (by rfl) T.z_len (by decide +kernel) (pa_cons (pv 0) pa_nil)) (nomark _)) (pss_one (ps_ret (pe_ix ix_list (pv 0) (pv 1) (fun _ _ => rfl)))) pss_nil)
      (pss_one (ps_ret pe_int)))
theorem sc__law_numbers : FnScope ["_law_cell_here", "_law_many", "_law_rest", "_law_size", "_law_numbers_here", "_law_k", "_law_mixed"] ["_law_cell_here", "_law_many"] (defScope s__law_numbers) := ⟨rfl, rfl, rfl, by decide +kernel, rfl, by decide +kernel, by decide +kernel⟩
theorem ok__law_numbers {f : Addr} {fd : FuncData} (F : FnP K "_law_numbers" "_law_numbers" s__law_numbers f fd) (T : Txt K mg) : FnOk P w K mg base CX0 1 f fd ["_law_cell_here", "_law_many"] (sp__law_numbers K) := by
  refine F.ok sc__law_numbers (fun vs H Q E h => len__law_numbers h) (fun cdv A outer s H vs Q E hr h => ⟨(t__law_numbers_0 K), PSs.nox ?_, r__law_numbers h⟩)
  exact (pss_cons (ps_set (i := 2) sc__law_numbers.nd rfl (Or.inl rfl) (pe_callB call_abs (by rfl) T.z_abs (by decide +kernel) (pa_cons (pv 0) pa_nil)))
      (pss_cons (ps_set (i := 3) sc__law_numbers.nd rfl (Or.inl rfl) (pv 2))
      (pss_cons (ps_set (i := 4) sc__law_numbers.nd rfl (Or.inl rfl) (pe_lst pa_nil))
      (pss_cons (ps_for PassesOwn.never rfl (pi_range1 (by rfl) T.z_range (pa_cons (pv 1) pa_nil)) (pg_name (i := 5) sc__law_numbers.nd rfl (Or.inl rfl)) (pss_one (ps_if (PW.pt (pw_and (pt_cmpR op_ge (pv 3) (pe_op op_pow pe_int pe_int) (nomark _)) (pw_and1 (pt_cmpR op_gt (pv 2) pe_int (nomark _))))) (pss_cons (ps_expr (pe_bm PySem.F.plainAttrs_list PySem.F.slot_list_append PySem.F.type_list_append mt_append (pv 4) (pa_cons (pe_op op_mod (pe_callTy call_int1 (by rfl) T.z_int (by decide +kernel) (pa_cons (pv 2) pa_nil)) pe_int) pa_nil)))
      (pss_one (ps_set (i := 2) sc__law_numbers.nd rfl (Or.inl rfl) (pe_op op_fdiv (pv 2) pe_int)))) (pss_cons (ps_set (i := 6) sc__law_numbers.nd rfl (Or.inl rfl) (pe_op op_mod (pe_callTy call_int1 (by rfl) T.z_int (by decide +kernel) (pa_cons (pe_op op_add (pe_op op_add (pe_op op_mul (pv 3) pe_int) (pe_op op_mul (pv 5) pe_int)) pe_int) pa_nil)) pe_int))
      (pss_cons (ps_set (i := 6) sc__law_numbers.nd rfl (Or.inl rfl) (pe_op op_mod (pe_callTy call_int1 (by rfl) T.z_int (by decide +kernel) (pa_cons (pe_op op_add (pe_op op_add (pe_op op_mul (pv 6) (pv 6)) (pe_op op_mul pe_int (pv 5))) pe_int) pa_nil)) pe_int))
      (pss_one (ps_expr (pe_bm PySem.F.plainAttrs_list PySem.F.slot_list_append PySem.F.type_list_append mt_append (pv 4) (pa_cons (pe_op op_mod (pe_callTy call_int1 (by rfl) T.z_int (by decide +kernel) (pa_cons (pe_op op_fdiv (pv 6) pe_int) pa_nil)) pe_int) pa_nil)))))))))
      (pss_one (ps_ret (pv 4)))))))
theorem sc__law_state : FnScope ["_law_script", "_law_left", "_law_numbers_here", "_law_parted", "_law_k"] ["_law_script", "_law_left"] (defScope s__law_state) := ⟨rfl, rfl, rfl, by decide +kernel, rfl, by decide +kernel, by decide +kernel⟩
theorem ok__law_state {f : Addr} {fd : FuncData} (F : FnP K "_law_state" "_law_state" s__law_state f fd) (T : Txt K mg) (c__law_cell : Cal P w K mg base 1 "_law_cell" (sp__law_cell K)) (c__law_numbers : Cal P w K mg base 1 "_law_numbers" (sp__law_numbers K)) : FnOk P w K mg base CX0 2 f fd ["_law_script", "_law_left"] (sp__law_state K) := by
  refine F.ok sc__law_state (fun vs H Q E h => len__law_state h) (fun cdv A outer s H vs Q E hr h => ⟨(t__law_state_0 K), PSs.nox ?_, r__law_state h⟩)
  exact (pss_cons (ps_set (i := 2) sc__law_state.nd rfl (Or.inl rfl) (pe_lst pa_nil))
      (pss_cons (ps_setLc (i := 3) (own := [("_law_k", 4)]) (g := (gName 4)) (tt := tYes) (te := (tCall (sp__law_numbers K) [] E0 (tCons (tCall (sp__law_cell K) [] E0 (tCons (tVar 0) (tCons (tVar 4) tNil))) (tCons (tC (.int 40)) tNil)))) (wi := (iRng1 (tCons (tC (.int 3)) tNil))) rfl sc__law_state.nd rfl rfl (sw_true rfl rfl rfl (by decide +kernel)) (pi_range1 (by rfl) T.z_range (pa_cons pe_int pa_nil)) (blkOk_by (N := ["_law_script", "_law_left", "_law_numbers_here", "_law_parted", "_law_k"]) (sc := defScope s__law_state) (by decide +kernel)) (fun _ _ _ _ _ => (pg_name (i := 4) sc__law_state.nd rfl (Or.inl rfl))) (fun _ _ _ _ _ => pts_nil) (fun _ _ _ _ _ => (pe_callC c__law_numbers (hr.mono (by decide)) (by rfl) (pa_cons (pe_callC c__law_cell (hr.mono (by decide)) (by rfl) (pa_cons (pv 0) (pa_cons (pv 4) pa_nil))) (pa_cons pe_int pa_nil)))))
      (pss_cons (ps_for PassesOwn.never rfl (pi_range1 (by rfl) T.z_range (pa_cons pe_int pa_nil)) (pg_name (i := 4) sc__law_state.nd rfl (Or.inl rfl)) (pss_cons (ps_expr (pe_bm PySem.F.plainAttrs_list PySem.F.slot_list_append PySem.F.type_list_append mt_append (pv 2) (pa_cons (pe_ix ix_list (pe_ix ix_list (pv 3) pe_int (fun _ _ => rfl)) (pv 4) (fun _ _ => rfl)) pa_nil)))
      (pss_cons (ps_expr (pe_bm PySem.F.plainAttrs_list PySem.F.slot_list_append PySem.F.type_list_append mt_append (pv 2) (pa_cons (pe_ix ix_list (pe_ix ix_list (pv 3) pe_int (fun _ _ => rfl)) (pv 4) (fun _ _ => rfl)) pa_nil)))
      (pss_one (ps_expr (pe_bm PySem.F.plainAttrs_list PySem.F.slot_list_append PySem.F.type_list_append mt_append (pv 2) (pa_cons (pe_ix ix_list (pe_ix ix_list (pv 3) pe_int (fun _ _ => rfl)) (pv 4) (fun _ _ => rfl)) pa_nil)))))))
      (pss_one (ps_ret (pe_lst (pa_cons (pv 2) (pa_cons pe_int (pa_cons (pv 1) (pa_cons (pv 0) (pa_cons pe_int pa_nil)))))))))))
theorem sc__law_next : FnScope ["_law_state_here", "_law_many", "_law_at"] ["_law_state_here", "_law_many"] (defScope s__law_next) := ⟨rfl, rfl, rfl, by decide +kernel, rfl, by decide +kernel, by decide +kernel⟩
theorem ok__law_next {f : Addr} {fd : FuncData} (F : FnP K "_law_next" "_law_next" s__law_next f fd) (T : Txt K mg) : FnOk P w K mg base CX0 1 f fd ["_law_state_here", "_law_many"] (sp__law_next K) := by
  refine F.ok sc__law_next (fun vs H Q E h => len__law_next h) (fun cdv A outer s H vs Q E hr h => ⟨(t__law_next_0 K), PSs.nox ?_, r__law_next h⟩)
  exact (pss_cons (ps_set (i := 2) sc__law_next.nd rfl (Or.inl rfl) (pe_ix ix_list (pv 0) pe_int (fun _ _ => rfl)))
      (pss_cons (ps_asg (pe_op op_add (pv 2) pe_int) (pg_sub (pv 0) pe_int set_list))
      (pss_one (ps_ret (pe_op op_mod (pe_callTy call_int1 (by rfl) T.z_int (by decide +kernel) (pa_cons (pe_op op_add (pe_ix ix_list (pe_ix ix_list (pv 0) pe_int (fun _ _ => rfl)) (pe_op op_mod (pv 2) pe_int) (fun _ _ => rfl)) (pe_op op_mul pe_int (pe_op op_fdiv (pv 2) pe_int))) pa_nil)) (pv 1))))))
theorem sc__law_big : FnScope ["_law_state_here", "_law_many", "_law_cell_here"] ["_law_state_here", "_law_many"] (defScope s__law_big) := ⟨rfl, rfl, rfl, by decide +kernel, rfl, by decide +kernel, by decide +kernel⟩
theorem ok__law_big {f : Addr} {fd : FuncData} (F : FnP K "_law_big" "_law_big" s__law_big f fd) (T : Txt K mg) (c__law_cell : Cal P w K mg base 1 "_law_cell" (sp__law_cell K)) (c__law_next : Cal P w K mg base 1 "_law_next" (sp__law_next K)) : FnOk P w K mg base CX0 2 f fd ["_law_state_here", "_law_many"] (sp__law_big K) := by
  refine F.ok sc__law_big (fun vs H Q E h => len__law_big h) (fun cdv A outer s H vs Q E hr h => ⟨(t__law_big_0 K), PSs.nox ?_, r__law_big h⟩)
  exact (pss_cons (ps_set (i := 2) sc__law_big.nd rfl (Or.inl rfl) (pe_callB call_abs (by rfl) T.z_abs (by decide +kernel) (pa_cons (pe_callC c__law_cell (hr.mono (by decide)) (by rfl) (pa_cons (pe_ix ix_list (pv 0) pe_int (fun _ _ => rfl)) (pa_cons (pe_op op_add pe_int (pe_callC c__law_next (hr.mono (by decide)) (by rfl) (pa_cons (pv 0) (pa_cons pe_int pa_nil)))) pa_nil))) pa_nil)))
      (pss_one (ps_ret (pe_op op_mod (pe_callTy call_int1 (by rfl) T.z_int (by decide +kernel) (pa_cons (pe_op op_add (pe_op op_mul (pv 2) pe_int) (pe_callC c__law_next (hr.mono (by decide)) (by rfl) (pa_cons (pv 0) (pa_cons pe_int pa_nil)))) pa_nil)) (pv 1)))))
theorem sc__law_point : FnScope ["_law_state_here", "_law_edges", "_law_pick"] ["_law_state_here"] (defScope s__law_point) := ⟨rfl, rfl, rfl, by decide +kernel, rfl, by decide +kernel, by decide +kernel⟩
theorem ok__law_point {f : Addr} {fd : FuncData} (F : FnP K "_law_point" "_law_point" s__law_point f fd) (T : Txt K mg) (c__law_big : Cal P w K mg base 2 "_law_big" (sp__law_big K)) (c__law_next : Cal P w K mg base 1 "_law_next" (sp__law_next K)) : FnOk P w K mg base CX0 3 f fd ["_law_state_here"] (sp__law_point K) := by
  refine F.ok sc__law_point (fun vs H Q E h => len__law_point h) (fun cdv A outer s H vs Q E hr h => ⟨(t__law_point_0 K), PSs.nox ?_, r__law_point h⟩)
  exact (pss_cons (ps_set (i := 1) sc__law_point.nd rfl (Or.inl rfl) (pe_lst (pa_cons pe_int (pa_cons pe_int (pa_cons pe_int (pa_cons pe_int (pa_cons pe_int (pa_cons pe_int (pa_cons pe_int (pa_cons pe_int (pa_cons pe_int (pa_cons pe_int pa_nil))))))))))))
      (pss_cons (ps_set (i := 2) sc__law_point.nd rfl (Or.inl rfl) (pe_callC c__law_next (hr.mono (by decide)) (by rfl) (pa_cons (pv 0) (pa_cons pe_int pa_nil))))
      (pss_cons (ps_if (pt_cmpR op_eq (pv 2) pe_int (nomark _)) (pss_one (ps_ret (pe_ix ix_list (pv 1) (pe_callC c__law_next (hr.mono (by decide)) (by rfl) (pa_cons (pv 0) (pa_cons pe_int pa_nil))) (fun _ _ => rfl)))) pss_nil)
      (pss_cons (ps_if (pt_cmpR op_eq (pv 2) pe_int (nomark _)) (pss_one (ps_ret (pe_callC c__law_big (hr.mono (by decide)) (by rfl) (pa_cons (pv 0) (pa_cons pe_int pa_nil))))) pss_nil)
      (pss_cons (ps_if (pt_cmpR op_eq (pv 2) pe_int (nomark _)) (pss_one (ps_ret (pe_op op_add pe_int (pe_callC c__law_big (hr.mono (by decide)) (by rfl) (pa_cons (pv 0) (pa_cons pe_int pa_nil)))))) pss_nil)
      (pss_one (ps_ret (pe_ix ix_list (pe_lst (pa_cons (pe_op op_add pe_int (pe_callC c__law_next (hr.mono (by decide)) (by rfl) (pa_cons (pv 0) (pa_cons pe_int pa_nil)))) (pa_cons (pe_op op_add pe_int (pe_callC c__law_next (hr.mono (by decide)) (by rfl) (pa_cons (pv 0) (pa_cons pe_int pa_nil)))) pa_nil))) (pe_callC c__law_next (hr.mono (by decide)) (by rfl) (pa_cons (pv 0) (pa_cons pe_int pa_nil))) (fun _ _ => rfl)))))))))
theorem sc__law_written : FnScope ["_law_point_here"] ["_law_point_here"] (defScope s__law_written) := ⟨rfl, rfl, rfl, by decide +kernel, rfl, by decide +kernel, by decide +kernel⟩
theorem ok__law_written {f : Addr} {fd : FuncData} (F : FnP K "_law_written" "_law_written" s__law_written f fd) (T : Txt K mg) : FnOk P w K mg base CX0 1 f fd ["_law_point_here"] (sp__law_written K) := by
  refine F.ok sc__law_written (fun vs H Q E h => len__law_written h) (fun cdv A outer s H vs Q E hr h => ⟨(t__law_written_0 K), PSs.nox ?_, r__law_written h⟩)
  exact (pss_cons (ps_if (pt_cmpR op_lt (pv 0) pe_int (nomark _)) (pss_one (ps_ret (pe_lst (pa_cons (pv 0) pa_nil)))) pss_nil)
      (pss_cons (ps_if (pt_cmpR op_lt (pv 0) pe_int (nomark _)) (pss_one (ps_ret (pe_lst (pa_cons (pe_op op_add pe_int (pe_op op_fdiv (pv 0) pe_int)) (pa_cons (pe_op op_add pe_int (pe_op op_mod (pv 0) pe_int)) pa_nil))))) pss_nil)
      (pss_cons (ps_if (pt_cmpR op_lt (pv 0) pe_int (nomark _)) (pss_one (ps_ret (pe_lst (pa_cons (pe_op op_add pe_int (pe_op op_fdiv (pv 0) pe_int)) (pa_cons (pe_op op_add pe_int (pe_op op_mod (pe_op op_fdiv (pv 0) pe_int) pe_int)) (pa_cons (pe_op op_add pe_int (pe_op op_mod (pv 0) pe_int)) pa_nil)))))) pss_nil)
      (pss_one (ps_ret (pe_lst (pa_cons (pe_op op_add pe_int (pe_op op_fdiv (pv 0) pe_int)) (pa_cons (pe_op op_add pe_int (pe_op op_mod (pe_op op_fdiv (pv 0) pe_int) pe_int)) (pa_cons (pe_op op_add pe_int (pe_op op_mod (pe_op op_fdiv (pv 0) pe_int) pe_int)) (pa_cons (pe_op op_add pe_int (pe_op op_mod (pv 0) pe_int)) pa_nil))))))))))
theorem sc_law : FnScope ["_law_script", "_law_state_here", "_law_points", "_law_k", "_law_octets", "_law_point_here", "_law_machine", "_law_whole", "_law_rows"] ["_law_script"] (defScope s_law) := ⟨rfl, rfl, rfl, by decide +kernel, rfl, by decide +kernel, by decide +kernel⟩
theorem ok_law {f : Addr} {fd : FuncData} (F : FnP K "law" "law" s_law f fd) (T : Txt K mg) (c_Utf8_init : CalA P w K mg base 1 (mA "Utf8" "__init__" K) (sp_Utf8_init K)) (c_Utf8_is_open : CalA P w K mg base 1 (pA "Utf8" "is_open" K) (sp_Utf8_is_open K)) (c_Utf8_take : CalA P w K mg base 2 (mA "Utf8" "take" K) (sp_Utf8_take K)) (c__law_next : Cal P w K mg base 1 "_law_next" (sp__law_next K)) (c__law_point : Cal P w K mg base 3 "_law_point" (sp__law_point K)) (c__law_state : Cal P w K mg base 2 "_law_state" (sp__law_state K)) (c__law_written : Cal P w K mg base 1 "_law_written" (sp__law_written K)) (c_decode : Cal P w K mg base 3 "decode" (sp_decode K)) (c_encode : Cal P w K mg base 2 "encode" (sp_encode K)) : FnOk P w K mg base CX0 4 f fd ["_law_script"] (sp_law K) := by
  obtain ⟨_, _, G_Utf8_init, b_Utf8_init⟩ := c_Utf8_init.ex
  obtain ⟨_, _, G_Utf8_is_open, b_Utf8_is_open⟩ := c_Utf8_is_open.ex
  obtain ⟨_, _, G_Utf8_take, b_Utf8_take⟩ := c_Utf8_take.ex
  refine F.ok sc_law (fun vs H Q E h => len_law h) (fun cdv A outer s H vs Q E hr h => ⟨(t_law_0 K), PSs.nox ?_, r_law T.k_Utf8 h⟩)
  have hu64 := hr.units
  exact (pss_cons (ps_set (i := 1) sc_law.nd rfl (Or.inr rfl) (pe_callC c__law_state (hr.mono (by decide)) (by rfl) (pa_cons (pv 0) (pa_cons pe_int pa_nil))))
      (pss_cons (ps_setLc (i := 2) (own := [("_law_k", 3)]) (g := (gName 3)) (tt := tYes) (te := (tCall (sp__law_point K) [] E0 (tCons (tVar 1) tNil))) (wi := (iRng1 (tCons (tCall (sp__law_next K) [] E0 (tCons (tVar 1) (tCons (tC (.int 12)) tNil))) tNil))) rfl sc_law.nd rfl rfl (sw_true rfl rfl rfl (by decide +kernel)) (pi_range1 (by rfl) T.z_range (pa_cons (pe_callC c__law_next (hr.mono (by decide)) (by rfl) (pa_cons (pv 1) (pa_cons pe_int pa_nil))) pa_nil)) (blkOk_by (N := ["_law_script", "_law_state_here", "_law_points", "_law_k", "_law_octets", "_law_point_here", "_law_machine", "_law_whole", "_law_rows"]) (sc := defScope s_law) (by decide +kernel)) (fun _ _ _ _ _ => (pg_name (i := 3) sc_law.nd rfl (Or.inl rfl))) (fun _ _ _ _ _ => pts_nil) (fun _ _ _ _ _ => (pe_callC c__law_point (hr.mono (by decide)) (by rfl) (pa_cons (pv 1) pa_nil))))
      (pss_cons (ps_set (i := 4) sc_law.nd rfl (Or.inl rfl) (pe_lst pa_nil))
      (pss_cons (ps_for PassesOwn.never rfl (pi_list (pv 2)) (pg_name (i := 5) sc_law.nd rfl (Or.inl rfl)) (pss_one (ps_set (i := 4) sc_law.nd rfl (Or.inl rfl) (pe_op op_cat (pv 4) (pe_callC c__law_written (hr.mono (by decide)) (by rfl) (pa_cons (pv 5) pa_nil))))))
      (pss_cons (ps_if (PW.pt (pw_or (pt_cmpR (op_neD hu64) (pe_callC c_encode (hr.mono (by decide)) (by rfl) (pa_cons (pe_callTy call_tuple_of (by rfl) T.z_tuple (by decide +kernel) (pa_cons (pv 2) pa_nil)) pa_nil)) (pv 4) (nomark _)) (pw_or (pt_cmpR (op_neD hu64) (pe_callC c_encode (hr.mono (by decide)) (by rfl) (pa_cons (pv 2) pa_nil)) (pv 4) (nomark _)) (pw_or1 (pt_cmpR (op_neD hu64) (pe_callC c_decode (hr.mono (by decide)) (by rfl) (pa_cons (pv 4) pa_nil)) (pe_tup (pa_cons (pe_callTy call_tuple_of (by rfl) T.z_tuple (by decide +kernel) (pa_cons (pv 2) pa_nil)) (pa_cons pe_non pa_nil))) (nomark _)))))) (pss_one (ps_ret pe_bl)) pss_nil)
      (pss_cons (ps_set (i := 6) sc_law.nd rfl (Or.inl rfl) (pe_make0 T.i_Utf8 G_Utf8_init (hr.mono (by decide)) (by rfl) T.g_Utf8 b_Utf8_init .nil pass0))
      (pss_cons (ps_set (i := 7) sc_law.nd rfl (Or.inl rfl) (pe_lst pa_nil))
      (pss_cons (ps_if (PW.pt (pw_or (pt_cmpR op_notBl (pe_prop (pv 6) T.k_Utf8.cl T.p_Utf8_is_open G_Utf8_is_open (hr.mono (by decide)) b_Utf8_is_open .nil pass0 rfl) pe_bl (nomark _)) (pw_or1 (pt_cmpR (op_neD hu64) (pe_fld (pv 6) rfl) (pe_lst pa_nil) (nomark _))))) (pss_one (ps_ret pe_bl)) pss_nil)
      (pss_cons (ps_for PassesOwn.never rfl (pi_list (pv 2)) (pg_name (i := 5) sc_law.nd rfl (Or.inl rfl)) (pss_cons (ps_set (i := 8) sc_law.nd rfl (Or.inl rfl) (pe_callC c__law_written (hr.mono (by decide)) (by rfl) (pa_cons (pv 5) pa_nil)))
      (pss_one (ps_for PassesOwn.never rfl (pi_range1 (by rfl) T.z_range (pa_cons (pe_callB call_len_seq (by rfl) T.z_len (by decide +kernel) (pa_cons (pv 8) pa_nil)) pa_nil)) (pg_name (i := 3) sc_law.nd rfl (Or.inl rfl)) (pss_cons (ps_if (PW.pt (pw_or (pt_cmpR op_notBl (pe_meth (pv 6) T.k_Utf8.cl T.m_Utf8_take G_Utf8_take (hr.mono (by decide)) b_Utf8_take .nil pass0 (pa_cons (pe_ix ix_list (pv 8) (pv 3) (fun _ _ => rfl)) pa_nil)) pe_bl (nomark _)) (pw_or1 (pt_cmpR op_ne (pe_prop (pv 6) T.k_Utf8.cl T.p_Utf8_is_open G_Utf8_is_open (hr.mono (by decide)) b_Utf8_is_open .nil pass0 rfl) (pe_cmpR op_lt (pe_op op_add (pv 3) pe_int) (pe_callB call_len_seq (by rfl) T.z_len (by decide +kernel) (pa_cons (pv 8) pa_nil)) (nomark _)) (nomark _))))) (pss_one (ps_ret pe_bl)) pss_nil)
      (pss_cons (ps_if (pt_cmpR op_eq (pe_op op_add (pv 3) pe_int) (pe_callB call_len_seq (by rfl) T.z_len (by decide +kernel) (pa_cons (pv 8) pa_nil)) (nomark _)) (pss_one (ps_expr (pe_bm PySem.F.plainAttrs_list PySem.F.slot_list_append PySem.F.type_list_append mt_append (pv 7) (pa_cons (pv 5) pa_nil)))) pss_nil)
      (pss_one (ps_if (pt_cmpR (op_neD hu64) (pe_fld (pv 6) rfl) (pv 7) (nomark _)) (pss_one (ps_ret pe_bl)) pss_nil))))))))
      (pss_one (ps_ret (pe_cmpR (op_eqD hu64) (pe_callC c_decode (hr.mono (by decide)) (by rfl) (pa_cons (pe_callTy call_tuple_of (by rfl) T.z_tuple (by decide +kernel) (pa_cons (pv 4) pa_nil)) pa_nil)) (pe_tup (pa_cons (pe_callTy call_tuple_of (by rfl) T.z_tuple (by decide +kernel) (pa_cons (pv 2) pa_nil)) (pa_cons pe_non pa_nil))) (nomark _)))))))))))))
end
/-! ### the head -/
def d_encode_point : DefX := dX (gA "encode_point") "encode_point" "encode_point" s_encode_point
def d_encode : DefX := dX (gA "encode") "encode" "encode" s_encode
def d_Utf8_init : DefX := dX (mA "Utf8" "__init__") "__init__" "Utf8.__init__" s_Utf8_init
def d_Utf8_is_open : DefX := dX (pA "Utf8" "is_open") "is_open" "Utf8.is_open" s_Utf8_is_open
def d_Utf8_begin : DefX := dX (mA "Utf8" "begin") "begin" "Utf8.begin" s_Utf8_begin
def d_Utf8_take : DefX := dX (mA "Utf8" "take") "take" "Utf8.take" s_Utf8_take
def d_decode : DefX := dX (gA "decode") "decode" "decode" s_decode
def d__law_cell : DefX := dX (gA "_law_cell") "_law_cell" "_law_cell" s__law_cell
def d__law_numbers : DefX := dX (gA "_law_numbers") "_law_numbers" "_law_numbers" s__law_numbers
def d__law_state : DefX := dX (gA "_law_state") "_law_state" "_law_state" s__law_state
def d__law_next : DefX := dX (gA "_law_next") "_law_next" "_law_next" s__law_next
def d__law_big : DefX := dX (gA "_law_big") "_law_big" "_law_big" s__law_big
def d__law_point : DefX := dX (gA "_law_point") "_law_point" "_law_point" s__law_point
def d__law_written : DefX := dX (gA "_law_written") "_law_written" "_law_written" s__law_written
def d_law : DefX := dX (gA "law") "law" "law" s_law
def fn : List DefX := [d_encode_point, d_encode, d_Utf8_init, d_Utf8_is_open, d_Utf8_begin, d_Utf8_take, d_decode, d__law_cell, d__law_numbers, d__law_state, d__law_next, d__law_big, d__law_point, d__law_written, d_law]
def fa : List Fx := [constB "LEADS" (.tup L_LEADS), fFa (.glo "Utf8"), klsB "Utf8" F_Utf8, fFa (.mkr "Utf8"), fFa (.meth "Utf8" "begin"), fFa (.meth "Utf8" "take"), propB "Utf8" "is_open", fFa (.free "abs"), fFa (.free "enumerate"), fFa (.free "int"), fFa (.free "len"), fFa (.free "range"), fFa (.free "tuple"), fFa (.glo "encode_point"), fFa (.glo "encode"), fFa (.glo "decode"), fFa (.glo "_law_cell"), fFa (.glo "_law_numbers"), fFa (.glo "_law_state"), fFa (.glo "_law_next"), fFa (.glo "_law_big"), fFa (.glo "_law_point"), fFa (.glo "_law_written"), fFa (.glo "law")]
abbrev R : PySem.W.OpenRow := PySem.W.OpenLaw.row PySem.Challenge.rw_formsalike_k06_utf8_there_and_back
abbrev hk : PySem.W.Hook := hookX 6 fa fn
def ob (s : PySem.W.SharedT) : AlX := obsXG 6 fa fn (HandSHeadRun.getT s)
theorem ob_eq (s : PySem.W.SharedT) : ob s = hk.obs s.abs := obsXG_eq (HandSHeadRun.getT_eq s)
def loose : List Str := (["__name__", "LEADS", "encode_point", "encode", "Utf8", "decode", "_law_cell", "_law_numbers", "_law_state", "_law_next", "_law_big", "_law_point", "_law_written"] : List Str)
theorem run (w : World) : HandSHeadRun.RunEq R (PySem.W.view R.prog [14]) hk ob 4000 loose w := by
  intro os
  kernel_rfl
theorem facts {P : Program} {w : World} {K : PySem.W.Frag} {h : Heap} {mg : Str → Option Value} {f : Addr} (X : K.In h) (G : h.Ns mainGlobals mg) (hfa : mg ("law" : Str) = some (.ref f)) (c : SaysX fa fn K) :
    ∃ fd : FuncData, (∀ (s : Shared) (v : Value), BindsTo s fd ⟨[v], []⟩ [("_law_script", v)]) ∧ ∀ base : Heap, K.In base → base.Ns mainGlobals mg → FnOk P w K mg base CX0 4 f fd ["_law_script"] (sp_law K) := by
  obtain ⟨fd_encode_point, F_encode_point⟩ := c.def_ 0 (d := d_encode_point) rfl
  obtain ⟨fd_encode, F_encode⟩ := c.def_ 1 (d := d_encode) rfl
  obtain ⟨fd_Utf8_init, F_Utf8_init⟩ := c.def_ 2 (d := d_Utf8_init) rfl
  obtain ⟨fd_Utf8_is_open, F_Utf8_is_open⟩ := c.def_ 3 (d := d_Utf8_is_open) rfl
  obtain ⟨fd_Utf8_begin, F_Utf8_begin⟩ := c.def_ 4 (d := d_Utf8_begin) rfl
  obtain ⟨fd_Utf8_take, F_Utf8_take⟩ := c.def_ 5 (d := d_Utf8_take) rfl
  obtain ⟨fd_decode, F_decode⟩ := c.def_ 6 (d := d_decode) rfl
  obtain ⟨fd__law_cell, F__law_cell⟩ := c.def_ 7 (d := d__law_cell) rfl
  obtain ⟨fd__law_numbers, F__law_numbers⟩ := c.def_ 8 (d := d__law_numbers) rfl
  obtain ⟨fd__law_state, F__law_state⟩ := c.def_ 9 (d := d__law_state) rfl
  obtain ⟨fd__law_next, F__law_next⟩ := c.def_ 10 (d := d__law_next) rfl
  obtain ⟨fd__law_big, F__law_big⟩ := c.def_ 11 (d := d__law_big) rfl
  obtain ⟨fd__law_point, F__law_point⟩ := c.def_ 12 (d := d__law_point) rfl
  obtain ⟨fd__law_written, F__law_written⟩ := c.def_ 13 (d := d__law_written) rfl
  obtain ⟨fd_law, F_law⟩ := c.def_ 14 (d := d_law) rfl
  have e := hfa.symm.trans (He.glo_ok X G (c.fact 23 (f := fFa (.glo "law")) rfl))
  cases e
  have T : Txt K mg := ⟨(const_tup X G (c.fact 0 rfl)).1, (const_tup X G (c.fact 0 rfl)).2, He.glo_ok X G (c.fact 1 rfl), klsB_ok (c.fact 2 rfl), He.mkr_ok (c.fact 3 rfl), He.meth_ok (c.fact 4 rfl), He.meth_ok (c.fact 5 rfl), propB_ok (c.fact 6 rfl), He.free_ok X G (c.fact 7 rfl), He.free_ok X G (c.fact 8 rfl), He.free_ok X G (c.fact 9 rfl), He.free_ok X G (c.fact 10 rfl), He.free_ok X G (c.fact 11 rfl), He.free_ok X G (c.fact 12 rfl)⟩
  have b_encode_point := FunD.bindsN (ps := ["point"]) F_encode_point fun _ _ _ _ _ _ us hl => match us, hl with | [_], _ => rfl
  have b_encode := FunD.bindsN (ps := ["points"]) F_encode fun _ _ _ _ _ _ us hl => match us, hl with | [_], _ => rfl
  have b_Utf8_init := FunD.bindsN (ps := ["self"]) F_Utf8_init fun _ _ _ _ _ _ us hl => match us, hl with | [_], _ => rfl
  have b_Utf8_is_open := FunD.bindsN (ps := ["self"]) F_Utf8_is_open fun _ _ _ _ _ _ us hl => match us, hl with | [_], _ => rfl
  have b_Utf8_begin := FunD.bindsN (ps := ["self", "octet"]) F_Utf8_begin fun _ _ _ _ _ _ us hl => match us, hl with | [_, _], _ => rfl
  have b_Utf8_take := FunD.bindsN (ps := ["self", "octet"]) F_Utf8_take fun _ _ _ _ _ _ us hl => match us, hl with | [_, _], _ => rfl
  have b_decode := FunD.bindsN (ps := ["octets"]) F_decode fun _ _ _ _ _ _ us hl => match us, hl with | [_], _ => rfl
  have b__law_cell := FunD.bindsN (ps := ["_law_script", "_law_k"]) F__law_cell fun _ _ _ _ _ _ us hl => match us, hl with | [_, _], _ => rfl
  have b__law_numbers := FunD.bindsN (ps := ["_law_cell_here", "_law_many"]) F__law_numbers fun _ _ _ _ _ _ us hl => match us, hl with | [_, _], _ => rfl
  have b__law_state := FunD.bindsN (ps := ["_law_script", "_law_left"]) F__law_state fun _ _ _ _ _ _ us hl => match us, hl with | [_, _], _ => rfl
  have b__law_next := FunD.bindsN (ps := ["_law_state_here", "_law_many"]) F__law_next fun _ _ _ _ _ _ us hl => match us, hl with | [_, _], _ => rfl
  have b__law_big := FunD.bindsN (ps := ["_law_state_here", "_law_many"]) F__law_big fun _ _ _ _ _ _ us hl => match us, hl with | [_, _], _ => rfl
  have b__law_point := FunD.bindsN (ps := ["_law_state_here"]) F__law_point fun _ _ _ _ _ _ us hl => match us, hl with | [_], _ => rfl
  have b__law_written := FunD.bindsN (ps := ["_law_point_here"]) F__law_written fun _ _ _ _ _ _ us hl => match us, hl with | [_], _ => rfl
  have b_law := FunD.bindsA (ps := ["_law_script"]) F_law fun _ _ _ _ _ _ us hl => match us, hl with | [_], _ => rfl
  refine ⟨fd_law, fun s v => b_law s [v] rfl, fun base _ _ => ?_⟩
  have c_encode_point : Cal P w K mg base 1 "encode_point" (sp_encode_point K) := ⟨⟨_, fd_encode_point, ["point"], ok_encode_point F_encode_point T, He.glo_ok X G (c.fact 13 rfl), F_encode_point.kp, b_encode_point⟩⟩
  have c_encode : Cal P w K mg base 2 "encode" (sp_encode K) := ⟨⟨_, fd_encode, ["points"], ok_encode F_encode T c_encode_point, He.glo_ok X G (c.fact 14 rfl), F_encode.kp, b_encode⟩⟩
  have c_Utf8_init : CalA P w K mg base 1 (mA "Utf8" "__init__" K) (sp_Utf8_init K) := ⟨⟨fd_Utf8_init, ["self"], ok_Utf8_init F_Utf8_init T, b_Utf8_init⟩⟩
  have c_Utf8_is_open : CalA P w K mg base 1 (pA "Utf8" "is_open" K) (sp_Utf8_is_open K) := ⟨⟨fd_Utf8_is_open, ["self"], ok_Utf8_is_open F_Utf8_is_open T, b_Utf8_is_open⟩⟩
  have c_Utf8_begin : CalA P w K mg base 1 (mA "Utf8" "begin" K) (sp_Utf8_begin K) := ⟨⟨fd_Utf8_begin, ["self", "octet"], ok_Utf8_begin F_Utf8_begin T, b_Utf8_begin⟩⟩
  have c_Utf8_take : CalA P w K mg base 2 (mA "Utf8" "take" K) (sp_Utf8_take K) := ⟨⟨fd_Utf8_take, ["self", "octet"], ok_Utf8_take F_Utf8_take T c_Utf8_begin, b_Utf8_take⟩⟩
  have c_decode : Cal P w K mg base 3 "decode" (sp_decode K) := ⟨⟨_, fd_decode, ["octets"], ok_decode F_decode T c_Utf8_init c_Utf8_is_open c_Utf8_take, He.glo_ok X G (c.fact 15 rfl), F_decode.kp, b_decode⟩⟩
  have c__law_cell : Cal P w K mg base 1 "_law_cell" (sp__law_cell K) := ⟨⟨_, fd__law_cell, ["_law_script", "_law_k"], ok__law_cell F__law_cell T, He.glo_ok X G (c.fact 16 rfl), F__law_cell.kp, b__law_cell⟩⟩
  have c__law_numbers : Cal P w K mg base 1 "_law_numbers" (sp__law_numbers K) := ⟨⟨_, fd__law_numbers, ["_law_cell_here", "_law_many"], ok__law_numbers F__law_numbers T, He.glo_ok X G (c.fact 17 rfl), F__law_numbers.kp, b__law_numbers⟩⟩
  have c__law_state : Cal P w K mg base 2 "_law_state" (sp__law_state K) := ⟨⟨_, fd__law_state, ["_law_script", "_law_left"], ok__law_state F__law_state T c__law_cell c__law_numbers, He.glo_ok X G (c.fact 18 rfl), F__law_state.kp, b__law_state⟩⟩
  have c__law_next : Cal P w K mg base 1 "_law_next" (sp__law_next K) := ⟨⟨_, fd__law_next, ["_law_state_here", "_law_many"], ok__law_next F__law_next T, He.glo_ok X G (c.fact 19 rfl), F__law_next.kp, b__law_next⟩⟩
  have c__law_big : Cal P w K mg base 2 "_law_big" (sp__law_big K) := ⟨⟨_, fd__law_big, ["_law_state_here", "_law_many"], ok__law_big F__law_big T c__law_cell c__law_next, He.glo_ok X G (c.fact 20 rfl), F__law_big.kp, b__law_big⟩⟩
  have c__law_point : Cal P w K mg base 3 "_law_point" (sp__law_point K) := ⟨⟨_, fd__law_point, ["_law_state_here"], ok__law_point F__law_point T c__law_big c__law_next, He.glo_ok X G (c.fact 21 rfl), F__law_point.kp, b__law_point⟩⟩
  have c__law_written : Cal P w K mg base 1 "_law_written" (sp__law_written K) := ⟨⟨_, fd__law_written, ["_law_point_here"], ok__law_written F__law_written T, He.glo_ok X G (c.fact 22 rfl), F__law_written.kp, b__law_written⟩⟩
  exact ok_law F_law T c_Utf8_init c_Utf8_is_open c_Utf8_take c__law_next c__law_point c__law_state c__law_written c_decode c_encode
end Fa
open PySem PySem.W PySem.Calls PyProof.Rows
set_option maxRecDepth 100000 in
set_option maxHeartbeats 0 in
theorem PySem.Challenge.cw_formsalike_k06_utf8_there_and_back_holds : PySem.Challenge.rw_formsalike_k06_utf8_there_and_back.Holds := by
  w_on; o_law
  refine HandSHeadRun.head_any (r := OpenLaw.row PySem.Challenge.rw_formsalike_k06_utf8_there_and_back) (q := view (OpenLaw.row PySem.Challenge.rw_formsalike_k06_utf8_there_and_back).prog [14]) (H := Fa.hk) (ob := Fa.ob) (M := 4000) (loose := Fa.loose) (d := HandSHeadRun.topDef (OpenLaw.row PySem.Challenge.rw_formsalike_k06_utf8_there_and_back).prog 14) (kwd := []) Fa.ob_eq
    (by kernel_rfl) (fun s => by kernel_rfl) Fa.run (by kernel_rfl) (by kernel_rfl) (by kernel_rfl) (by rfl) (by first | assumption | decide +kernel) (by decide +kernel) ⟨rfl, rfl, rfl, rfl, rfl, by decide +kernel⟩ ?hw ?hc
  case hw => w_witness2
  case hc =>
    refine L2.walk_ofE (l := PySem.Challenge.rw_formsalike_k06_utf8_there_and_back) (n := 63) (k := 4) (x := "_law_script") (CX := L2.CX0) rfl (by decide) (by kernel_rfl) ⟨rfl, by decide, by decide⟩ ?F (fun _ _ _ _ z => z)
    intro w mg fa h Y G hmg0
    obtain ⟨K, KX, c⟩ := Y
    have hmg : mg ("law" : PySem.Str) = some (.ref fa) := by
      have e : (HandSHeadRun.topDef (OpenLaw.row PySem.Challenge.rw_formsalike_k06_utf8_there_and_back).prog 14).name = ("law" : PySem.Str) := by kernel_rfl
      rw [← e]
      exact hmg0
    obtain ⟨fd, hb, hF⟩ := Fa.facts (P := (PySem.Challenge.rw_formsalike_k06_utf8_there_and_back).prog) (w := w) KX G hmg c
    exact ⟨K, fd, Fa.sp_law K, KX, hb, fun H a ns hl ho hS => ⟨a, ns, rfl, hS, hl, ho, fun _ => rfl⟩, hF⟩
#print axioms PySem.Challenge.cw_formsalike_k06_utf8_there_and_back_holds
