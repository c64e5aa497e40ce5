import PyProof.Rows.All
import Wide.All
import OpenK.AllK
import Wide.FinOn
import HandS.ForMost
import HandS.More
import HandS.Wide
import HandS.Steps
import HandS.TupAny
import HandS.IsInst
import HandS.Defaults
import HandS.Head0
import HandS.Head1
import HandS.Head2
import HandS.HeadEnd
import HandS.HeadHook1
import HandS.HeadHook2
import PySem.Challenge.RW_formsalike_k04_floats
set_option Elab.async false
set_option linter.all false
set_option maxRecDepth 100000
set_option maxHeartbeats 4000000
namespace Fa
open PySem PySem.Spec PyProof.Rows L2
abbrev FnP (K : PySem.W.Frag) (x : Str) (st : Stmt) (f : Addr) (fd : FuncData) : Prop := FunD K x x (defArgs st) (defBody st) (defScope st) [] [] f fd
/-! ### a def that is called by its name -/
structure Cal (P : Program) (w : World) (K : PySem.W.Frag) (mg : Str → Option Value) (base : Heap) (k : Nat) (x : Str) (sp : Sp) : Prop where
  ex : ∃ (f : Addr) (fd : FuncData) (ps : List Str), FnOk P w K mg base CX0 k f fd ps sp ∧ mg x = some (.ref f) ∧ PySem.W.keepIn K (.ref f) = true ∧ Binds K fd ps []
section
variable {X : Cx} {k : Nat} {x : Str} {sp : Sp} {p pos : Pos} {e : Expr} {es : List Expr} {t : TA}
theorem pe_callC (c : Cal X.prog X.w X.K X.mg X.base k x sp) (hr : Room k X.A) (hg : Gl X x) (ha : PA X (e :: es) t) (hdb : (x == ("__debug__" : Str)) = false := by decide) (he : starEach (e :: es) X.env = (false, eval e X.env) :: starEach es X.env := by rfl) (hpl : (backTo pos (starEach es X.env)).any (·.1) = false := by rfl) :
    PE X (.Call (.Name x p) (e :: es) [] pos) (tCall sp [] E0 t) := by
  obtain ⟨f, fd, ps, F, m, kp, b⟩ := c.ex
  exact pe_call F hr hg m kp b .nil pass0 ha hdb he hpl
theorem pe_callC0 (c : Cal X.prog X.w X.K X.mg X.base k x sp) (hr : Room k X.A) (hg : Gl X x) (hdb : (x == ("__debug__" : Str)) = false := by decide) :
    PE X (.Call (.Name x p) [] [] pos) (tCall sp [] E0 tNil) := by
  obtain ⟨f, fd, ps, F, m, kp, b⟩ := c.ex
  exact pe_call0 F hr hg m kp b .nil pass0 hdb
theorem pe_globI {i : Int} (hg : Gl X x) (hm : ∃ t, X.mg x = some (.int i t)) (hd : (x == ("__debug__" : Str)) = false := by decide) : PE X (.Name x pos) (tC (.int i)) := by
  obtain ⟨t, m⟩ := hm
  exact pe_glob hg m ⟨t, rfl⟩ hd
theorem pe_globS {i : Str} (hg : Gl X x) (hm : ∃ t, X.mg x = some (.str i t)) (hd : (x == ("__debug__" : Str)) = false := by decide) : PE X (.Name x pos) (tC (.str i)) := by
  obtain ⟨t, m⟩ := hm
  exact pe_glob hg m ⟨t, rfl⟩ hd
theorem pe_globR {a : Addr} (hg : Gl X x) (m : X.mg x = some (.ref a)) (hd : (x == ("__debug__" : Str)) = false := by decide) : PE X (.Name x pos) (tC (.ref a)) := pe_glob hg m rfl hd
end
/-! ### operations by names -/
def rAddI : R2 := rI0 fun i j => .int (i + j)
def rSubI : R2 := rI0 fun i j => .int (i - j)
def rMulI : R2 := rI CMul fun i j => .int (i * j)
def rMulW : R2 := rI CMulW fun i j => .int (i * j)
def rDivI : R2 := rI CDiv fun i j => .int (i / j)
def rDivW : R2 := rI CDivW fun i j => .int (i / j)
def rModI : R2 := rI (fun _ j => 0 < j) fun i j => .int (i % j)
def rPowI : R2 := rI CPow fun i j => .int (i ^ j.toNat)
def rShlI : R2 := rI CPow fun i j => .int (i * 2 ^ j.toNat)
def rShrI : R2 := rI (fun _ j => 0 ≤ j) fun i j => .int (i / 2 ^ j.toNat)
def rAndI : R2 := rI0 fun i j => .int (Builtin.bitAnd i j)
def rLtI : R2 := rI0 fun i j => .bl (decide (i < j))
def rLeI : R2 := rI0 fun i j => .bl (decide (i ≤ j))
def rGtI : R2 := rI0 fun i j => .bl (decide (j < i))
def rGeI : R2 := rI0 fun i j => .bl (decide (j ≤ i))
def rNegI : V → Hp → VK → Prop := rU fun i => .int (-i)
def rAddS : R2 := fun x y H Q => ∃ i j, x = .str i ∧ y = .str j ∧ i.length + j.length ≤ sizeLine ∧ Q (.str (i ++ j)) H
def rLtS : R2 := fun x y H Q => ∃ i j, x = .str i ∧ y = .str j ∧ Q (.bl (decide (i.cps.toList < j.cps.toList))) H
def rAbs : List V → Hp → VK → Prop := fun xs H Q => ∃ i, xs = [.int i] ∧ Q (.int (if i < 0 then -i else i)) H
def rInt1 : List V → Hp → VK → Prop := fun xs H Q => (∃ i, xs = [.int i] ∧ Q (.int i) H) ∨ ∃ k, xs = [.bl k] ∧ Q (.int (if k then 1 else 0)) H
def rBool1 : List V → Hp → VK → Prop := fun xs H Q => (∃ i, xs = [.int i] ∧ Q (.bl (i != 0)) H) ∨ ∃ k, xs = [.bl k] ∧ Q (.bl k) H
def rStrI : List V → Hp → VK → Prop := fun xs H Q => ∃ i, xs = [.int i] ∧ i.natAbs.log2 < 1920 ∧ Q (.str (toString i)) H
def rOrd : List V → Hp → VK → Prop := fun xs H Q => ∃ x, xs = [.str x] ∧ x.length = 1 ∧ Q (.int (x.cps.getD 0 0 : Nat)) H
def rChr : List V → Hp → VK → Prop := fun xs H Q => ∃ i, xs = [.int i] ∧ 0 ≤ i ∧ i ≤ 1114111 ∧ Q (.str ⟨#[i.toNat]⟩) H
def rMax2 : List V → Hp → VK → Prop := fun xs H Q => ∃ i j, xs = [.int i, .int j] ∧ Q (.int (if j > i then j else i)) H
def rMin2 : List V → Hp → VK → Prop := fun xs H Q => ∃ i j, xs = [.int i, .int j] ∧ Q (.int (if j < i then j else i)) H
def rLenQ (K : PySem.W.Frag) : List V → Hp → VK → Prop := fun xs H Q => ∃ p ys, xs = [.ref p] ∧ (SqL K H p ys ∨ SqT K H p ys) ∧ Q (.int ys.length) H
def rLenS : List V → Hp → VK → Prop := fun xs H Q => ∃ z, xs = [.str z] ∧ z.length ≤ sizeLine ∧ Q (.int z.length) H
def rListOf (K : PySem.W.Frag) : List V → Hp → VK → Prop := fun xs H Q => ∃ p ys, xs = [.ref p] ∧ (SqL K H p ys ∨ SqT K H p ys) ∧ ∀ l, H l = none → Q (.ref l) (upd H l (.lst ys))
def rTupOf (K : PySem.W.Frag) : List V → Hp → VK → Prop := fun xs H Q => ∃ p ys, xs = [.ref p] ∧ ((SqL K H p ys ∧ ∀ l, H l = none → Q (.ref l) (upd H l (.tup ys))) ∨ (SqT K H p ys ∧ Q (.ref p) H))
/-! ### heaps -/
/-- all that was tracked, but for what stands in S, is as it was -/
def Keep (S : List Addr) (H H1 : Hp) : Prop := ∀ a o, a ∉ S → H a = some o → H1 a = some o
theorem Keep.refl {S : List Addr} (H : Hp) : Keep S H H := fun _ _ _ h => h
theorem Keep.trans {S : List Addr} {H H1 H2 : Hp} (a : Keep S H H1) (b : Keep S H1 H2) : Keep S H H2 := fun x o n h => b x o n (a x o n h)
theorem Keep.mono {S S' : List Addr} {H H1 : Hp} (a : Keep S H H1) (h : ∀ x, x ∈ S → x ∈ S') : Keep S' H H1 := fun x o n e => a x o (fun z => n (h x z)) e
theorem Keep.all {S : List Addr} {H H1 : Hp} (a : Keep [] H H1) : Keep S H H1 := a.mono (fun _ h => by cases h)
theorem Keep.new {S : List Addr} {H : Hp} {p : Addr} {o : HO} (h : H p = none) : Keep S H (upd H p o) := fun a u _ e => by
  rw [upd_ne (ne_of_none e h)]
  exact e
theorem Keep.put {S : List Addr} {H H1 : Hp} {p : Addr} {o : HO} (k : Keep S H H1) (h : p ∈ S ∨ H p = none) : Keep S H (upd H1 p o) := fun a u n e => by
  rcases h with h | h
  · rw [upd_ne (fun z => n (by rw [z]; exact h))]
    exact k a u n e
  · rw [upd_ne (ne_of_none e h)]
    exact k a u n e
theorem Keep.rd {S : List Addr} {H H1 : Hp} {a : Addr} {u : HO} (k : Keep S H H1) (n : a ∉ S) (h : Rd H a u) : Rd H1 a u := by
  rcases h with h | ⟨o, h⟩
  · exact .inl (k a _ n h)
  · exact .inr ⟨o, k a _ n h⟩
theorem Keep.sqL {S : List Addr} {K : PySem.W.Frag} {H H1 : Hp} {a : Addr} {xs : List V} (k : Keep S H H1) (n : a ∉ S) (h : SqL K H a xs) : SqL K H1 a xs := by
  rcases h with h | h
  · exact .inl (k.rd n h)
  · exact .inr h
theorem Keep.sqT {S : List Addr} {K : PySem.W.Frag} {H H1 : Hp} {a : Addr} {xs : List V} (k : Keep S H H1) (n : a ∉ S) (h : SqT K H a xs) : SqT K H1 a xs := by
  rcases h with h | h
  · exact .inl (k.rd n h)
  · exact .inr h
theorem Keep.fresh {S : List Addr} {H H1 : Hp} {a : Addr} (k : Keep S H H1) (n : a ∉ S) (h : H1 a = none) : H a = none := by
  cases e : H a with
  | none => rfl
  | some o =>
    rw [k a o n e] at h
    cases h
/-! ### to read a term forwards: one rule a construct -/
section
variable {K : PySem.W.Frag} {σ : L2.St} {H : Hp} {Q : VK} {D : Ends} {t u : TS} {te ta tb tc : TE} {tt tt2 : TT} {i j : Int} {n : Nat} {v x y : V} {r r2 : R2} {b : Bool} {ar : TA} {A B : Prop} {QT : Bool → Hp → Prop} {QA : List V → Hp → Prop}
theorem i_seq (h : t { D with nx := u D } σ H) : tSeq t u D σ H := h
theorem i_asg (h : te σ H fun x H1 => D.nx (σ.set n (some x)) H1) : tAsg te (gName n) D σ H := h
theorem i_asgG {g : TG} (h : te σ H fun x H1 => g x σ H1 D.nx) : tAsg te g D σ H := h
theorem i_ret (h : te σ H D.rt) : tRet te D σ H := h
theorem i_retN (h : D.rt .non H) : tRetN D σ H := h
theorem i_drop (h : te σ H fun _ H1 => D.nx σ H1) : tDrop te D σ H := h
theorem i_ifS (h : tt σ H fun b H1 => if b = true then t D σ H1 else u D σ H1) : tIfS tt t u D σ H := h
theorem i_next (h : D.nx σ H) : tNext D σ H := h
theorem i_cont (h : D.ct σ H) : tCont D σ H := h
theorem i_break (h : D.bk σ H) : tBreak D σ H := h
theorem i_var (e : σ[n]? = some (some v)) (h : Q v H) : tVar n σ H Q := ⟨v, e, h⟩
theorem i_c (h : Q v H) : tC v σ H Q := h
theorem i_op (h : ta σ H fun x H1 => tb σ H1 fun y H2 => r x y H2 Q) : tOp r ta tb σ H Q := h
theorem i_un {f : V → Hp → VK → Prop} (h : ta σ H fun x H1 => f x H1 Q) : tUn f ta σ H Q := h
theorem i_nil (h : QA [] H) : tNil σ H QA := h
theorem i_cons (h : ta σ H fun x H1 => ar σ H1 fun xs H2 => QA (x :: xs) H2) : tCons ta ar σ H QA := h
theorem i_call {sp : Sp} {E : XK} (h : ar σ H fun vs H1 => sp vs H1 Q E) : tCall sp [] E ar σ H Q := by
  show ar σ H fun vs H1 => sp (vs ++ []) H1 Q E
  simpa only [List.append_nil] using h
theorem i_cb {f : List V → Hp → VK → Prop} (h : ar σ H fun vs H1 => f vs H1 Q) : tCB f ar σ H Q := h
theorem i_test (h : ta σ H fun x H' => ∃ k, x = .bl k ∧ QT k H') : tTest ta σ H QT := h
theorem i_tB (h : ta σ H fun x H' => ∃ k, x = .bl k ∧ QT k H') : tB ta σ H QT := h
theorem i_bl (h : QT b H) : ∃ k, V.bl b = .bl k ∧ QT k H := ⟨b, rfl, h⟩
theorem i_and (h : tt σ H fun c H1 => if c = true then tt2 σ H1 QT else QT false H1) : tAnd tt tt2 σ H QT := h
theorem i_or (h : tt σ H fun c H1 => if c = true then QT true H1 else tt2 σ H1 QT) : tOr tt tt2 σ H QT := h
theorem i_not (h : tt σ H fun c H1 => QT (!c) H1) : tNot tt σ H QT := h
theorem i_andV (h : ta σ H fun x H1 => ∃ c, x = .bl c ∧ if c = true then tb σ H1 Q else Q (.bl false) H1) : tAndV ta tb σ H Q := h
theorem i_orV (h : ta σ H fun x H1 => ∃ c, x = .bl c ∧ if c = true then Q (.bl true) H1 else tb σ H1 Q) : tOrV ta tb σ H Q := h
theorem i_notV (h : ta σ H fun x H1 => ∃ c, x = .bl c ∧ Q (.bl (!c)) H1) : tNotV ta σ H Q := h
theorem i_chain (h : ta σ H fun x H1 => tb σ H1 fun y H2 => r x y H2 fun z H3 => ∃ k, z = .bl k ∧ (if k = true then tc σ H3 fun w' H4 => r2 y w' H4 Q else Q (.bl false) H3)) : tChain r r2 ta tb tc σ H Q := h
theorem i_if (h : tt σ H fun c H1 => if c = true then ta σ H1 Q else tb σ H1 Q) : tIf tt ta tb σ H Q := h
theorem i_ex {P : Bool → Prop} (h : P b) : ∃ c, V.bl b = .bl c ∧ P c := ⟨b, rfl, h⟩
theorem i_T (h : A) : if true = true then A else B := iteT h
theorem i_F (h : B) : if false = true then A else B := iteF h
theorem i_NT (h : B) : if (!true) = true then A else B := iteF h
theorem i_NF (h : A) : if (!false) = true then A else B := iteT h
theorem i_NN {c : Bool} (h : if c = true then A else B) : if (!!c) = true then A else B := by rw [Bool.not_not]; exact h
theorem i_NDT {c : Prop} [Decidable c] (h : ¬ c) (h1 : A) : if (!decide c) = true then A else B := by rw [decide_eq_false h]; exact iteT h1
theorem i_NDF {c : Prop} [Decidable c] (h : c) (h1 : B) : if (!decide c) = true then A else B := by rw [decide_eq_true h]; exact iteF h1
theorem i_D {c : Prop} [Decidable c] (h1 : c → A) (h2 : ¬ c → B) : if decide c = true then A else B := by
  by_cases h : c
  · rw [decide_eq_true h]; exact i_T (h1 h)
  · rw [decide_eq_false h]; exact i_F (h2 h)
theorem i_ND {c : Prop} [Decidable c] (h1 : ¬ c → A) (h2 : c → B) : if (!decide c) = true then A else B := by
  by_cases h : c
  · rw [decide_eq_true h]; exact i_F (h2 h)
  · rw [decide_eq_false h]; exact i_T (h1 h)
theorem i_DT {c : Prop} [Decidable c] (h : c) (h1 : A) : if decide c = true then A else B := by rw [decide_eq_true h]; exact i_T h1
theorem i_DF {c : Prop} [Decidable c] (h : ¬ c) (h1 : B) : if decide c = true then A else B := by rw [decide_eq_false h]; exact i_F h1
theorem i_B (c : Bool) (h1 : c = true → A) (h2 : c = false → B) : if c = true then A else B := by
  cases c
  · exact i_F (h2 rfl)
  · exact i_T (h1 rfl)
theorem i_add (h : Q (.int (i + j)) H) : rAddI (.int i) (.int j) H Q := ⟨i, j, rfl, rfl, h⟩
theorem i_sub (h : Q (.int (i - j)) H) : rSubI (.int i) (.int j) H Q := ⟨i, j, rfl, rfl, h⟩
theorem i_mul (c : CMul i j) (h : Q (.int (i * j)) H) : rMulI (.int i) (.int j) H Q := ⟨i, j, rfl, rfl, c, h⟩
theorem i_mulL (c : -(2 ^ 64) < i ∧ i < 2 ^ 64) (h : Q (.int (i * j)) H) : rMulI (.int i) (.int j) H Q := ⟨i, j, rfl, rfl, .inl c, h⟩
theorem i_mulR (c : -(2 ^ 64) < j ∧ j < 2 ^ 64) (h : Q (.int (i * j)) H) : rMulI (.int i) (.int j) H Q := ⟨i, j, rfl, rfl, .inr c, h⟩
theorem i_mulW (c : CMulW i j) (h : Q (.int (i * j)) H) : rMulW (.int i) (.int j) H Q := ⟨i, j, rfl, rfl, c, h⟩
theorem i_div (c : 0 < j ∧ j < 1073741824) (h : Q (.int (i / j)) H) : rDivI (.int i) (.int j) H Q := ⟨i, j, rfl, rfl, c, h⟩
theorem i_divW (c : CDivW i j) (h : Q (.int (i / j)) H) : rDivW (.int i) (.int j) H Q := ⟨i, j, rfl, rfl, c, h⟩
theorem i_mod (c : 0 < j) (h : Q (.int (i % j)) H) : rModI (.int i) (.int j) H Q := ⟨i, j, rfl, rfl, c, h⟩
theorem i_pow (c : 0 ≤ j ∧ j ≤ 1000000 ∧ i.natAbs < 2 ^ 64) (h : Q (.int (i ^ j.toNat)) H) : rPowI (.int i) (.int j) H Q := ⟨i, j, rfl, rfl, c, h⟩
theorem i_shl (c : 0 ≤ j ∧ j ≤ 1000000 ∧ i.natAbs < 2 ^ 64) (h : Q (.int (i * 2 ^ j.toNat)) H) : rShlI (.int i) (.int j) H Q := ⟨i, j, rfl, rfl, c, h⟩
theorem i_shr (c : 0 ≤ j) (h : Q (.int (i / 2 ^ j.toNat)) H) : rShrI (.int i) (.int j) H Q := ⟨i, j, rfl, rfl, c, h⟩
theorem i_band (h : Q (.int (Builtin.bitAnd i j)) H) : rAndI (.int i) (.int j) H Q := ⟨i, j, rfl, rfl, h⟩
theorem i_lt (h : Q (.bl (decide (i < j))) H) : rLtI (.int i) (.int j) H Q := ⟨i, j, rfl, rfl, h⟩
theorem i_le (h : Q (.bl (decide (i ≤ j))) H) : rLeI (.int i) (.int j) H Q := ⟨i, j, rfl, rfl, h⟩
theorem i_gt (h : Q (.bl (decide (j < i))) H) : rGtI (.int i) (.int j) H Q := ⟨i, j, rfl, rfl, h⟩
theorem i_ge (h : Q (.bl (decide (j ≤ i))) H) : rGeI (.int i) (.int j) H Q := ⟨i, j, rfl, rfl, h⟩
theorem i_neg (h : Q (.int (-i)) H) : rNegI (.int i) H Q := ⟨i, rfl, h⟩
theorem dV {i j : Int} : decide (V.int i = V.int j) = decide (i = j) := by
  rw [dec_int]
  exact Bool.beq_eq_decide_eq i j
theorem i_eqI (h : Q (.bl (decide (i = j))) H) : rEq (.int i) (.int j) H Q := ⟨rfl, by rw [dV]; exact h⟩
theorem i_neI (h : Q (.bl (!decide (i = j))) H) : rNe (.int i) (.int j) H Q := ⟨rfl, by rw [dV]; exact h⟩
theorem i_eqS {i j : Str} (h : Q (.bl (decide (i = j))) H) : rEq (.str i) (.str j) H Q := ⟨rfl, by
  have e : decide (V.str i = V.str j) = decide (i = j) := by
    by_cases q : i = j
    · rw [decide_eq_true q, decide_eq_true (congrArg V.str q)]
    · rw [decide_eq_false q, decide_eq_false fun z => q (V.str.inj z)]
  rw [e]; exact h⟩
theorem i_neS {i j : Str} (h : Q (.bl (!decide (i = j))) H) : rNe (.str i) (.str j) H Q := ⟨rfl, by
  have e : decide (V.str i = V.str j) = decide (i = j) := by
    by_cases q : i = j
    · rw [decide_eq_true q, decide_eq_true (congrArg V.str q)]
    · rw [decide_eq_false q, decide_eq_false fun z => q (V.str.inj z)]
  rw [e]; exact h⟩
theorem i_isN (h : Q (.bl (decide (v = .non))) H) : rIsN v .non H Q := ⟨rfl, h⟩
theorem i_notN (h : Q (.bl (!decide (v = .non))) H) : rNotN v .non H Q := ⟨rfl, h⟩
theorem i_abs (h : Q (.int (if i < 0 then -i else i)) H) : rAbs [.int i] H Q := ⟨i, rfl, h⟩
theorem i_int1 (h : Q (.int i) H) : rInt1 [.int i] H Q := .inl ⟨i, rfl, h⟩
theorem i_int1b (h : Q (.int (if b then 1 else 0)) H) : rInt1 [.bl b] H Q := .inr ⟨b, rfl, h⟩
theorem i_max2 (h : Q (.int (if j > i then j else i)) H) : rMax2 [.int i, .int j] H Q := ⟨i, j, rfl, h⟩
theorem i_strI (c : i.natAbs.log2 < 1920) (h : Q (.str (toString i)) H) : rStrI [.int i] H Q := ⟨i, rfl, c, h⟩
theorem i_lenL {p : Addr} {ys : List V} (c : SqL K H p ys) (h : Q (.int ys.length) H) : rLenQ K [.ref p] H Q := ⟨p, ys, rfl, .inl c, h⟩
theorem i_lenT {p : Addr} {ys : List V} (c : SqT K H p ys) (h : Q (.int ys.length) H) : rLenQ K [.ref p] H Q := ⟨p, ys, rfl, .inr c, h⟩
theorem i_ixL {p : Addr} {ys : List V} (c : SqL K H p ys) (a : atI ys i = some v) (h : Q v H) : rIxL K (.ref p) (.int i) H Q := ⟨p, ys, i, v, rfl, rfl, c, a, h⟩
theorem i_ixT {p : Addr} {ys : List V} (c : SqT K H p ys) (a : atI ys i = some v) (h : Q v H) : rIxT K (.ref p) (.int i) H Q := ⟨p, ys, i, v, rfl, rfl, c, a, h⟩
/-- a new object stands at p, all else is as it was -/
structure NewAt (H : Hp) (p : Addr) (o : HO) (H1 : Hp) : Prop where
  free : H p = none
  at_ : H1 p = some o
  keep : ∀ S, Keep S H H1
theorem NewAt.mk' {p : Addr} {o : HO} (h : H p = none) : NewAt H p o (upd H p o) := ⟨h, upd_same, fun _ => .new h⟩
theorem NewAt.sqL {p : Addr} {xs : List V} {H1 : Hp} (h : NewAt H p (.lst xs) H1) : SqL K H1 p xs := SqL.of h.at_
theorem NewAt.sqT {p : Addr} {xs : List V} {H1 : Hp} (h : NewAt H p (.tup xs) H1) : SqT K H1 p xs := SqT.of h.at_
def NewL (xs : List V) (H : Hp) (Q : VK) : Prop := xs.length ≤ sizeLine ∧ ∀ p, H p = none → Q (.ref p) (upd H p (.lst xs))
def NewT (xs : List V) (H : Hp) (Q : VK) : Prop := xs.length ≤ sizeLine ∧ ∀ p, H p = none → Q (.ref p) (upd H p (.tup xs))
theorem i_lst (h : ar σ H fun xs H1 => NewL xs H1 Q) : tLst ar σ H Q := h
theorem i_tup (h : ar σ H fun xs H1 => NewT xs H1 Q) : tTup ar σ H Q := h
theorem small_of {n : Nat} (h : n ≤ 1000000) : n ≤ sizeLine := Nat.le_trans h (by decide)
theorem small_lt {n : Nat} (h : n < 1000000) : n < sizeLine := Nat.lt_of_lt_of_le h (by decide)
theorem i_newL {xs : List V} (c : xs.length ≤ 1000000) (h : ∀ p H1, NewAt H p (.lst xs) H1 → Q (.ref p) H1) : NewL xs H Q := ⟨small_of c, fun p np => h p _ (.mk' np)⟩
theorem i_newT {xs : List V} (c : xs.length ≤ 1000000) (h : ∀ p H1, NewAt H p (.tup xs) H1 → Q (.ref p) H1) : NewT xs H Q := ⟨small_of c, fun p np => h p _ (.mk' np)⟩
theorem i_append {to : TE} (h : to σ H fun o H1 => tyV K "list" o H1 ∧ ar σ H1 fun ys H2 => rAppend o ys H2 Q) : tBM K "list" rAppend to ar σ H Q := h
theorem i_app {p : Addr} {xs : List V} (e : H p = some (.lst xs)) (c : xs.length < 1000000) (h : Q .non (upd H p (.lst (xs ++ [v])))) : rAppend (.ref p) [v] H Q := ⟨p, xs, v, rfl, rfl, e, small_lt c, h⟩
theorem i_gSub {to ti : TE} {ts : TSet} {QS : L2.St → Hp → Prop} (h : to σ H fun o H1 => ti σ H1 fun i H2 => ts o i v H2 fun H3 => QS σ H3) : gSub to ti ts v σ H QS := h
theorem i_gName {QS : L2.St → Hp → Prop} (h : QS (σ.set n (some v)) H) : gName n v σ H QS := h
theorem i_setL {p : Addr} {xs : List V} {k : Int} {j : Nat} {QH : Hp → Prop} (e : H p = some (.lst xs)) (c : ixN xs.length k = some j) (h : QH (upd H p (.lst (xs.set j v)))) : rSetL (.ref p) (.int k) v H QH := ⟨p, xs, k, j, rfl, rfl, e, c, h⟩
theorem ty_lst {p : Addr} {xs : List V} (e : H p = some (.lst xs)) : tyV K "list" (.ref p) H := .inl ⟨rfl, _, SqL.of e⟩
end
/-! ### loops -/
section
variable {K : PySem.W.Frag} {σ : L2.St} {H : Hp} {Q : VK} {D : Ends} {g : TG} {tb : TS} {ar : TA} {te tl : TE} {wi : TI} {tt : TT} {vs : List Nat} {a : Addr} {xs : List V}
def ForK (J : It) (g : TG) (tb : TS) (D : Ends) (σ : L2.St) (H1 : Hp) : Prop := ∃ W : Nat → Nat → L2.St → Hp → Prop, (∃ m, W 0 m σ H1) ∧ ∀ i m σ H, W i m σ H →
  (J.stop i H ∧ D.nx σ H) ∨ (J.go i H ∧ ∃ N : L2.St → Hp → Prop, (∀ σ' H', N σ' H' → ∃ m', m' < m ∧ W (i + 1) m' σ' H') ∧ ∀ x H', J.yld i H x H' → g x σ H' fun σ2 H2 => tb { D with nx := N, ct := N, bk := D.nx } σ2 H2)
theorem i_for (h : wi σ H fun J H1 => ForK J g tb D σ H1) : tFor wi g tb D σ H := h
def RngK1 (vs : List V) (H : Hp) (R : It → Hp → Prop) : Prop := ∃ j : Int, vs = [.int j] ∧ -(2 ^ 62) ≤ j ∧ j < 2 ^ 62 ∧ R (Itr 0 j.toNat) H
def RngK2 (vs : List V) (H : Hp) (R : It → Hp → Prop) : Prop := ∃ i j : Int, vs = [.int i, .int j] ∧ (-(2 ^ 62) ≤ i ∧ i < 2 ^ 62 ∧ -(2 ^ 62) ≤ j ∧ j < 2 ^ 62) ∧ R (Itr i (j - i).toNat) H
theorem i_rng1 {R : It → Hp → Prop} (h : ar σ H fun vs H1 => RngK1 vs H1 R) : iRng1 ar σ H R := h
theorem i_rng2 {R : It → Hp → Prop} (h : ar σ H fun vs H1 => RngK2 vs H1 R) : iRng2 ar σ H R := h
theorem i_rngK1 {R : It → Hp → Prop} {j : Int} (c : -(2 ^ 62) ≤ j ∧ j < 2 ^ 62) (h : R (Itr 0 j.toNat) H) : RngK1 [.int j] H R := ⟨j, rfl, c.1, c.2, h⟩
theorem i_rngK2 {R : It → Hp → Prop} {i j : Int} (c : -(2 ^ 62) ≤ i ∧ i < 2 ^ 62 ∧ -(2 ^ 62) ≤ j ∧ j < 2 ^ 62) (h : R (Itr i (j - i).toNat) H) : RngK2 [.int i, .int j] H R := ⟨i, j, rfl, c, h⟩
def ListK (K : PySem.W.Frag) (x : V) (H : Hp) (R : It → Hp → Prop) : Prop := ∃ a, x = .ref a ∧ (∃ xs, SqL K H a xs) ∧ R (Itl K a) H
def TupK (K : PySem.W.Frag) (x : V) (H : Hp) (R : It → Hp → Prop) : Prop := ∃ a, x = .ref a ∧ (∃ xs, SqT K H a xs) ∧ R (Itt K a) H
theorem i_list {R : It → Hp → Prop} (h : tl σ H fun x H1 => ListK K x H1 R) : iList K tl σ H R := h
theorem i_tupI {R : It → Hp → Prop} (h : tl σ H fun x H1 => TupK K x H1 R) : iTup K tl σ H R := h
theorem i_listK {R : It → Hp → Prop} (c : SqL K H a xs) (h : R (Itl K a) H) : ListK K (.ref a) H R := ⟨a, rfl, ⟨xs, c⟩, h⟩
theorem i_tupK {R : It → Hp → Prop} (c : SqT K H a xs) (h : R (Itt K a) H) : TupK K (.ref a) H R := ⟨a, rfl, ⟨xs, c⟩, h⟩
/-- for k in range(n) -/
theorem f_rng {n : Nat} (Pv : Nat → L2.St → Hp → Prop) (h0 : Pv 0 σ H)
    (hs : ∀ i σ H, i < n → Pv i σ H → g (.int (i : Int)) σ H fun σ2 H2 => tb { D with nx := Pv (i + 1), ct := Pv (i + 1), bk := D.nx } σ2 H2) (hd : ∀ σ H, Pv n σ H → D.nx σ H) : ForK (Itr 0 n) g tb D σ H :=
  for_range (lo := 0) Pv h0 (fun i σ H hi hp => by have z := hs i σ H hi hp; simpa using z) hd
theorem f_rngL {lo : Int} {n : Nat} (Pv : Nat → L2.St → Hp → Prop) (h0 : Pv 0 σ H)
    (hs : ∀ i σ H, i < n → Pv i σ H → g (.int (lo + i)) σ H fun σ2 H2 => tb { D with nx := Pv (i + 1), ct := Pv (i + 1), bk := D.nx } σ2 H2) (hd : ∀ σ H, Pv n σ H → D.nx σ H) : ForK (Itr lo n) g tb D σ H :=
  for_range (lo := lo) Pv h0 hs hd
theorem f_list (Pv : Nat → L2.St → Hp → Prop) (h0 : Pv 0 σ H) (hl : ∀ i σ H, i ≤ xs.length → Pv i σ H → SqL K H a xs)
    (hs : ∀ i x σ H, xs[i]? = some x → Pv i σ H → g x σ H fun σ2 H2 => tb { D with nx := Pv (i + 1), ct := Pv (i + 1), bk := D.nx } σ2 H2) (hd : ∀ σ H, Pv xs.length σ H → D.nx σ H) : ForK (Itl K a) g tb D σ H :=
  for_list (xs := xs) Pv h0 hl hs hd
theorem f_tup (Pv : Nat → L2.St → Hp → Prop) (h0 : Pv 0 σ H) (hl : ∀ i σ H, i ≤ xs.length → Pv i σ H → SqT K H a xs)
    (hs : ∀ i x σ H, xs[i]? = some x → Pv i σ H → g x σ H fun σ2 H2 => tb { D with nx := Pv (i + 1), ct := Pv (i + 1), bk := D.nx } σ2 H2) (hd : ∀ σ H, Pv xs.length σ H → D.nx σ H) : ForK (Itt K a) g tb D σ H :=
  for_tup (xs := xs) Pv h0 hl hs hd
/-- a comprehension; Pv: the turn, the list so far, the heap -/
def LcK (J : It) (g : TG) (tt : TT) (te : TE) (vs : List Nat) (σ : L2.St) (H1 : Hp) (Q : VK) : Prop := ∀ D, H1 D = none → ∃ W : Nat → Nat → Hp → Prop, (∃ m, W 0 m (upd H1 D (.lst []))) ∧ ∀ i m H, W i m H →
  (J.stop i H ∧ Q (.ref D) H) ∨ (J.go i H ∧ ∃ Nx : Hp → Prop, (∀ H', Nx H' → ∃ m', m' < m ∧ W (i + 1) m' H') ∧ ∀ x H', J.yld i H x H' → g x (wipe σ vs) H' fun σ2 H2 => wipe σ2 vs = wipe σ vs ∧ tt σ2 H2 fun b H3 =>
    if b = true then te σ2 H3 fun y H4 => ∃ acc, H4 D = some (.lst acc) ∧ acc.length < sizeLine ∧ Nx (upd H4 D (.lst (acc ++ [y]))) else Nx H3)
theorem i_lc (h : wi σ H fun J H1 => LcK J g tt te vs σ H1 Q) : tLc wi g tt te vs σ H Q := h
theorem i_yes {QT : Bool → Hp → Prop} (h : QT true H) : tYes σ H QT := h
/-- the end of a turn of a comprehension -/
theorem i_lcN {D : Addr} {acc : List V} {y : V} {N : Hp → Prop} (e : H D = some (.lst acc)) (c : acc.length < 1000000) (h : N (upd H D (.lst (acc ++ [y])))) : ∃ acc, H D = some (.lst acc) ∧ acc.length < sizeLine ∧ N (upd H D (.lst (acc ++ [y]))) := ⟨acc, e, small_lt c, h⟩
theorem c_rng {n : Nat} (Pv : Addr → Nat → Hp → Prop) (h0 : ∀ D, H D = none → Pv D 0 (upd H D (.lst [])))
    (hs : ∀ D i H1, H D = none → i < n → Pv D i H1 → g (.int (i : Int)) (wipe σ vs) H1 fun σ2 H2 => wipe σ2 vs = wipe σ vs ∧ tt σ2 H2 fun b H3 =>
      if b = true then te σ2 H3 fun y H4 => ∃ acc, H4 D = some (.lst acc) ∧ acc.length < sizeLine ∧ Pv D (i + 1) (upd H4 D (.lst (acc ++ [y]))) else Pv D (i + 1) H3)
    (hd : ∀ D H1, H D = none → Pv D n H1 → Q (.ref D) H1) : LcK (Itr 0 n) g tt te vs σ H Q := fun D hD =>
  lc_range (lo := 0) (Pv D) (h0 D hD) (fun i H1 hi hp => by
    have z := hs D i H1 hD hi hp
    have e : (0 : Int) + (i : Int) = i := by omega
    rw [e]
    exact z) (fun H1 hp => hd D H1 hD hp)
theorem c_list (Pv : Addr → Nat → Hp → Prop) (h0 : ∀ D, H D = none → Pv D 0 (upd H D (.lst []))) (hl : ∀ D i H1, H D = none → i ≤ xs.length → Pv D i H1 → SqL K H1 a xs)
    (hs : ∀ D i x H1, H D = none → xs[i]? = some x → Pv D i H1 → g x (wipe σ vs) H1 fun σ2 H2 => wipe σ2 vs = wipe σ vs ∧ tt σ2 H2 fun b H3 =>
      if b = true then te σ2 H3 fun y H4 => ∃ acc, H4 D = some (.lst acc) ∧ acc.length < sizeLine ∧ Pv D (i + 1) (upd H4 D (.lst (acc ++ [y]))) else Pv D (i + 1) H3)
    (hd : ∀ D H1, H D = none → Pv D xs.length H1 → Q (.ref D) H1) : LcK (Itl K a) g tt te vs σ H Q := fun D hD =>
  lc_list (xs := xs) (Pv D) (h0 D hD) (fun i H1 hi hp => hl D i H1 hD hi hp) (fun i x H1 hi hp => hs D i x H1 hD hi hp) (fun H1 hp => hd D H1 hD hp)
theorem c_tup (Pv : Addr → Nat → Hp → Prop) (h0 : ∀ D, H D = none → Pv D 0 (upd H D (.lst []))) (hl : ∀ D i H1, H D = none → i ≤ xs.length → Pv D i H1 → SqT K H1 a xs)
    (hs : ∀ D i x H1, H D = none → xs[i]? = some x → Pv D i H1 → g x (wipe σ vs) H1 fun σ2 H2 => wipe σ2 vs = wipe σ vs ∧ tt σ2 H2 fun b H3 =>
      if b = true then te σ2 H3 fun y H4 => ∃ acc, H4 D = some (.lst acc) ∧ acc.length < sizeLine ∧ Pv D (i + 1) (upd H4 D (.lst (acc ++ [y]))) else Pv D (i + 1) H3)
    (hd : ∀ D H1, H D = none → Pv D xs.length H1 → Q (.ref D) H1) : LcK (Itt K a) g tt te vs σ H Q := fun D hD =>
  lc_tup (xs := xs) (Pv D) (h0 D hD) (fun i H1 hi hp => hl D i H1 hD hi hp) (fun i x H1 hi hp => hs D i x H1 hD hi hp) (fun H1 hp => hd D H1 hD hp)
end

local macro_rules | `(tactic| walk_at "s1") => `(tactic| first
  | with_reducible refine i_seq ?_
  | with_reducible refine i_asg ?_
  | ((with_reducible refine i_var (v := ?kv) ?ke ?kh); (case ke => rfl))
  | with_reducible refine i_c ?_
  | with_reducible refine i_op ?_
  | with_reducible refine i_un ?_
  | with_reducible refine i_cons ?_
  | with_reducible refine i_nil ?_
  | with_reducible refine i_call ?_
  | with_reducible refine i_cb ?_
  | with_reducible refine i_test ?_
  | with_reducible refine i_tB ?_
  | with_reducible refine i_ex ?_
  | with_reducible refine i_ifS ?_
  | with_reducible refine i_T ?_
  | with_reducible refine i_F ?_
  | with_reducible refine i_NT ?_
  | with_reducible refine i_NF ?_
  | with_reducible refine i_NN ?_
  | with_reducible refine i_ret ?_
  | with_reducible refine i_retN ?_
  | with_reducible refine i_drop ?_
  | with_reducible refine i_next ?_
  | with_reducible refine i_and ?_
  | with_reducible refine i_or ?_
  | with_reducible refine i_not ?_
  | with_reducible refine i_andV ?_
  | with_reducible refine i_orV ?_
  | with_reducible refine i_notV ?_
  | with_reducible refine i_chain ?_
  | with_reducible refine i_if ?_
  | with_reducible refine i_lst ?_
  | with_reducible refine i_tup ?_
  | with_reducible refine i_append ?_
  | with_reducible refine i_asgG ?_
  | with_reducible refine i_gSub ?_
  | with_reducible refine i_for ?_
  | with_reducible refine i_rng1 ?_
  | with_reducible refine i_rng2 ?_
  | with_reducible refine i_list ?_
  | with_reducible refine i_tupI ?_
  | with_reducible refine i_lc ?_
  | with_reducible refine i_yes ?_
  | ((with_reducible refine i_rngK1 ?_ ?_); (first | decide | omega))
  | ((with_reducible refine i_rngK2 ?_ ?_); (first | decide | omega))
  | with_reducible refine i_gName ?_
  | with_reducible refine i_add ?_
  | with_reducible refine i_sub ?_
  | with_reducible refine i_lt ?_
  | with_reducible refine i_le ?_
  | with_reducible refine i_gt ?_
  | with_reducible refine i_ge ?_
  | with_reducible refine i_neg ?_
  | with_reducible refine i_eqI ?_
  | with_reducible refine i_neI ?_
  | with_reducible refine i_eqS ?_
  | with_reducible refine i_neS ?_
  | with_reducible refine i_isN ?_
  | with_reducible refine i_notN ?_
  | with_reducible refine i_abs ?_
  | with_reducible refine i_int1 ?_
  | with_reducible refine i_int1b ?_
  | with_reducible refine i_max2 ?_
  | with_reducible refine i_band ?_
  | ((with_reducible refine i_div ?_ ?_); (first | decide | omega))
  | ((with_reducible refine i_mod ?_ ?_); (first | decide | omega))
  | ((with_reducible refine i_pow ?_ ?_); (first | decide | omega))
  | ((with_reducible refine i_mulL ?_ ?_); (first | decide | omega))
  | ((with_reducible refine i_mulR ?_ ?_); (first | decide | omega))
  | ((with_reducible refine i_newL ?_ ?_); (exact Nat.le_of_ble_eq_true rfl))
  | ((with_reducible refine i_newT ?_ ?_); (exact Nat.le_of_ble_eq_true rfl)))
local macro_rules | `(tactic| walk_at "go") => `(tactic| repeat (walk_at "s1"))
local macro_rules | `(tactic| walk_at "D") => `(tactic| first
  | ((with_reducible apply i_D); all_goals intro)
  | ((with_reducible apply i_ND); all_goals intro)
  | ((with_reducible apply i_B); all_goals intro))
/-! ### the law's draws -/
def sp__law_cell (K : PySem.W.Frag) : Sp := fun vs H Q _ => ∃ (a : Addr) (ns : List Int) (k : Int), vs = [.ref a, .int k] ∧ SqL K H a (ns.map V.int) ∧ 0 ≤ k ∧ ∀ z, Q (.int z) H
def sp__law_numbers (K : PySem.W.Frag) : Sp := fun vs H Q _ => ∃ (c : Int) (m : Nat), vs = [.int c, .int m] ∧ m ≤ 1000 ∧ ∀ (p : Addr) (ns : List Int) (H1 : Hp), ns.length = m → NewAt H p (.lst (ns.map V.int)) H1 → Q (.ref p) H1
/-- the script stands at sc, whatever becomes of p -/
def Scr (K : PySem.W.Frag) (p sc : Addr) (ns : List Int) (H : Hp) : Prop := ∀ H', Keep [p] H H' → SqL K H' sc (ns.map V.int)
theorem Scr.sq {K : PySem.W.Frag} {p sc : Addr} {ns : List Int} {H : Hp} (h : Scr K p sc ns H) : SqL K H sc (ns.map V.int) := h H (.refl H)
theorem Scr.keep {K : PySem.W.Frag} {p sc : Addr} {ns : List Int} {H H1 : Hp} (h : Scr K p sc ns H) (k : Keep [p] H H1) : Scr K p sc ns H1 := fun H' k' => h H' (k.trans k')
/-- the law's own state stands at p -/
structure Dr (K : PySem.W.Frag) (p : Addr) (left last : Int) (H : Hp) : Prop where
  ex : ∃ (nl sc : Addr) (at_ : Int) (nums ns : List Int), H p = some (.lst [.ref nl, .int at_, .int left, .ref sc, .int last]) ∧ 0 ≤ at_ ∧ H nl = some (.lst (nums.map V.int)) ∧ nums.length = 120 ∧ nl ≠ p ∧ Scr K p sc ns H
/-- what stood in H0 is kept, the state at p apart -/
structure Law (K : PySem.W.Frag) (H0 : Hp) (p : Addr) (left last : Int) (H : Hp) : Prop where
  dr : Dr K p left last H
  kp : Keep [p] H0 H
def sp__law_state (K : PySem.W.Frag) : Sp := fun vs H Q _ => ∃ (a : Addr) (ns : List Int) (left : Int), vs = [.ref a, .int left] ∧ SqL K H a (ns.map V.int) ∧ ∀ p H1, H p = none → (∀ S, Keep S H H1) → Dr K p left 3 H1 → Q (.ref p) H1
def sp__law_next (K : PySem.W.Frag) : Sp := fun vs H Q _ => ∃ (p : Addr) (left last m : Int), vs = [.ref p, .int m] ∧ 0 < m ∧ Dr K p left last H ∧ ∀ r H1, 0 ≤ r → r < m → Dr K p left last H1 → Keep [p] H H1 → Q (.int r) H1
def sp__law_big (K : PySem.W.Frag) : Sp := sp__law_next K
/-! _law_cell(_law_script, _law_k) : _law_script=0 _law_k=1 -/
def N__law_cell : List Str := ["_law_script", "_law_k"]
-- sp__law_cell
def t__law_cell_0a_0 (K : PySem.W.Frag) : TS := (tRet (tOp (rIxL K) (tVar 0) (tVar 1)))
def t__law_cell_1 (K : PySem.W.Frag) : TS := (tRet (tC (.int 0)))
def t__law_cell_0 (K : PySem.W.Frag) : TS := tSeq (tIfS (tTest (tOp rLtI (tVar 1) (tCB (rLenQ K) (tCons (tVar 0) tNil)))) (t__law_cell_0a_0 K) tNext) (t__law_cell_1 K)
/-! _law_numbers(_law_cell_here, _law_many) : _law_cell_here=0 _law_many=1 _law_rest=2 _law_size=3 _law_numbers_here=4 _law_k=5 _law_mixed=6 -/
def N__law_numbers : List Str := ["_law_cell_here", "_law_many", "_law_rest", "_law_size", "_law_numbers_here", "_law_k", "_law_mixed"]
-- sp__law_numbers
def t__law_numbers_3a_0a_1 (K : PySem.W.Frag) : TS := (tAsg (tOp rDivI (tVar 2) (tC (.int 1000))) (gName 2))
def t__law_numbers_3a_0a_0 (K : PySem.W.Frag) : TS := tSeq (tDrop (tBM K "list" rAppend (tVar 4) (tCons (tOp rModI (tCB rInt1 (tCons (tVar 2) tNil)) (tC (.int 1000))) tNil))) (t__law_numbers_3a_0a_1 K)
def t__law_numbers_3a_0b_2 (K : PySem.W.Frag) : TS := (tDrop (tBM K "list" rAppend (tVar 4) (tCons (tOp rModI (tCB rInt1 (tCons (tOp rDivI (tVar 6) (tC (.int 7))) tNil)) (tC (.int 1000))) tNil)))
def t__law_numbers_3a_0b_1 (K : PySem.W.Frag) : TS := tSeq (tAsg (tOp rModI (tCB rInt1 (tCons (tOp rAddI (tOp rAddI (tOp rMulI (tVar 6) (tVar 6)) (tOp rMulI (tC (.int 40692)) (tVar 5))) (tC (.int 3))) tNil)) (tC (.int 2147483629))) (gName 6)) (t__law_numbers_3a_0b_2 K)
def t__law_numbers_3a_0b_0 (K : PySem.W.Frag) : TS := tSeq (tAsg (tOp rModI (tCB rInt1 (tCons (tOp rAddI (tOp rAddI (tOp rMulI (tVar 3) (tC (.int 48271))) (tOp rMulI (tVar 5) (tC (.int 69621)))) (tC (.int 11))) tNil)) (tC (.int 2147483647))) (gName 6)) (t__law_numbers_3a_0b_1 K)
def t__law_numbers_3a_0 (K : PySem.W.Frag) : TS := (tIfS (tAnd (tTest (tOp rGeI (tVar 3) (tOp rPowI (tC (.int 10)) (tC (.int 18))))) (tTest (tOp rGtI (tVar 2) (tC (.int 0))))) (t__law_numbers_3a_0a_0 K) (t__law_numbers_3a_0b_0 K))
def t__law_numbers_4 (K : PySem.W.Frag) : TS := (tRet (tVar 4))
def t__law_numbers_3 (K : PySem.W.Frag) : TS := tSeq (tFor (iRng1 (tCons (tVar 1) tNil)) (gName 5) (t__law_numbers_3a_0 K)) (t__law_numbers_4 K)
def t__law_numbers_2 (K : PySem.W.Frag) : TS := tSeq (tAsg (tLst tNil) (gName 4)) (t__law_numbers_3 K)
def t__law_numbers_1 (K : PySem.W.Frag) : TS := tSeq (tAsg (tVar 2) (gName 3)) (t__law_numbers_2 K)
def t__law_numbers_0 (K : PySem.W.Frag) : TS := tSeq (tAsg (tCB rAbs (tCons (tVar 0) tNil)) (gName 2)) (t__law_numbers_1 K)
/-! _law_state(_law_script, _law_left) : _law_script=0 _law_left=1 _law_numbers_here=2 _law_parted=3 _law_k=4 -/
def N__law_state : List Str := ["_law_script", "_law_left", "_law_numbers_here", "_law_parted", "_law_k"]
-- sp__law_state
def t__law_state_2a_2 (K : PySem.W.Frag) : TS := (tDrop (tBM K "list" rAppend (tVar 2) (tCons (tOp (rIxL K) (tOp (rIxL K) (tVar 3) (tC (.int 2))) (tVar 4)) tNil)))
def t__law_state_2a_1 (K : PySem.W.Frag) : TS := tSeq (tDrop (tBM K "list" rAppend (tVar 2) (tCons (tOp (rIxL K) (tOp (rIxL K) (tVar 3) (tC (.int 1))) (tVar 4)) tNil))) (t__law_state_2a_2 K)
def t__law_state_2a_0 (K : PySem.W.Frag) : TS := tSeq (tDrop (tBM K "list" rAppend (tVar 2) (tCons (tOp (rIxL K) (tOp (rIxL K) (tVar 3) (tC (.int 0))) (tVar 4)) tNil))) (t__law_state_2a_1 K)
def t__law_state_3 (K : PySem.W.Frag) : TS := (tRet (tLst (tCons (tVar 2) (tCons (tC (.int 0)) (tCons (tVar 1) (tCons (tVar 0) (tCons (tC (.int 3)) tNil)))))))
def t__law_state_2 (K : PySem.W.Frag) : TS := tSeq (tFor (iRng1 (tCons (tC (.int 40)) tNil)) (gName 4) (t__law_state_2a_0 K)) (t__law_state_3 K)
def t__law_state_1 (K : PySem.W.Frag) : TS := tSeq (tAsg (tLc (iRng1 (tCons (tC (.int 3)) tNil)) (gName 4) tYes (tCall (sp__law_numbers K) [] E0 (tCons (tCall (sp__law_cell K) [] E0 (tCons (tVar 0) (tCons (tVar 4) tNil))) (tCons (tC (.int 40)) tNil))) [4]) (gName 3)) (t__law_state_2 K)
def t__law_state_0 (K : PySem.W.Frag) : TS := tSeq (tAsg (tLst tNil) (gName 2)) (t__law_state_1 K)
/-! _law_next(_law_state_here, _law_many) : _law_state_here=0 _law_many=1 _law_at=2 -/
def N__law_next : List Str := ["_law_state_here", "_law_many", "_law_at"]
-- sp__law_next
def t__law_next_2 (K : PySem.W.Frag) : TS := (tRet (tOp rModI (tCB rInt1 (tCons (tOp rAddI (tOp (rIxL K) (tOp (rIxL K) (tVar 0) (tC (.int 0))) (tOp rModI (tVar 2) (tC (.int 120)))) (tOp rMulI (tC (.int 7)) (tOp rDivI (tVar 2) (tC (.int 120))))) tNil)) (tVar 1)))
def t__law_next_1 (K : PySem.W.Frag) : TS := tSeq (tAsg (tOp rAddI (tVar 2) (tC (.int 1))) (gSub (tVar 0) (tC (.int 1)) rSetL)) (t__law_next_2 K)
def t__law_next_0 (K : PySem.W.Frag) : TS := tSeq (tAsg (tOp (rIxL K) (tVar 0) (tC (.int 1))) (gName 2)) (t__law_next_1 K)
/-! _law_big(_law_state_here, _law_many) : _law_state_here=0 _law_many=1 _law_cell_here=2 -/
def N__law_big : List Str := ["_law_state_here", "_law_many", "_law_cell_here"]
-- sp__law_big
def t__law_big_1 (K : PySem.W.Frag) : TS := (tRet (tOp rModI (tCB rInt1 (tCons (tOp rAddI (tOp rMulI (tVar 2) (tC (.int 1009))) (tCall (sp__law_next K) [] E0 (tCons (tVar 0) (tCons (tC (.int 1000)) tNil)))) tNil)) (tVar 1)))
def t__law_big_0 (K : PySem.W.Frag) : TS := tSeq (tAsg (tCB rAbs (tCons (tCall (sp__law_cell K) [] E0 (tCons (tOp (rIxL K) (tVar 0) (tC (.int 3))) (tCons (tOp rAddI (tC (.int 3)) (tCall (sp__law_next K) [] E0 (tCons (tVar 0) (tCons (tC (.int 30)) tNil)))) tNil))) tNil)) (gName 2)) (t__law_big_1 K)
section
variable {K : PySem.W.Frag}
theorem Dr.keep {p : Addr} {left last : Int} {H H1 : Hp} (h : Dr K p left last H) (k : Keep [] H H1) : Dr K p left last H1 := by
  obtain ⟨nl, sc, at_, nums, ns, hp, ha, hn, hl, nn, hs⟩ := h
  exact ⟨nl, sc, at_, nums, ns, k _ _ (by simp) hp, ha, k _ _ (by simp) hn, hl, nn, hs.keep k.all⟩
theorem Dr.new {p q : Addr} {o : HO} {left last : Int} {H H1 : Hp} (h : Dr K p left last H) (n : NewAt H q o H1) : Dr K p left last H1 := h.keep (n.keep [])
theorem Dr.ne {p q : Addr} {o : HO} {left last : Int} {H H1 : Hp} (h : Dr K p left last H) (n : NewAt H q o H1) : p ≠ q := by
  obtain ⟨nl, sc, at_, nums, ns, hp, _⟩ := h
  exact ne_of_none hp n.free
theorem Dr.at_ {p : Addr} {left last : Int} {H : Hp} (h : Dr K p left last H) : ∃ xs, H p = some (.lst xs) := by
  obtain ⟨nl, sc, at_, nums, ns, hp, _⟩ := h
  exact ⟨_, hp⟩
theorem Dr.neT {p q : Addr} {xs : List V} {left last : Int} {H : Hp} (h : Dr K p left last H) (n : H q = some (.tup xs)) : q ≠ p := by
  obtain ⟨ys, e⟩ := h.at_
  exact ne_of n e (by intro z; cases z)
theorem atI_map {ns : List Int} {j : Nat} (h : j < ns.length) : atI (ns.map V.int) (j : Int) = some (.int (ns[j]'h)) := atI_nat (by simp [h])
theorem len__law_cell {vs : List V} {H : Hp} {Q : VK} {E : XK} (h : sp__law_cell K vs H Q E) : vs.length = 2 := by obtain ⟨_, _, _, rfl, _⟩ := h; rfl
theorem r__law_cell {vs : List V} {H : Hp} {Q : VK} {E : XK} (h : sp__law_cell K vs H Q E) : t__law_cell_0 K { nx := fun _ H' => Q .non H', rt := Q } (start N__law_cell vs) H := by
  obtain ⟨a, ns, k, rfl, hs, hk, hq⟩ := h
  obtain ⟨j, rfl⟩ : ∃ j : Nat, k = j := ⟨k.toNat, by omega⟩
  unfold t__law_cell_0
  walk_at "go"
  refine i_lenL hs ?_
  walk_at "go"
  walk_at "D"
  all_goals rename_i h
  · unfold t__law_cell_0a_0
    walk_at "go"
    have h' : j < ns.length := by simpa using h
    exact i_ixL hs (atI_map h') (hq _)
  · walk_at "go"
    unfold t__law_cell_1
    walk_at "go"
    exact hq 0
theorem len__law_next {vs : List V} {H : Hp} {Q : VK} {E : XK} (h : sp__law_next K vs H Q E) : vs.length = 2 := by obtain ⟨_, _, _, _, rfl, _⟩ := h; rfl
theorem r__law_next {vs : List V} {H : Hp} {Q : VK} {E : XK} (h : sp__law_next K vs H Q E) : t__law_next_0 K { nx := fun _ H' => Q .non H', rt := Q } (start N__law_next vs) H := by
  obtain ⟨p, left, last, m, rfl, hm, ⟨nl, sc, at_, nums, ns, hp, ha, hn, hl, nn, hs⟩, hq⟩ := h
  unfold t__law_next_0
  walk_at "go"
  refine i_ixL (SqL.of hp) rfl ?_
  unfold t__law_next_1
  walk_at "go"
  refine i_setL hp rfl ?_
  have k1 : Keep [p] H (upd H p (.lst [.ref nl, .int (at_ + 1), .int left, .ref sc, .int last])) := Keep.put (.refl H) (.inl (by simp))
  have nn' : nl ∉ [p] := by simpa using nn
  have hn1 := k1 _ _ nn' hn
  have hs1 := hs.keep k1
  unfold t__law_next_2
  walk_at "go"
  refine i_ixL (SqL.of upd_same) rfl ?_
  walk_at "go"
  obtain ⟨j, hj, hj2⟩ : ∃ j : Nat, at_ % 120 = j ∧ j < nums.length := ⟨(at_ % 120).toNat, by omega, by omega⟩
  rw [hj]
  refine i_ixL (SqL.of hn1) (atI_map hj2) ?_
  walk_at "go"
  refine hq _ _ (Int.emod_nonneg _ (by omega)) (Int.emod_lt_of_pos _ hm) ⟨nl, sc, at_ + 1, nums, ns, upd_same, by omega, hn1, hl, nn, hs1⟩ k1
theorem len__law_big {vs : List V} {H : Hp} {Q : VK} {E : XK} (h : sp__law_big K vs H Q E) : vs.length = 2 := by obtain ⟨_, _, _, _, rfl, _⟩ := h; rfl
theorem r__law_big {vs : List V} {H : Hp} {Q : VK} {E : XK} (h : sp__law_big K vs H Q E) : t__law_big_0 K { nx := fun _ H' => Q .non H', rt := Q } (start N__law_big vs) H := by
  obtain ⟨p, left, last, m, rfl, hm, hd, hq⟩ := h
  obtain ⟨nl, sc, at_, nums, ns, hp, ha, hn, hl, nn, hs⟩ := id hd
  unfold t__law_big_0
  walk_at "go"
  refine i_ixL (SqL.of hp) rfl ?_
  walk_at "go"
  refine ⟨p, left, last, 30, rfl, by decide, hd, fun r H1 r0 r1 hd1 k1 => ?_⟩
  walk_at "go"
  refine ⟨sc, ns, 3 + r, rfl, (hs.keep k1).sq, by omega, fun z => ?_⟩
  walk_at "go"
  unfold t__law_big_1
  walk_at "go"
  refine ⟨p, left, last, 1000, rfl, by decide, hd1, fun r2 H2 r20 r21 hd2 k2 => ?_⟩
  walk_at "go"
  exact hq _ _ (Int.emod_nonneg _ (by omega)) (Int.emod_lt_of_pos _ hm) hd2 (k1.trans k2)

theorem len__law_numbers {vs : List V} {H : Hp} {Q : VK} {E : XK} (h : sp__law_numbers K vs H Q E) : vs.length = 2 := by obtain ⟨_, _, rfl, _⟩ := h; rfl
theorem r__law_numbers {vs : List V} {H : Hp} {Q : VK} {E : XK} (h : sp__law_numbers K vs H Q E) : t__law_numbers_0 K { nx := fun _ H' => Q .non H', rt := Q } (start N__law_numbers vs) H := by
  obtain ⟨c, m, rfl, hm, hq⟩ := h
  unfold t__law_numbers_0
  walk_at "go"
  generalize (if c < 0 then -c else c) = s
  unfold t__law_numbers_1
  walk_at "go"
  unfold t__law_numbers_2
  walk_at "go"
  intro p H1 new
  walk_at "go"
  unfold t__law_numbers_3
  walk_at "go"
  refine f_rng (fun i σ H2 => ∃ (r : Int) (ns : List Int) (k mx : Option V), σ = [some (.int c), some (.int m), some (.int r), some (.int s), some (.ref p), k, mx] ∧ ns.length = i ∧ NewAt H p (.lst (ns.map V.int)) H2)
    ⟨s, [], none, none, rfl, rfl, new⟩ ?_ ?_
  · rintro i σ H2 hi ⟨r, ns, k, mx, rfl, hl, new2⟩
    have hi' : i < m := by simpa using hi
    walk_at "go"
    unfold t__law_numbers_3a_0
    have up : ∀ v : Int, NewAt H p (.lst ((ns ++ [v]).map V.int)) (upd H2 p (.lst (ns.map V.int ++ [.int v]))) := fun v => ⟨new2.free, by rw [upd_same, List.map_append]; rfl, fun S => (new2.keep S).put (.inr new2.free)⟩
    walk_at "go"
    have two : t__law_numbers_3a_0b_0 K { nx := fun σ H2 => ∃ (r : Int) (ns : List Int) (k mx : Option V), σ = [some (.int c), some (.int m), some (.int r), some (.int s), some (.ref p), k, mx] ∧ ns.length = i + 1 ∧ NewAt H p (.lst (ns.map V.int)) H2, rt := Q, bk := t__law_numbers_4 K { nx := fun _ H' => Q .non H', rt := Q }, ct := fun σ H2 => ∃ (r : Int) (ns : List Int) (k mx : Option V), σ = [some (.int c), some (.int m), some (.int r), some (.int s), some (.ref p), k, mx] ∧ ns.length = i + 1 ∧ NewAt H p (.lst (ns.map V.int)) H2 } [some (.int c), some (.int m), some (.int r), some (.int s), some (.ref p), some (.int i), mx] H2 := by
      unfold t__law_numbers_3a_0b_0
      walk_at "go"
      generalize hz : ((s * 48271 + (i : Int) * 69621 + 11) % 2147483647) = z
      have z0 : 0 ≤ z ∧ z < 2147483647 := by omega
      unfold t__law_numbers_3a_0b_1
      walk_at "go"
      generalize ((z * z + 40692 * (i : Int) + 3) % 2147483629) = y
      unfold t__law_numbers_3a_0b_2
      walk_at "go"
      refine ⟨ty_lst new2.at_, ?_⟩
      walk_at "go"
      refine i_app new2.at_ (by simp; omega) ?_
      exact ⟨r, ns ++ [y / 7 % 1000], _, _, rfl, by simp [hl], up _⟩
    walk_at "D"
    · walk_at "go"
      walk_at "D"
      · unfold t__law_numbers_3a_0a_0
        walk_at "go"
        refine ⟨ty_lst new2.at_, ?_⟩
        walk_at "go"
        refine i_app new2.at_ (by simp; omega) ?_
        unfold t__law_numbers_3a_0a_1
        walk_at "go"
        exact ⟨r / 1000, ns ++ [r % 1000], _, _, rfl, by simp [hl], up _⟩
      · exact two
    · walk_at "go"
      exact two
  · rintro σ H2 ⟨r, ns, k, mx, rfl, hl, new2⟩
    unfold t__law_numbers_4
    walk_at "go"
    exact hq _ ns _ (by simpa using hl) new2
theorem len__law_state {vs : List V} {H : Hp} {Q : VK} {E : XK} (h : sp__law_state K vs H Q E) : vs.length = 2 := by obtain ⟨_, _, _, rfl, _⟩ := h; rfl
theorem r__law_state {vs : List V} {H : Hp} {Q : VK} {E : XK} (h : sp__law_state K vs H Q E) : t__law_state_0 K { nx := fun _ H' => Q .non H', rt := Q } (start N__law_state vs) H := by
  obtain ⟨a, ns, left, rfl, hs, hq⟩ := h
  unfold t__law_state_0
  walk_at "go"
  intro nl H1 new
  walk_at "go"
  unfold t__law_state_1
  walk_at "go"
  -- the three rows
  have hs1 := (new.keep []).sqL (K := K) (by simp) hs
  refine c_rng (fun D i H2 => ∃ rows : List (Addr × List Int), H2 D = some (.lst (rows.map fun r => V.ref r.1)) ∧ rows.length = i ∧ (∀ r ∈ rows, H2 r.1 = some (.lst (r.2.map V.int)) ∧ r.2.length = 40 ∧ H r.1 = none ∧ r.1 ≠ nl ∧ r.1 ≠ D) ∧ ∀ S, Keep S H1 H2) ?_ ?_ ?_
  · intro D hD
    exact ⟨[], upd_same, rfl, by simp, fun S => .new hD⟩
  · rintro D i H2 hD hi ⟨rows, hDl, hl, hr, kp⟩
    walk_at "go"
    refine ⟨rfl, ?_⟩
    walk_at "go"
    refine ⟨a, ns, i, rfl, (kp []).sqL (by simp) hs1, by omega, fun z => ?_⟩
    walk_at "go"
    refine ⟨z, 40, rfl, by decide, fun p ms H3 hm n3 => ?_⟩
    have hD3 := n3.keep [] _ _ (by simp) hDl
    have hi3 : i < 3 := by simpa using hi
    have nDp : D ≠ p := ne_of_none hDl n3.free
    refine ⟨_, hD3, small_lt (by simp; omega), rows ++ [(p, ms)], by rw [upd_same]; simp, by simp [hl], fun r hr' => ?_, fun S => ((kp S).trans (n3.keep S)).put (.inr hD)⟩
    rcases List.mem_append.mp hr' with h | h
    · obtain ⟨e1, e2, e3, e4, e5⟩ := hr r h
      exact ⟨by rw [upd_ne e5]; exact n3.keep [] _ _ (by simp) e1, e2, e3, e4, e5⟩
    · obtain rfl : r = (p, ms) := by simpa using h
      have f0 : H1 p = none := (kp []).fresh (by simp) n3.free
      exact ⟨by rw [upd_ne nDp.symm]; exact n3.at_, hm, (new.keep []).fresh (by simp) f0, (ne_of_none new.at_ f0).symm, nDp.symm⟩
  · rintro D H2 hD ⟨rows, hDl, hl, hr, kp⟩
    have hl3 : rows.length = 3 := by simpa using hl
    obtain ⟨r0, r1, r2, rfl⟩ : ∃ r0 r1 r2, rows = [r0, r1, r2] := by
      match rows, hl3 with
      | [r0, r1, r2], _ => exact ⟨r0, r1, r2, rfl⟩
    have q0 := hr r0 (by simp)
    have q1 := hr r1 (by simp)
    have q2 := hr r2 (by simp)
    have nlD : nl ≠ D := ne_of_none new.at_ hD
    walk_at "go"
    unfold t__law_state_2
    walk_at "go"
    have hnl : H2 nl = some (.lst []) := kp [] _ _ (by simp) new.at_
    have kp0 : ∀ S, Keep S H H2 := fun S => (new.keep S).trans (kp S)
    refine f_rng (fun i σ H3 => ∃ (nums : List Int) (k : Option V), σ = [some (.ref a), some (.int left), some (.ref nl), some (.ref D), k] ∧ nums.length = 3 * i ∧ H3 nl = some (.lst (nums.map V.int)) ∧ Keep [nl] H2 H3) ⟨[], none, rfl, rfl, hnl, .refl _⟩ ?_ ?_
    · rintro i σ H3 hi ⟨nums, k, rfl, hn, h3, k3⟩
      have hi40 : i < 40 := by simpa using hi
      walk_at "go"
      unfold t__law_state_2a_0
      walk_at "go"
      have put : ∀ (H4 : Hp) (o : HO), Keep [nl] H2 H4 → Keep [nl] H2 (upd H4 nl o) := fun H4 o k => k.put (.inl (by simp))
      have gD : ∀ H4, Keep [nl] H2 H4 → SqL K H4 D [.ref r0.1, .ref r1.1, .ref r2.1] := fun H4 k => SqL.of (k _ _ (by simpa using nlD.symm) (by simpa using hDl))
      have gr : ∀ H4 (r : Addr × List Int), Keep [nl] H2 H4 → (H2 r.1 = some (.lst (r.2.map V.int)) ∧ r.2.length = 40 ∧ H r.1 = none ∧ r.1 ≠ nl ∧ r.1 ≠ D) → SqL K H4 r.1 (r.2.map V.int) := fun H4 r k q => SqL.of (k _ _ (by simpa using q.2.2.2.1) q.1)
      refine ⟨ty_lst h3, ?_⟩
      walk_at "go"
      refine i_ixL (gD _ k3) rfl ?_
      walk_at "go"
      refine i_ixL (gr _ r0 k3 q0) (atI_map (by omega)) ?_
      walk_at "go"
      refine i_app h3 (by simp; omega) ?_
      unfold t__law_state_2a_1
      walk_at "go"
      refine ⟨ty_lst upd_same, ?_⟩
      have k4 := put H3 (.lst (nums.map V.int ++ [.int (r0.2[i]'(by omega))])) k3
      walk_at "go"
      refine i_ixL (gD _ k4) rfl ?_
      walk_at "go"
      refine i_ixL (gr _ r1 k4 q1) (atI_map (by omega)) ?_
      walk_at "go"
      refine i_app upd_same (by simp; omega) ?_
      have k5 := put _ (.lst (nums.map V.int ++ [.int (r0.2[i]'(by omega))] ++ [.int (r1.2[i]'(by omega))])) k4
      unfold t__law_state_2a_2
      walk_at "go"
      refine ⟨ty_lst upd_same, ?_⟩
      walk_at "go"
      refine i_ixL (gD _ k5) rfl ?_
      walk_at "go"
      refine i_ixL (gr _ r2 k5 q2) (atI_map (by omega)) ?_
      walk_at "go"
      refine i_app upd_same (by simp; omega) ?_
      refine ⟨nums ++ [r0.2[i]'(by omega)] ++ [r1.2[i]'(by omega)] ++ [r2.2[i]'(by omega)], _, rfl, by simp; omega, by rw [upd_same]; simp, put _ _ k5⟩
    · rintro σ H3 ⟨nums, k, rfl, hn, h3, k3⟩
      unfold t__law_state_3
      walk_at "go"
      have kH : ∀ S, Keep S H H3 := fun S x o n e => k3 x o (by simpa using ne_of_none e new.free) ((kp0 S) x o n e)
      intro p H4 n4
      refine hq p H4 ((kH []).fresh (by simp) n4.free) (fun S => (kH S).trans (n4.keep S)) ⟨nl, a, 0, nums, ns, n4.at_, by decide, n4.keep [] _ _ (by simp) h3, by simpa using hn, ne_of_none h3 n4.free, fun H5 k5 => ?_⟩
      rcases hs with h | h
      · refine .inl (k5.rd ?_ (((kH []).trans (n4.keep [])).rd (by simp) h))
        have h' := (kH []).rd (by simp) h
        rcases h' with h' | ⟨_, h'⟩ <;> simpa using ne_of_none h' n4.free
      · exact .inr h
end
/-! ### numbers: the mathematics -/
def nz (m e : Int) : Int × Int := if h0 : m = 0 then (0, 0) else if h : m % 10 = 0 then nz (m / 10) (e + 1) else (m, e)
termination_by m.natAbs
decreasing_by omega
theorem nz_zero (e : Int) : nz 0 e = (0, 0) := by unfold nz; simp
theorem nz_step {m e : Int} (h0 : m ≠ 0) (h : m % 10 = 0) : nz m e = nz (m / 10) (e + 1) := by rw [nz]; simp [h0, h]
theorem nz_stop {m e : Int} (h0 : m ≠ 0) (h : m % 10 ≠ 0) : nz m e = (m, e) := by rw [nz]; simp [h0, h]
theorem nz_spec : ∀ (n : Nat) (m e : Int), m.natAbs = n → m ≠ 0 → ∃ k : Nat, m = (nz m e).1 * 10 ^ k ∧ (nz m e).2 = e + k ∧ (nz m e).1 % 10 ≠ 0 := by
  intro n
  induction n using Nat.strongRecOn with
  | ind n ih =>
    intro m e hn h0
    by_cases h : m % 10 = 0
    · obtain ⟨k, h1, h2, h3⟩ := ih (m / 10).natAbs (by omega) (m / 10) (e + 1) rfl (by omega)
      rw [nz_step h0 h]
      refine ⟨k + 1, ?_, by rw [h2]; omega, h3⟩
      rw [Int.pow_succ, ← Int.mul_assoc, ← h1]
      omega
    · rw [nz_stop h0 h]
      exact ⟨0, by simp, by simp, h⟩
theorem ten_le {k n : Nat} (h : (10 : Nat) ^ k < 10 ^ n) : k < n := by
  by_cases c : k < n
  · exact c
  · exact absurd h (Nat.not_lt.mpr (Nat.pow_le_pow_right (by decide) (Nat.not_lt.mp c)))
theorem ten_two (n : Nat) : (10 : Nat) ^ n ≤ 2 ^ (4 * n) := by
  rw [Nat.pow_mul]
  exact Nat.pow_le_pow_left (by decide) n
theorem cmulw {i j : Int} {a b : Nat} (ha : i.natAbs < 10 ^ a) (hb : j.natAbs < 10 ^ b) (h : a + b ≤ 200000) : CMulW i j :=
  wide_mul (a := 4 * a + 1) (b := 4 * b + 1) (Nat.lt_of_lt_of_le (Nat.lt_of_lt_of_le ha (ten_two a)) (Nat.pow_le_pow_right (by decide) (by omega))) (Nat.lt_of_lt_of_le (Nat.lt_of_lt_of_le hb (ten_two b)) (Nat.pow_le_pow_right (by decide) (by omega))) (by omega) (by omega) (by omega)
theorem lt_mul {i j : Int} {a b : Nat} (ha : i.natAbs < 10 ^ a) (hb : j.natAbs < 10 ^ b) : (i * j).natAbs < 10 ^ (a + b) := by
  rw [Int.natAbs_mul, Nat.pow_add]
  exact Nat.mul_lt_mul'' ha hb
theorem lt_pow {a b : Nat} (h : a < b) : ((10 : Int) ^ a).natAbs < 10 ^ b := by
  rw [Int.natAbs_pow]
  exact Nat.pow_lt_pow_right (by decide) h
theorem lt_mono {i : Int} {a b : Nat} (ha : i.natAbs < 10 ^ a) (h : a ≤ b) : i.natAbs < 10 ^ b := Nat.lt_of_lt_of_le ha (Nat.pow_le_pow_right (by decide) h)
/-! ### the program's functions on numbers -/
def sp_normal (K : PySem.W.Frag) : Sp := fun vs H Q _ => ∃ m e : Int, vs = [.int m, .int e] ∧ ∀ p H1, NewAt H p (.tup [.int (nz m e).1, .int (nz m e).2]) H1 → Q (.ref p) H1
def sp_times (K : PySem.W.Frag) : Sp := fun vs H Q _ => ∃ n f m : Int, vs = [.int n, .int f, .int m] ∧ (-(2 ^ 64) < f ∧ f < 2 ^ 64) ∧ (-(2 ^ 62) ≤ m ∧ m < 2 ^ 62) ∧ Q (.int (n * f ^ m.toNat)) H
def sp_whole (K : PySem.W.Frag) : Sp := fun vs H Q _ => ∃ m e most : Int, vs = [.int m, .int e, .int most] ∧ most < 2 ^ 62 ∧ Q (if 0 ≤ e ∧ e ≤ most then .int (m * 10 ^ e.toNat) else .non) H
/-! normal(m, e) : m=0 e=1 -/
def N_normal : List Str := ["m", "e"]
def t_normal_0a_0 (K : PySem.W.Frag) : TS := (tRet (tTup (tCons (tC (.int 0)) (tCons (tC (.int 0)) tNil))))
def t_normal_1a_1 (K : PySem.W.Frag) : TS := (tAsg (tOp rAddI (tVar 1) (tC (.int 1))) (gName 1))
def t_normal_1a_0 (K : PySem.W.Frag) : TS := tSeq (tAsg (tOp rDivI (tVar 0) (tC (.int 10))) (gName 0)) (t_normal_1a_1 K)
def t_normal_2 (K : PySem.W.Frag) : TS := (tRet (tTup (tCons (tVar 0) (tCons (tVar 1) tNil))))
def t_normal_1 (K : PySem.W.Frag) : TS := tSeq (tWhile (tTest (tOp rEq (tOp rModI (tVar 0) (tC (.int 10))) (tC (.int 0)))) (t_normal_1a_0 K)) (t_normal_2 K)
def t_normal_0 (K : PySem.W.Frag) : TS := tSeq (tIfS (tTest (tOp rEq (tVar 0) (tC (.int 0)))) (t_normal_0a_0 K) tNext) (t_normal_1 K)
/-! times(number, factor, many) : number=0 factor=1 many=2 _=3 -/
def N_times : List Str := ["number", "factor", "many", "_"]
def t_times_0a_0 (K : PySem.W.Frag) : TS := (tAsg (tOp rMulI (tVar 0) (tVar 1)) (gName 0))
def t_times_1 (K : PySem.W.Frag) : TS := (tRet (tVar 0))
def t_times_0 (K : PySem.W.Frag) : TS := tSeq (tFor (iRng1 (tCons (tVar 2) tNil)) (gName 3) (t_times_0a_0 K)) (t_times_1 K)
/-! whole(m, e, most) : m=0 e=1 most=2 -/
def N_whole : List Str := ["m", "e", "most"]
def t_whole_0a_0 (K : PySem.W.Frag) : TS := (tRet (tCall (sp_times K) [] E0 (tCons (tVar 0) (tCons (tC (.int 10)) (tCons (tVar 1) tNil)))))
def t_whole_1 (K : PySem.W.Frag) : TS := (tRet (tC .non))
def t_whole_0 (K : PySem.W.Frag) : TS := tSeq (tIfS (tTest (tChain rLeI rLeI (tC (.int 0)) (tVar 1) (tVar 2))) (t_whole_0a_0 K) tNext) (t_whole_1 K)
section
variable {K : PySem.W.Frag}
theorem len_normal {vs : List V} {H : Hp} {Q : VK} {E : XK} (h : sp_normal K vs H Q E) : vs.length = 2 := by obtain ⟨_, _, rfl, _⟩ := h; rfl
theorem r_normal {vs : List V} {H : Hp} {Q : VK} {E : XK} (h : sp_normal K vs H Q E) : t_normal_0 K { nx := fun _ H' => Q .non H', rt := Q } (start N_normal vs) H := by
  obtain ⟨m, e, rfl, hq⟩ := h
  unfold t_normal_0
  walk_at "go"
  walk_at "D"
  all_goals rename_i h0
  · unfold t_normal_0a_0
    walk_at "go"
    intro p H1 new
    subst h0
    rw [nz_zero] at hq
    exact hq p H1 new
  · walk_at "go"
    unfold t_normal_1
    walk_at "go"
    refine ⟨fun n σ H1 => ∃ m' e' : Int, σ = [some (.int m'), some (.int e')] ∧ H1 = H ∧ m' ≠ 0 ∧ nz m' e' = nz m e ∧ n = m'.natAbs, ⟨_, m, e, rfl, rfl, h0, rfl, rfl⟩, ?_⟩
    rintro n σ H1 ⟨m', e', rfl, rfl, hm, hz, rfl⟩
    walk_at "go"
    walk_at "D"
    all_goals rename_i h1
    · refine ⟨_, fun _ _ h => h, ?_⟩
      unfold t_normal_1a_0
      walk_at "go"
      unfold t_normal_1a_1
      walk_at "go"
      exact ⟨_, by omega, m' / 10, e' + 1, rfl, rfl, by omega, by rw [← hz, nz_step hm h1], rfl⟩
    · unfold t_normal_2
      walk_at "go"
      intro p H2 new
      rw [nz_stop hm h1] at hz
      rw [← hz] at hq
      exact hq p H2 new
theorem len_times {vs : List V} {H : Hp} {Q : VK} {E : XK} (h : sp_times K vs H Q E) : vs.length = 3 := by obtain ⟨_, _, _, rfl, _⟩ := h; rfl
theorem r_times {vs : List V} {H : Hp} {Q : VK} {E : XK} (h : sp_times K vs H Q E) : t_times_0 K { nx := fun _ H' => Q .non H', rt := Q } (start N_times vs) H := by
  obtain ⟨n, f, m, rfl, hf, hm, hq⟩ := h
  unfold t_times_0
  walk_at "go"
  refine f_rng (fun i σ H1 => H1 = H ∧ ∃ k : Option V, σ = [some (.int (n * f ^ i)), some (.int f), some (.int m), k]) ⟨rfl, none, by simp; rfl⟩ ?_ ?_
  · rintro i σ H1 hi ⟨rfl, k, rfl⟩
    walk_at "go"
    unfold t_times_0a_0
    walk_at "go"
    refine ⟨rfl, some (.int i), ?_⟩
    rw [Int.pow_succ, ← Int.mul_assoc]
    rfl
  · rintro σ H1 ⟨rfl, k, rfl⟩
    unfold t_times_1
    walk_at "go"
    exact hq
theorem len_whole {vs : List V} {H : Hp} {Q : VK} {E : XK} (h : sp_whole K vs H Q E) : vs.length = 3 := by obtain ⟨_, _, _, rfl, _⟩ := h; rfl
theorem r_whole {vs : List V} {H : Hp} {Q : VK} {E : XK} (h : sp_whole K vs H Q E) : t_whole_0 K { nx := fun _ H' => Q .non H', rt := Q } (start N_whole vs) H := by
  obtain ⟨m, e, most, rfl, hm, hq⟩ := h
  unfold t_whole_0
  have no : ¬ (0 ≤ e ∧ e ≤ most) → t_whole_1 K { nx := fun _ H' => Q .non H', rt := Q } [some (.int m), some (.int e), some (.int most)] H := fun c => by
    rw [if_neg c] at hq
    unfold t_whole_1
    walk_at "go"
    exact hq
  walk_at "go"
  walk_at "D"
  all_goals rename_i h1
  · walk_at "go"
    walk_at "D"
    all_goals rename_i h2
    · unfold t_whole_0a_0
      walk_at "go"
      rw [if_pos ⟨h1, h2⟩] at hq
      exact ⟨m, 10, e, rfl, by decide, by omega, hq⟩
    · walk_at "go"
      exact no fun c => h2 c.2
  · walk_at "go"
    exact no fun c => h1 c.1
end
/-! ### binary to decimal -/
def fbz (m two : Int) : Int × Int := if 0 ≤ two then nz (m * 2 ^ two.toNat) 0 else nz (m * 5 ^ (-two).toNat) two
def sp_from_binary (K : PySem.W.Frag) : Sp := fun vs H Q _ => ∃ m two : Int, vs = [.int m, .int two] ∧ (-(2 ^ 60) ≤ two ∧ two < 2 ^ 60) ∧ ∀ p H1, NewAt H p (.tup [.int (fbz m two).1, .int (fbz m two).2]) H1 → Q (.ref p) H1
theorem fbz_zero (two : Int) : fbz 0 two = (0, 0) := by
  unfold fbz
  split <;> rw [Int.zero_mul, nz_zero]
theorem pow_split (t : Nat) : (10 : Int) ^ t = 2 ^ t * 5 ^ t := by rw [← Int.mul_pow]; rfl
theorem pos_le {u x : Int} {k : Nat} (h : x = u * 10 ^ k) (hu : u ≠ 0) : 10 ^ k ≤ x.natAbs := by
  rw [h, Int.natAbs_mul, Int.natAbs_pow]
  exact Nat.le_mul_of_pos_left _ (by omega)
/-- the pair is in normal form, its power is small, and it has the worth of m * 2 ^ two -/
theorem fb_ok {m two : Int} (h0 : m ≠ 0) (hm : m.natAbs < 2 ^ 53) (h1 : -1100 ≤ two) (h2 : two ≤ 1100) :
    (fbz m two).1 % 10 ≠ 0 ∧ -1100 ≤ (fbz m two).2 ∧ (fbz m two).2 ≤ 400 ∧
    m * 2 ^ (max 0 two).toNat * 10 ^ (max 0 (-(fbz m two).2)).toNat = (fbz m two).1 * 2 ^ (max 0 (-two)).toNat * 10 ^ (max 0 (fbz m two).2).toNat := by
  by_cases c : 0 ≤ two
  · have e : fbz m two = nz (m * 2 ^ two.toNat) 0 := by unfold fbz; rw [if_pos c]
    obtain ⟨t, rfl⟩ : ∃ t : Nat, two = t := ⟨two.toNat, by omega⟩
    have tt : ((t : Int)).toNat = t := by omega
    rw [tt] at e
    have hp : (0 : Int) < 2 ^ t := Int.pow_pos (by decide)
    obtain ⟨k, a1, a2, a3⟩ := nz_spec _ (m * 2 ^ t) 0 rfl (Int.mul_ne_zero h0 (by omega))
    rw [← e] at a1 a2 a3
    generalize (fbz m t).1 = u at *
    generalize (fbz m t).2 = v at *
    have hu : u ≠ 0 := fun z => a3 (by rw [z]; rfl)
    have hk : k < 400 := by
      refine ten_le (Nat.lt_of_le_of_lt (pos_le a1 hu) ?_)
      rw [Int.natAbs_mul, Int.natAbs_pow]
      have z1 : m.natAbs * (2 : Int).natAbs ^ t ≤ 2 ^ 53 * 2 ^ 1100 := Nat.mul_le_mul (Nat.le_of_lt hm) (Nat.pow_le_pow_right (by decide) (by omega))
      exact Nat.lt_of_le_of_lt z1 (by decide +kernel)
    refine ⟨a3, by omega, by omega, ?_⟩
    have q1 : (max 0 (t : Int)).toNat = t := by omega
    have q2 : (max 0 (-v)).toNat = 0 := by omega
    have q3 : (max 0 (-(t : Int))).toNat = 0 := by omega
    have q4 : (max 0 v).toNat = k := by omega
    rw [q1, q2, q3, q4, Int.pow_zero, Int.pow_zero, Int.mul_one, Int.mul_one]
    exact a1
  · have e : fbz m two = nz (m * 5 ^ (-two).toNat) two := by unfold fbz; rw [if_neg c]
    obtain ⟨t, rfl⟩ : ∃ t : Nat, two = -(t : Int) := ⟨(-two).toNat, by omega⟩
    have tt : (- -(t : Int)).toNat = t := by omega
    rw [tt] at e
    have hp : (0 : Int) < 5 ^ t := Int.pow_pos (by decide)
    obtain ⟨k, a1, a2, a3⟩ := nz_spec _ (m * 5 ^ t) (-(t : Int)) rfl (Int.mul_ne_zero h0 (by omega))
    rw [← e] at a1 a2 a3
    generalize (fbz m (-(t : Int))).1 = u at *
    generalize (fbz m (-(t : Int))).2 = v at *
    have hu : u ≠ 0 := fun z => a3 (by rw [z]; rfl)
    have q1 : (max 0 (-(t : Int))).toNat = 0 := by omega
    have q3 : (max 0 (- -(t : Int))).toNat = t := by omega
    rw [q1, q3, Int.pow_zero, Int.mul_one]
    by_cases cv : 0 ≤ v
    · obtain ⟨w, rfl⟩ : ∃ w : Nat, v = w := ⟨v.toNat, by omega⟩
      have ek : k = t + w := by omega
      have q2 : (max 0 (-(w : Int))).toNat = 0 := by omega
      have q4 : (max 0 (w : Int)).toNat = w := by omega
      rw [q2, q4, Int.pow_zero, Int.mul_one]
      have fin : m = u * 2 ^ t * 10 ^ w := by
        refine Int.eq_of_mul_eq_mul_right (Int.ne_of_gt hp) ?_
        rw [a1, ek, Int.pow_add, pow_split t]
        simp only [Int.mul_assoc, Int.mul_comm, Int.mul_left_comm]
      refine ⟨a3, by omega, ?_, fin⟩
      have z : w < 16 := by
        have z2 : (2 : Int) ^ t ≠ 0 := Int.ne_of_gt (Int.pow_pos (by decide))
        refine ten_le (Nat.lt_of_le_of_lt (pos_le fin (Int.mul_ne_zero hu z2)) ?_)
        exact Nat.lt_of_lt_of_le hm (by decide)
      omega
    · obtain ⟨w, rfl⟩ : ∃ w : Nat, v = -(w : Int) := ⟨(-v).toNat, by omega⟩
      have ek : t = k + w := by omega
      have q2 : (max 0 (- -(w : Int))).toNat = w := by omega
      have q4 : (max 0 (-(w : Int))).toNat = 0 := by omega
      rw [q2, q4, Int.pow_zero, Int.mul_one]
      refine ⟨a3, by omega, by omega, ?_⟩
      refine Int.eq_of_mul_eq_mul_right (Int.ne_of_gt hp) ?_
      have z : m * 10 ^ w * 5 ^ t = m * 5 ^ t * 10 ^ w := by simp only [Int.mul_assoc, Int.mul_comm, Int.mul_left_comm]
      have z2 : u * 10 ^ k * 10 ^ w = u * 10 ^ t := by rw [Int.mul_assoc, ← Int.pow_add, ← ek]
      rw [z, a1, z2, pow_split t, Int.mul_assoc]
theorem i_max0 {K : PySem.W.Frag} {a : Addr} {x : Int} {H : Hp} {Q : VK} (h : SqL K H a [.int 0, .int x]) (hq : Q (.int (max 0 x)) H) : rMax K [.ref a] H Q := by
  refine ⟨a, [0, x], rfl, h, Nat.succ_pos _, fun m hm hy => ?_⟩
  have e : m = max 0 x := by
    have h1 := hy 0 (by simp)
    have h2 := hy x (by simp)
    simp at hm
    omega
  rw [e]
  exact hq
/-! from_binary(m, two) : m=0 two=1 -/
def N_from_binary : List Str := ["m", "two"]
def t_from_binary_0a_0 (K : PySem.W.Frag) : TS := (tRet (tCall (sp_normal K) [] E0 (tCons (tCall (sp_times K) [] E0 (tCons (tVar 0) (tCons (tC (.int 2)) (tCons (tVar 1) tNil)))) (tCons (tC (.int 0)) tNil))))
def t_from_binary_1 (K : PySem.W.Frag) : TS := (tRet (tCall (sp_normal K) [] E0 (tCons (tCall (sp_times K) [] E0 (tCons (tVar 0) (tCons (tC (.int 5)) (tCons (tUn rNegI (tVar 1)) tNil)))) (tCons (tVar 1) tNil))))
def t_from_binary_0 (K : PySem.W.Frag) : TS := tSeq (tIfS (tTest (tOp rGeI (tVar 1) (tC (.int 0)))) (t_from_binary_0a_0 K) tNext) (t_from_binary_1 K)
section
variable {K : PySem.W.Frag}
theorem len_from_binary {vs : List V} {H : Hp} {Q : VK} {E : XK} (h : sp_from_binary K vs H Q E) : vs.length = 2 := by obtain ⟨_, _, rfl, _⟩ := h; rfl
theorem r_from_binary {vs : List V} {H : Hp} {Q : VK} {E : XK} (h : sp_from_binary K vs H Q E) : t_from_binary_0 K { nx := fun _ H' => Q .non H', rt := Q } (start N_from_binary vs) H := by
  obtain ⟨m, two, rfl, ht, hq⟩ := h
  unfold fbz at hq
  unfold t_from_binary_0
  walk_at "go"
  walk_at "D"
  all_goals rename_i h1
  · unfold t_from_binary_0a_0
    walk_at "go"
    refine ⟨m, 2, two, rfl, by decide, by omega, ?_⟩
    walk_at "go"
    rw [if_pos h1] at hq
    exact ⟨_, 0, rfl, hq⟩
  · walk_at "go"
    unfold t_from_binary_1
    walk_at "go"
    refine ⟨m, 5, -two, rfl, by decide, by omega, ?_⟩
    walk_at "go"
    rw [if_neg h1] at hq
    exact ⟨_, two, rfl, hq⟩
end
/-! ### floats -/
def fK (pl pw one most : Int) : Prop := (pl = 10 ∧ pw = 5 ∧ one = 1024 ∧ most = 32) ∨ (pl = 23 ∧ pw = 8 ∧ one = 8388608 ∧ most = 256) ∨ (pl = 52 ∧ pw = 11 ∧ one = 4503599627370496 ∧ most = 2048)
theorem fK.one {pl pw one most : Int} (h : fK pl pw one most) : (1 : Int) * 2 ^ pl.toNat = one := by
  rcases h with ⟨rfl, rfl, rfl, rfl⟩ | ⟨rfl, rfl, rfl, rfl⟩ | ⟨rfl, rfl, rfl, rfl⟩ <;> decide
theorem fK.most {pl pw one most : Int} (h : fK pl pw one most) : (1 : Int) * 2 ^ pw.toNat = most := by
  rcases h with ⟨rfl, rfl, rfl, rfl⟩ | ⟨rfl, rfl, rfl, rfl⟩ | ⟨rfl, rfl, rfl, rfl⟩ <;> decide
theorem fK.mid {pl pw one most : Int} (h : fK pl pw one most) : (1 : Int) * 2 ^ (pw - 1).toNat = most / 2 := by
  rcases h with ⟨rfl, rfl, rfl, rfl⟩ | ⟨rfl, rfl, rfl, rfl⟩ | ⟨rfl, rfl, rfl, rfl⟩ <;> decide
theorem fK.bd {pl pw one most : Int} (h : fK pl pw one most) : 10 ≤ pl ∧ pl ≤ 52 ∧ 5 ≤ pw ∧ pw ≤ 11 ∧ 1024 ≤ one ∧ one ≤ 4503599627370496 ∧ 32 ≤ most ∧ most ≤ 2048 ∧ most % 2 = 0 := by
  rcases h with ⟨rfl, rfl, rfl, rfl⟩ | ⟨rfl, rfl, rfl, rfl⟩ | ⟨rfl, rfl, rfl, rfl⟩ <;> decide
theorem fK.far {pl pw one most : Int} (h : fK pl pw one most) : -1074 ≤ 2 - most / 2 - pl ∧ 2 - most / 2 - pl + most ≤ 1000 := by
  rcases h with ⟨rfl, rfl, rfl, rfl⟩ | ⟨rfl, rfl, rfl, rfl⟩ | ⟨rfl, rfl, rfl, rfl⟩ <;> decide
theorem fK.om {pl pw one most : Int} (h : fK pl pw one most) : 0 < one * most ∧ (one * most).natAbs < 2 ^ 100 := by
  rcases h with ⟨rfl, rfl, rfl, rfl⟩ | ⟨rfl, rfl, rfl, rfl⟩ | ⟨rfl, rfl, rfl, rfl⟩ <;> decide
def fW (one fraction field : Int) : Int := if field = 0 then fraction else one + fraction
def fT (pl most field : Int) : Int := if field = 0 then 2 - most / 2 - pl else 2 - most / 2 - pl + field - 1
structure Fl (pl pw one most down field fraction : Int) : Prop where
  k : fK pl pw one most
  d : down = 0 ∨ down = 1
  f0 : 0 ≤ field
  f1 : field < most
  r0 : 0 ≤ fraction
  r1 : fraction < one
def flB (one most down field fraction : Int) : Int := (down * most + field) * one + fraction
theorem flB_parts {pl pw one most down field fraction : Int} (h : Fl pl pw one most down field fraction) :
    flB one most down field fraction % one = fraction ∧ flB one most down field fraction / one % most = field ∧ flB one most down field fraction / (one * most) = down := by
  have b := h.k.bd
  have h0 : one ≠ 0 := by omega
  have e1 : flB one most down field fraction / one = down * most + field := by
    unfold flB
    rw [Int.add_comm, Int.add_mul_ediv_right _ _ h0, Int.ediv_eq_zero_of_lt h.r0 h.r1, Int.zero_add]
  refine ⟨?_, ?_, ?_⟩
  · unfold flB
    rw [Int.add_comm, Int.add_mul_emod_self_right]
    exact Int.emod_eq_of_lt h.r0 h.r1
  · rw [e1, Int.add_comm, Int.add_mul_emod_self_right]
    exact Int.emod_eq_of_lt h.f0 h.f1
  · rw [← Int.ediv_ediv_of_nonneg (by omega), e1, Int.add_comm, Int.add_mul_ediv_right _ _ (by omega), Int.ediv_eq_zero_of_lt h.f0 h.f1, Int.zero_add]
/-- what a float's decoding gives -/
structure FlQ (H : Hp) (Q : VK) (pl most down field : Int) (w : Int) : Prop where
  no : field = most - 1 → Q .non H
  ok : field ≠ most - 1 → ∀ p H1, NewAt H p (.tup [.int (fbz ((1 - 2 * down) * w) (fT pl most field)).1, .int (fbz ((1 - 2 * down) * w) (fT pl most field)).2]) H1 → Q (.ref p) H1
def sp_decode_float (K : PySem.W.Frag) : Sp := fun vs H Q _ => ∃ pl pw one most down field fraction : Int, Fl pl pw one most down field fraction ∧ vs = [.int (flB one most down field fraction), .int pl, .int pw] ∧ FlQ H Q pl most down field (fW one fraction field)
def spFl (pl pw one most : Int) : Sp := fun vs H Q _ => ∃ down field fraction : Int, Fl pl pw one most down field fraction ∧ vs = [.int (flB one most down field fraction)] ∧ FlQ H Q pl most down field (fW one fraction field)
def sp_half (K : PySem.W.Frag) : Sp := spFl 10 5 1024 32
def sp_single (K : PySem.W.Frag) : Sp := spFl 23 8 8388608 256
def sp_double (K : PySem.W.Frag) : Sp := spFl 52 11 4503599627370496 2048
/-! decode_float(bits, places, powers) : bits=0 places=1 powers=2 one=3 most=4 fraction=5 power=6 sign=7 least=8 -/
def N_decode_float : List Str := ["bits", "places", "powers", "one", "most", "fraction", "power", "sign", "least"]
def t_decode_float_5a_0 (K : PySem.W.Frag) : TS := (tRet (tC .non))
def t_decode_float_7a_0 (K : PySem.W.Frag) : TS := (tRet (tCall (sp_from_binary K) [] E0 (tCons (tOp rMulI (tVar 7) (tVar 5)) (tCons (tVar 8) tNil))))
def t_decode_float_8 (K : PySem.W.Frag) : TS := (tRet (tCall (sp_from_binary K) [] E0 (tCons (tOp rMulI (tVar 7) (tOp rAddI (tVar 3) (tVar 5))) (tCons (tOp rSubI (tOp rAddI (tVar 8) (tVar 6)) (tC (.int 1))) tNil))))
def t_decode_float_7 (K : PySem.W.Frag) : TS := tSeq (tIfS (tTest (tOp rEq (tVar 6) (tC (.int 0)))) (t_decode_float_7a_0 K) tNext) (t_decode_float_8 K)
def t_decode_float_6 (K : PySem.W.Frag) : TS := tSeq (tAsg (tOp rSubI (tOp rSubI (tC (.int 2)) (tOp rDivI (tVar 4) (tC (.int 2)))) (tVar 1)) (gName 8)) (t_decode_float_7 K)
def t_decode_float_5 (K : PySem.W.Frag) : TS := tSeq (tIfS (tTest (tOp rEq (tVar 6) (tOp rSubI (tVar 4) (tC (.int 1))))) (t_decode_float_5a_0 K) tNext) (t_decode_float_6 K)
def t_decode_float_4 (K : PySem.W.Frag) : TS := tSeq (tAsg (tIf (tTest (tOp rEq (tOp rDivW (tVar 0) (tOp rMulI (tVar 3) (tVar 4))) (tC (.int 1)))) (tUn rNegI (tC (.int 1))) (tC (.int 1))) (gName 7)) (t_decode_float_5 K)
def t_decode_float_3 (K : PySem.W.Frag) : TS := tSeq (tAsg (tOp rModI (tOp rDivW (tVar 0) (tVar 3)) (tVar 4)) (gName 6)) (t_decode_float_4 K)
def t_decode_float_2 (K : PySem.W.Frag) : TS := tSeq (tAsg (tOp rModI (tVar 0) (tVar 3)) (gName 5)) (t_decode_float_3 K)
def t_decode_float_1 (K : PySem.W.Frag) : TS := tSeq (tAsg (tCall (sp_times K) [] E0 (tCons (tC (.int 1)) (tCons (tC (.int 2)) (tCons (tVar 2) tNil)))) (gName 4)) (t_decode_float_2 K)
def t_decode_float_0 (K : PySem.W.Frag) : TS := tSeq (tAsg (tCall (sp_times K) [] E0 (tCons (tC (.int 1)) (tCons (tC (.int 2)) (tCons (tVar 1) tNil)))) (gName 3)) (t_decode_float_1 K)
/-! half(bits) : bits=0 -/
def N_half : List Str := ["bits"]
def t_half_0 (K : PySem.W.Frag) : TS := (tRet (tCall (sp_decode_float K) [] E0 (tCons (tVar 0) (tCons (tC (.int 10)) (tCons (tC (.int 5)) tNil)))))
/-! single(bits) : bits=0 -/
def N_single : List Str := ["bits"]
def t_single_0 (K : PySem.W.Frag) : TS := (tRet (tCall (sp_decode_float K) [] E0 (tCons (tVar 0) (tCons (tC (.int 23)) (tCons (tC (.int 8)) tNil)))))
/-! double(bits) : bits=0 -/
def N_double : List Str := ["bits"]
def t_double_0 (K : PySem.W.Frag) : TS := (tRet (tCall (sp_decode_float K) [] E0 (tCons (tVar 0) (tCons (tC (.int 52)) (tCons (tC (.int 11)) tNil)))))
section
variable {K : PySem.W.Frag}
theorem len_decode_float {vs : List V} {H : Hp} {Q : VK} {E : XK} (h : sp_decode_float K vs H Q E) : vs.length = 3 := by obtain ⟨_, _, _, _, _, _, _, _, rfl, _⟩ := h; rfl
theorem r_decode_float {vs : List V} {H : Hp} {Q : VK} {E : XK} (h : sp_decode_float K vs H Q E) : t_decode_float_0 K { nx := fun _ H' => Q .non H', rt := Q } (start N_decode_float vs) H := by
  obtain ⟨pl, pw, one, most, down, field, fraction, hf, rfl, hq⟩ := h
  obtain ⟨p1, p2, p3⟩ := flB_parts hf
  have b := hf.k.bd
  have h1 := hf.k.one
  have h2 := hf.k.most
  have far := hf.k.far
  obtain ⟨om0, om1⟩ := hf.k.om
  have hone : one.natAbs < 2 ^ 60 := by omega
  generalize flB one most down field fraction = bits at *
  have hd := hf.d
  have hf0 := hf.f0
  have hf1 := hf.f1
  unfold t_decode_float_0
  walk_at "go"
  refine ⟨1, 2, pl, rfl, by decide, by omega, ?_⟩
  rw [h1]
  walk_at "go"
  unfold t_decode_float_1
  walk_at "go"
  refine ⟨1, 2, pw, rfl, by decide, by omega, ?_⟩
  rw [h2]
  walk_at "go"
  unfold t_decode_float_2
  walk_at "go"
  rw [p1]
  unfold t_decode_float_3
  walk_at "go"
  refine i_divW (wide_div (b := 60) (by omega) hone (by decide) (by decide)) ?_
  walk_at "go"
  rw [p2]
  have sg : t_decode_float_5 K { nx := fun _ H' => Q .non H', rt := Q } [some (.int bits), some (.int pl), some (.int pw), some (.int one), some (.int most), some (.int fraction), some (.int field), some (.int (1 - 2 * down)), none] H := by
    unfold t_decode_float_5
    walk_at "go"
    walk_at "D"
    all_goals rename_i hm
    · unfold t_decode_float_5a_0
      walk_at "go"
      exact hq.no hm
    · have ok := hq.ok hm
      walk_at "go"
      unfold t_decode_float_6
      walk_at "go"
      unfold t_decode_float_7
      walk_at "go"
      walk_at "D"
      all_goals rename_i h0
      · unfold t_decode_float_7a_0
        walk_at "go"
        refine ⟨_, _, rfl, by omega, ?_⟩
        have e1 : fW one fraction field = fraction := if_pos h0
        have e2 : fT pl most field = 2 - most / 2 - pl := if_pos h0
        rw [e1, e2] at ok
        exact ok
      · walk_at "go"
        unfold t_decode_float_8
        walk_at "go"
        refine ⟨_, _, rfl, by omega, ?_⟩
        have e1 : fW one fraction field = one + fraction := if_neg h0
        have e2 : fT pl most field = 2 - most / 2 - pl + field - 1 := if_neg h0
        rw [e1, e2] at ok
        exact ok
  unfold t_decode_float_4
  walk_at "go"
  refine i_divW (wide_div (b := 100) om0 om1 (by decide) (by decide)) ?_
  walk_at "go"
  rw [p3]
  walk_at "D"
  all_goals rename_i hz
  · walk_at "go"
    have e : (1 - 2 * down) = -1 := by omega
    rw [e] at sg
    exact sg
  · walk_at "go"
    have e : (1 - 2 * down) = 1 := by omega
    rw [e] at sg
    exact sg
theorem lenFl {pl pw one most : Int} {vs : List V} {H : Hp} {Q : VK} {E : XK} (h : spFl pl pw one most vs H Q E) : vs.length = 1 := by obtain ⟨_, _, _, _, rfl, _⟩ := h; rfl
theorem len_half {vs : List V} {H : Hp} {Q : VK} {E : XK} (h : sp_half K vs H Q E) : vs.length = 1 := lenFl h
theorem len_single {vs : List V} {H : Hp} {Q : VK} {E : XK} (h : sp_single K vs H Q E) : vs.length = 1 := lenFl h
theorem len_double {vs : List V} {H : Hp} {Q : VK} {E : XK} (h : sp_double K vs H Q E) : vs.length = 1 := lenFl h
theorem r_half {vs : List V} {H : Hp} {Q : VK} {E : XK} (h : sp_half K vs H Q E) : t_half_0 K { nx := fun _ H' => Q .non H', rt := Q } (start N_half vs) H := by
  obtain ⟨down, field, fraction, hf, rfl, hq⟩ := h
  unfold t_half_0
  walk_at "go"
  exact ⟨_, _, _, _, down, field, fraction, hf, rfl, hq⟩
theorem r_single {vs : List V} {H : Hp} {Q : VK} {E : XK} (h : sp_single K vs H Q E) : t_single_0 K { nx := fun _ H' => Q .non H', rt := Q } (start N_single vs) H := by
  obtain ⟨down, field, fraction, hf, rfl, hq⟩ := h
  unfold t_single_0
  walk_at "go"
  exact ⟨_, _, _, _, down, field, fraction, hf, rfl, hq⟩
theorem r_double {vs : List V} {H : Hp} {Q : VK} {E : XK} (h : sp_double K vs H Q E) : t_double_0 K { nx := fun _ H' => Q .non H', rt := Q } (start N_double vs) H := by
  obtain ⟨down, field, fraction, hf, rfl, hq⟩ := h
  unfold t_double_0
  walk_at "go"
  exact ⟨_, _, _, _, down, field, fraction, hf, rfl, hq⟩
end
/-! ### pairs of ints, picks out of a list -/
section
variable {K : PySem.W.Frag} {H : Hp} {q : Addr}
theorem atI_pick {xs : List Int} {r : Int} (h0 : 0 ≤ r) (h1 : r < xs.length) : ∃ v ∈ xs, atI (xs.map V.int) r = some (.int v) := by
  obtain ⟨j, rfl⟩ : ∃ j : Nat, r = j := ⟨r.toNat, by omega⟩
  have h : j < xs.length := by omega
  exact ⟨xs[j], List.getElem_mem h, atI_map h⟩
theorem dp2 {u v : Int} (h : SqT K H q [.int u, .int v]) : Dp K H (.ref q) (.tuple [.int u, .int v]) := .tup h (.cons (.int u) (.cons (.int v) .nil))
theorem sh2 (u v : Int) : SeqAt.shaped (.tuple [.int u, .int v]) = true := by
  simp [SeqAt.shaped, PyData.canLay0, PyData.canLayAll0, PyData.depth, PyData.depthAll]
theorem eqv2 (u v u' v' : Int) : PyData.eqv (.tuple [.int u, .int v]) (.tuple [.int u', .int v']) = decide (u = u' ∧ v = v') := by
  simp [PyData.eqv, PyData.eqvAll, Bool.beq_eq_decide_eq]
theorem i_neP {q q2 : Addr} {u v u' v' : Int} {Q : VK} (h : SqT K H q [.int u, .int v]) (h2 : SqT K H q2 [.int u', .int v']) (hq : Q (.bl (!decide (u = u' ∧ v = v'))) H) : rNeD K (.ref q) (.ref q2) H Q :=
  ⟨_, _, dp2 h, dp2 h2, sh2 _ _, sh2 _ _, by rw [eqv2]; exact hq⟩
theorem i_eqP {q q2 : Addr} {u v u' v' : Int} {Q : VK} (h : SqT K H q [.int u, .int v]) (h2 : SqT K H q2 [.int u', .int v']) (hq : Q (.bl (decide (u = u' ∧ v = v'))) H) : rEqD K (.ref q) (.ref q2) H Q :=
  ⟨_, _, dp2 h, dp2 h2, sh2 _ _, sh2 _ _, by rw [eqv2]; exact hq⟩
theorem kitI : kitB "int" "int" = some true := by decide +kernel
theorem kitIB : kitB "int" "bool" = some false := by decide +kernel
theorem kitT : kitB "tuple" "tuple" = some true := by decide +kernel
theorem i_isi {x : V} {t c : String} {b : Bool} {Q : VK} (ty : TyX K H x (.type t)) (k : kitB t c = some b) (h : Q (.bl b) H) : rIsi K [x, .ty c] H Q := ⟨x, .ty c, .type t, .type c, b, rfl, .ty c, ty, kit_ty k, h⟩
theorem i_isiIB {i : Int} {Q : VK} (h : Q (.bl false) H) : rIsi K [.int i, .ty "bool"] H Q := i_isi (.base (.int i)) kitIB h
theorem i_isiT {xs : List V} {Q : VK} (e : H q = some (.tup xs)) (h : Q (.bl true) H) : rIsi K [.ref q, .ty "tuple"] H Q := i_isi (.base (.tup e)) kitT h
theorem natAbs_lt {x : Int} {n : Nat} (h0 : 0 ≤ x) (h : x < (n : Int)) : x.natAbs < n := by omega
/-- a pick out of a list of ints that was just made -/
theorem i_pick {p l : Addr} {xs : List Int} {r : Int} {H0 H1 H2 : Hp} {Q : VK} {left last : Int} (d : Dr K p left last H0) (n : NewAt H0 l (.lst (xs.map V.int)) H1) (k : Keep [p] H1 H2) (r0 : 0 ≤ r) (r1 : r < xs.length) (h : ∀ v ∈ xs, Q (.int v) H2) : rIxL K (.ref l) (.int r) H2 Q := by
  obtain ⟨v, hv, ha⟩ := atI_pick r0 r1
  exact i_ixL (k.sqL (by simpa using (d.ne n).symm) n.sqL) ha (h v hv)
end
def sp__law_times (K : PySem.W.Frag) : Sp := sp_times K
def sp_law (K : PySem.W.Frag) : Sp := fun vs H Q _ => ∃ (a : Addr) (ns : List Int), vs = [.ref a] ∧ SqL K H a (ns.map V.int) ∧ ns.length ≤ 63 ∧ Only H ∧ ∀ H', Q (.bl true) H'
/-- what stands for a float's pair -/
def FlP (H : Hp) (v : V) (pl most down field w : Int) : Prop := (field = most - 1 ∧ v = .non) ∨ (field ≠ most - 1 ∧ ∃ q, v = .ref q ∧ H q = some (.tup [.int (fbz ((1 - 2 * down) * w) (fT pl most field)).1, .int (fbz ((1 - 2 * down) * w) (fT pl most field)).2]))
def sp__law_right (K : PySem.W.Frag) : Sp := fun vs H Q _ => ∃ (pv : V) (pl pw one most down field fraction : Int), Fl pl pw one most down field fraction ∧ vs = [pv, .int (1 - 2 * down), .int fraction, .int field, .int pl, .int pw] ∧ FlP H pv pl most down field (fW one fraction field) ∧ ∀ H1, Keep [] H H1 → Q (.bl true) H1
/-! _law_times(_law_number, _law_factor, _law_many) : _law_number=0 _law_factor=1 _law_many=2 _law_k=3 -/
def N__law_times : List Str := ["_law_number", "_law_factor", "_law_many", "_law_k"]
def t__law_times_0a_0 (K : PySem.W.Frag) : TS := (tAsg (tOp rMulI (tVar 0) (tVar 1)) (gName 0))
def t__law_times_1 (K : PySem.W.Frag) : TS := (tRet (tVar 0))
def t__law_times_0 (K : PySem.W.Frag) : TS := tSeq (tFor (iRng1 (tCons (tVar 2) tNil)) (gName 3) (t__law_times_0a_0 K)) (t__law_times_1 K)
/-! _law_right(_law_pair, _law_sign, _law_fraction, _law_field, _law_places, _law_powers) : _law_pair=0 _law_sign=1 _law_fraction=2 _law_field=3 _law_places=4 _law_powers=5 _law_one=6 _law_middle=7 _law_two=8 _law_worth=9 _law_left=10 _law_right_here=11 -/
def N__law_right : List Str := ["_law_pair", "_law_sign", "_law_fraction", "_law_field", "_law_places", "_law_powers", "_law_one", "_law_middle", "_law_two", "_law_worth", "_law_left", "_law_right_here"]
def t__law_right_2a_0 (K : PySem.W.Frag) : TS := (tRet (tOp rIsN (tVar 0) (tC .non)))
def t__law_right_3a_0 (K : PySem.W.Frag) : TS := (tRet (tC (.bl false)))
def t__law_right_4a_0 (K : PySem.W.Frag) : TS := (tRet (tC (.bl false)))
def t__law_right_7a_1 (K : PySem.W.Frag) : TS := (tAsg (tOp rAddI (tVar 6) (tVar 2)) (gName 9))
def t__law_right_7a_0 (K : PySem.W.Frag) : TS := tSeq (tAsg (tOp rSubI (tOp rSubI (tVar 3) (tVar 7)) (tVar 4)) (gName 8)) (t__law_right_7a_1 K)
def t__law_right_8a_0 (K : PySem.W.Frag) : TS := (tRet (tOp (rEqD K) (tVar 0) (tTup (tCons (tC (.int 0)) (tCons (tC (.int 0)) tNil)))))
def t__law_right_9a_0 (K : PySem.W.Frag) : TS := (tRet (tC (.bl false)))
def t__law_right_12 (K : PySem.W.Frag) : TS := (tRet (tOp rEq (tVar 10) (tVar 11)))
def t__law_right_11 (K : PySem.W.Frag) : TS := tSeq (tAsg (tCall (sp__law_times K) [] E0 (tCons (tCall (sp__law_times K) [] E0 (tCons (tOp (rIxT K) (tVar 0) (tC (.int 0))) (tCons (tC (.int 2)) (tCons (tCB (rMax K) (tCons (tLst (tCons (tC (.int 0)) (tCons (tUn rNegI (tVar 8)) tNil))) tNil)) tNil)))) (tCons (tC (.int 10)) (tCons (tCB (rMax K) (tCons (tLst (tCons (tC (.int 0)) (tCons (tOp (rIxT K) (tVar 0) (tC (.int 1))) tNil))) tNil)) tNil)))) (gName 11)) (t__law_right_12 K)
def t__law_right_10 (K : PySem.W.Frag) : TS := tSeq (tAsg (tCall (sp__law_times K) [] E0 (tCons (tCall (sp__law_times K) [] E0 (tCons (tOp rMulI (tVar 1) (tVar 9)) (tCons (tC (.int 2)) (tCons (tCB (rMax K) (tCons (tLst (tCons (tC (.int 0)) (tCons (tVar 8) tNil))) tNil)) tNil)))) (tCons (tC (.int 10)) (tCons (tCB (rMax K) (tCons (tLst (tCons (tC (.int 0)) (tCons (tUn rNegI (tOp (rIxT K) (tVar 0) (tC (.int 1)))) tNil))) tNil)) tNil)))) (gName 10)) (t__law_right_11 K)
def t__law_right_9 (K : PySem.W.Frag) : TS := tSeq (tIfS (tOr (tTest (tOp rEq (tOp rModI (tOp (rIxT K) (tVar 0) (tC (.int 0))) (tC (.int 10))) (tC (.int 0)))) (tOr (tTest (tOp rLtI (tOp (rIxT K) (tVar 0) (tC (.int 1))) (tUn rNegI (tC (.int 1100))))) (tTest (tOp rGtI (tOp (rIxT K) (tVar 0) (tC (.int 1))) (tC (.int 400)))))) (t__law_right_9a_0 K) tNext) (t__law_right_10 K)
def t__law_right_8 (K : PySem.W.Frag) : TS := tSeq (tIfS (tTest (tOp rEq (tVar 9) (tC (.int 0)))) (t__law_right_8a_0 K) tNext) (t__law_right_9 K)
def t__law_right_7 (K : PySem.W.Frag) : TS := tSeq (tIfS (tTest (tOp rGtI (tVar 3) (tC (.int 0)))) (t__law_right_7a_0 K) tNext) (t__law_right_8 K)
def t__law_right_6 (K : PySem.W.Frag) : TS := tSeq (tAsg (tVar 2) (gName 9)) (t__law_right_7 K)
def t__law_right_5 (K : PySem.W.Frag) : TS := tSeq (tAsg (tOp rSubI (tOp rSubI (tC (.int 1)) (tVar 7)) (tVar 4)) (gName 8)) (t__law_right_6 K)
def t__law_right_4 (K : PySem.W.Frag) : TS := tSeq (tIfS (tOr (tB (tCB (rIsi K) (tCons (tOp (rIxT K) (tVar 0) (tC (.int 0))) (tCons (tC (.ty "bool")) tNil)))) (tB (tCB (rIsi K) (tCons (tOp (rIxT K) (tVar 0) (tC (.int 1))) (tCons (tC (.ty "bool")) tNil))))) (t__law_right_4a_0 K) tNext) (t__law_right_5 K)
def t__law_right_3 (K : PySem.W.Frag) : TS := tSeq (tIfS (tOr (tTest (tOp rIsN (tVar 0) (tC .non))) (tOr (tNot (tB (tCB (rIsi K) (tCons (tVar 0) (tCons (tC (.ty "tuple")) tNil))))) (tTest (tOp rNe (tCB (rLenQ K) (tCons (tVar 0) tNil)) (tC (.int 2)))))) (t__law_right_3a_0 K) tNext) (t__law_right_4 K)
def t__law_right_2 (K : PySem.W.Frag) : TS := tSeq (tIfS (tTest (tOp rEq (tVar 3) (tOp rAddI (tOp rMulI (tC (.int 2)) (tVar 7)) (tC (.int 1))))) (t__law_right_2a_0 K) tNext) (t__law_right_3 K)
def t__law_right_1 (K : PySem.W.Frag) : TS := tSeq (tAsg (tOp rSubI (tCall (sp__law_times K) [] E0 (tCons (tC (.int 1)) (tCons (tC (.int 2)) (tCons (tOp rSubI (tVar 5) (tC (.int 1))) tNil)))) (tC (.int 1))) (gName 7)) (t__law_right_2 K)
def t__law_right_0 (K : PySem.W.Frag) : TS := tSeq (tAsg (tCall (sp__law_times K) [] E0 (tCons (tC (.int 1)) (tCons (tC (.int 2)) (tCons (tVar 4) tNil)))) (gName 6)) (t__law_right_1 K)
/-! law(_law_script) : _law_script=0 _law_state_here=1 _law_kind=2 _law_places=3 _law_powers=4 _law_one=5 _law_most=6 _law_field=7 _law_fraction=8 _law_down=9 _law_bits=10 _law_pair=11 -/
def N_law : List Str := ["_law_script", "_law_state_here", "_law_kind", "_law_places", "_law_powers", "_law_one", "_law_most", "_law_field", "_law_fraction", "_law_down", "_law_bits", "_law_pair"]
def t_law_1a_9a_0 (K : PySem.W.Frag) : TS := (tAsg (tCall (sp_half K) [] E0 (tCons (tVar 10) tNil)) (gName 11))
def t_law_1a_9b_0a_0 (K : PySem.W.Frag) : TS := (tAsg (tCall (sp_single K) [] E0 (tCons (tVar 10) tNil)) (gName 11))
def t_law_1a_9b_0b_0 (K : PySem.W.Frag) : TS := (tAsg (tCall (sp_double K) [] E0 (tCons (tVar 10) tNil)) (gName 11))
def t_law_1a_9b_0 (K : PySem.W.Frag) : TS := (tIfS (tTest (tOp rEq (tVar 2) (tC (.int 1)))) (t_law_1a_9b_0a_0 K) (t_law_1a_9b_0b_0 K))
def t_law_1a_10a_0 (K : PySem.W.Frag) : TS := (tRet (tC (.bl false)))
def t_law_1a_10 (K : PySem.W.Frag) : TS := (tIfS (tNot (tB (tCall (sp__law_right K) [] E0 (tCons (tVar 11) (tCons (tOp rSubI (tC (.int 1)) (tOp rMulI (tC (.int 2)) (tVar 9))) (tCons (tVar 8) (tCons (tVar 7) (tCons (tVar 3) (tCons (tVar 4) tNil))))))))) (t_law_1a_10a_0 K) tNext)
def t_law_1a_9 (K : PySem.W.Frag) : TS := tSeq (tIfS (tTest (tOp rEq (tVar 2) (tC (.int 0)))) (t_law_1a_9a_0 K) (t_law_1a_9b_0 K)) (t_law_1a_10 K)
def t_law_1a_8 (K : PySem.W.Frag) : TS := tSeq (tAsg (tC .non) (gName 11)) (t_law_1a_9 K)
def t_law_1a_7 (K : PySem.W.Frag) : TS := tSeq (tAsg (tOp rAddI (tOp rMulI (tOp rAddI (tOp rMulI (tVar 9) (tVar 6)) (tVar 7)) (tVar 5)) (tVar 8)) (gName 10)) (t_law_1a_8 K)
def t_law_1a_6 (K : PySem.W.Frag) : TS := tSeq (tAsg (tCall (sp__law_next K) [] E0 (tCons (tVar 1) (tCons (tC (.int 2)) tNil))) (gName 9)) (t_law_1a_7 K)
def t_law_1a_5 (K : PySem.W.Frag) : TS := tSeq (tAsg (tOp (rIxL K) (tLst (tCons (tC (.int 0)) (tCons (tC (.int 1)) (tCons (tOp rSubI (tVar 5) (tC (.int 1))) (tCons (tCall (sp__law_big K) [] E0 (tCons (tVar 1) (tCons (tVar 5) tNil))) (tCons (tOp rDivI (tVar 5) (tC (.int 2))) tNil)))))) (tCall (sp__law_next K) [] E0 (tCons (tVar 1) (tCons (tC (.int 5)) tNil)))) (gName 8)) (t_law_1a_6 K)
def t_law_1a_4 (K : PySem.W.Frag) : TS := tSeq (tAsg (tOp (rIxL K) (tLst (tCons (tC (.int 0)) (tCons (tC (.int 1)) (tCons (tOp rSubI (tVar 6) (tC (.int 1))) (tCons (tOp rSubI (tVar 6) (tC (.int 2))) (tCons (tOp rSubI (tOp rAddI (tOp rDivI (tVar 6) (tC (.int 2))) (tCall (sp__law_next K) [] E0 (tCons (tVar 1) (tCons (tC (.int 9)) tNil)))) (tC (.int 4))) (tCons (tCall (sp__law_big K) [] E0 (tCons (tVar 1) (tCons (tVar 6) tNil))) tNil))))))) (tCall (sp__law_next K) [] E0 (tCons (tVar 1) (tCons (tC (.int 6)) tNil)))) (gName 7)) (t_law_1a_5 K)
def t_law_1a_3 (K : PySem.W.Frag) : TS := tSeq (tAsg (tCall (sp__law_times K) [] E0 (tCons (tC (.int 1)) (tCons (tC (.int 2)) (tCons (tVar 4) tNil)))) (gName 6)) (t_law_1a_4 K)
def t_law_1a_2 (K : PySem.W.Frag) : TS := tSeq (tAsg (tCall (sp__law_times K) [] E0 (tCons (tC (.int 1)) (tCons (tC (.int 2)) (tCons (tVar 3) tNil)))) (gName 5)) (t_law_1a_3 K)
def t_law_1a_1 (K : PySem.W.Frag) : TS := tSeq (tAsg (tOp (rIxL K) (tLst (tCons (tC (.int 5)) (tCons (tC (.int 8)) (tCons (tC (.int 11)) tNil)))) (tVar 2)) (gName 4)) (t_law_1a_2 K)
def t_law_1a_0 (K : PySem.W.Frag) : TS := tSeq (tAsg (tOp (rIxL K) (tLst (tCons (tC (.int 10)) (tCons (tC (.int 23)) (tCons (tC (.int 52)) tNil)))) (tVar 2)) (gName 3)) (t_law_1a_1 K)
def t_law_2 (K : PySem.W.Frag) : TS := (tRet (tC (.bl true)))
def t_law_1 (K : PySem.W.Frag) : TS := tSeq (tFor (iRng1 (tCons (tC (.int 3)) tNil)) (gName 2) (t_law_1a_0 K)) (t_law_2 K)
def t_law_0 (K : PySem.W.Frag) : TS := tSeq (tAsg (tCall (sp__law_state K) [] E0 (tCons (tVar 0) (tCons (tC (.int 0)) tNil))) (gName 1)) (t_law_1 K)
section
variable {K : PySem.W.Frag}
theorem len__law_times {vs : List V} {H : Hp} {Q : VK} {E : XK} (h : sp__law_times K vs H Q E) : vs.length = 3 := by obtain ⟨_, _, _, rfl, _⟩ := h; rfl
theorem r__law_times {vs : List V} {H : Hp} {Q : VK} {E : XK} (h : sp__law_times K vs H Q E) : t__law_times_0 K { nx := fun _ H' => Q .non H', rt := Q } (start N__law_times vs) H := by
  obtain ⟨n, f, m, rfl, hf, hm, hq⟩ := h
  unfold t__law_times_0
  walk_at "go"
  refine f_rng (fun i σ H1 => H1 = H ∧ ∃ k : Option V, σ = [some (.int (n * f ^ i)), some (.int f), some (.int m), k]) ⟨rfl, none, by simp; rfl⟩ ?_ ?_
  · rintro i σ H1 hi ⟨rfl, k, rfl⟩
    walk_at "go"
    unfold t__law_times_0a_0
    walk_at "go"
    refine ⟨rfl, some (.int i), ?_⟩
    rw [Int.pow_succ, ← Int.mul_assoc]
    rfl
  · rintro σ H1 ⟨rfl, k, rfl⟩
    unfold t__law_times_1
    walk_at "go"
    exact hq
end
section
variable {K : PySem.W.Frag}
theorem len__law_right {vs : List V} {H : Hp} {Q : VK} {E : XK} (h : sp__law_right K vs H Q E) : vs.length = 6 := by obtain ⟨_, _, _, _, _, _, _, _, _, rfl, _⟩ := h; rfl
theorem rt9 {D : Ends} {H : Hp} {q : Addr} {a b c d e f : Option V} {s w two : Int} (hD : ∀ H1, Keep [] H H1 → D.rt (.bl true) H1) (hs : s = 1 ∨ s = -1) (h0 : w ≠ 0) (hw : 0 ≤ w ∧ w < 2 ^ 53) (h1 : -1100 ≤ two) (h2 : two ≤ 1100) (hq : H q = some (.tup [.int (fbz (s * w) two).1, .int (fbz (s * w) two).2])) :
    t__law_right_9 K D [some (.ref q), some (.int s), a, b, c, d, e, f, some (.int two), some (.int w), none, none] H := by
  have g0 : s * w ≠ 0 := by rcases hs with rfl | rfl <;> omega
  have g1 : (s * w).natAbs < 2 ^ 53 := by rcases hs with rfl | rfl <;> omega
  obtain ⟨a1, a2, a3, a4⟩ := fb_ok g0 g1 h1 h2
  generalize (fbz (s * w) two).1 = u at *
  generalize (fbz (s * w) two).2 = v at *
  unfold t__law_right_9
  walk_at "go"
  refine i_ixT (SqT.of hq) rfl ?_
  walk_at "go"
  refine i_DF a1 ?_
  walk_at "go"
  refine i_ixT (SqT.of hq) rfl ?_
  walk_at "go"
  refine i_DF (by omega) ?_
  walk_at "go"
  refine i_ixT (SqT.of hq) rfl ?_
  walk_at "go"
  refine i_DF (by omega) ?_
  walk_at "go"
  unfold t__law_right_10
  walk_at "go"
  intro l1 H1 n1
  walk_at "go"
  refine i_max0 n1.sqL ?_
  walk_at "go"
  refine ⟨_, 2, _, rfl, by decide, by omega, ?_⟩
  walk_at "go"
  have hq1 := n1.keep [] _ _ (by simp) hq
  refine i_ixT (SqT.of hq1) rfl ?_
  walk_at "go"
  intro l2 H2 n2
  walk_at "go"
  refine i_max0 n2.sqL ?_
  walk_at "go"
  refine ⟨_, 10, _, rfl, by decide, by omega, ?_⟩
  walk_at "go"
  unfold t__law_right_11
  have hq2 := n2.keep [] _ _ (by simp) hq1
  walk_at "go"
  refine i_ixT (SqT.of hq2) rfl ?_
  walk_at "go"
  intro l3 H3 n3
  walk_at "go"
  refine i_max0 n3.sqL ?_
  walk_at "go"
  refine ⟨_, 2, _, rfl, by decide, by omega, ?_⟩
  walk_at "go"
  have hq3 := n3.keep [] _ _ (by simp) hq2
  refine i_ixT (SqT.of hq3) rfl ?_
  walk_at "go"
  intro l4 H4 n4
  walk_at "go"
  refine i_max0 n4.sqL ?_
  walk_at "go"
  refine ⟨_, 10, _, rfl, by decide, by omega, ?_⟩
  walk_at "go"
  unfold t__law_right_12
  walk_at "go"
  rw [decide_eq_true a4]
  exact hD _ ((((n1.keep []).trans (n2.keep [])).trans (n3.keep [])).trans (n4.keep []))
theorem r__law_right {vs : List V} {H : Hp} {Q : VK} {E : XK} (h : sp__law_right K vs H Q E) : t__law_right_0 K { nx := fun _ H' => Q .non H', rt := Q } (start N__law_right vs) H := by
  obtain ⟨pv, pl, pw, one, most, down, field, fraction, hf, rfl, hp, hq⟩ := h
  have b := hf.k.bd
  have h1 := hf.k.one
  have h2 := hf.k.mid
  have far := hf.k.far
  have hd := hf.d
  have hf0 := hf.f0
  have hf1 := hf.f1
  have hr0 := hf.r0
  have hr1 := hf.r1
  unfold t__law_right_0
  walk_at "go"
  refine ⟨1, 2, pl, rfl, by decide, by omega, ?_⟩
  rw [h1]
  walk_at "go"
  unfold t__law_right_1
  walk_at "go"
  refine ⟨1, 2, pw - 1, rfl, by decide, by omega, ?_⟩
  rw [h2]
  walk_at "go"
  unfold t__law_right_2
  walk_at "go"
  rcases hp with ⟨e, rfl⟩ | ⟨e, q, rfl, hq1⟩
  · refine i_DT (by omega) ?_
    unfold t__law_right_2a_0
    walk_at "go"
    exact hq _ (.refl _)
  · refine i_DF (by omega) ?_
    walk_at "go"
    unfold t__law_right_3
    walk_at "go"
    refine i_DF (by intro z; cases z) ?_
    walk_at "go"
    refine i_isiT hq1 ?_
    walk_at "go"
    refine i_lenT (SqT.of hq1) ?_
    walk_at "go"
    refine i_NDF rfl ?_
    walk_at "go"
    unfold t__law_right_4
    walk_at "go"
    refine i_ixT (SqT.of hq1) rfl ?_
    walk_at "go"
    refine i_isiIB ?_
    walk_at "go"
    refine i_ixT (SqT.of hq1) rfl ?_
    walk_at "go"
    refine i_isiIB ?_
    walk_at "go"
    unfold t__law_right_5
    walk_at "go"
    unfold t__law_right_6
    walk_at "go"
    have rest : ∀ two w : Int, two = fT pl most field → w = fW one fraction field → t__law_right_8 K { nx := fun _ H' => Q .non H', rt := Q } [some (.ref q), some (.int (1 - 2 * down)), some (.int fraction), some (.int field), some (.int pl), some (.int pw), some (.int one), some (.int (most / 2 - 1)), some (.int two), some (.int w), none, none] H := by
      intro two w e1 e2
      rw [← e1, ← e2] at hq1
      have bw : 0 ≤ w ∧ w < 2 ^ 53 := by
        rw [e2]
        unfold fW
        split <;> omega
      have bt : -1100 ≤ two ∧ two ≤ 1100 := by
        rw [e1]
        unfold fT
        split <;> omega
      clear e1 e2
      unfold t__law_right_8
      walk_at "go"
      walk_at "D"
      all_goals rename_i hw
      · subst hw
        rw [Int.mul_zero, fbz_zero] at hq1
        unfold t__law_right_8a_0
        walk_at "go"
        intro l H2 n2
        refine i_eqP (SqT.of (n2.keep [] _ _ (by simp) hq1)) n2.sqT ?_
        rw [decide_eq_true ⟨rfl, rfl⟩]
        exact hq _ (n2.keep [])
      · walk_at "go"
        exact rt9 hq (by omega) hw bw bt.1 bt.2 hq1
    unfold t__law_right_7
    walk_at "go"
    walk_at "D"
    all_goals rename_i hz
    · unfold t__law_right_7a_0
      walk_at "go"
      unfold t__law_right_7a_1
      walk_at "go"
      refine rest _ _ ?_ ?_
      · unfold fT
        rw [if_neg (by omega)]
        omega
      · exact (if_neg (by omega)).symm
    · walk_at "go"
      refine rest _ _ ?_ ?_
      · unfold fT
        rw [if_pos (by omega)]
        omega
      · exact (if_pos (by omega)).symm
/-! the law -/
variable {D : Ends} {H : Hp} {p : Addr} {a : Option V} {pl pw one most down field fraction : Int}
theorem e10 {kd : Int} {x : Option V} {pv : V} (hf : Fl pl pw one most down field fraction) (hp : FlP H pv pl most down field (fW one fraction field)) (hD : ∀ H1, Keep [] H H1 → D.nx [a, some (.ref p), some (.int kd), some (.int pl), some (.int pw), some (.int one), some (.int most), some (.int field), some (.int fraction), some (.int down), x, some pv] H1) :
    t_law_1a_10 K D [a, some (.ref p), some (.int kd), some (.int pl), some (.int pw), some (.int one), some (.int most), some (.int field), some (.int fraction), some (.int down), x, some pv] H := by
  unfold t_law_1a_10
  walk_at "go"
  refine ⟨pv, pl, pw, one, most, down, field, fraction, hf, rfl, hp, fun H1 k1 => ?_⟩
  walk_at "go"
  exact hD H1 k1
theorem FlQ.of {Q : VK} {w : Int} (h : ∀ v H1, Keep [] H H1 → FlP H1 v pl most down field w → Q v H1) : FlQ H Q pl most down field w :=
  ⟨fun e => h _ _ (.refl _) (.inl ⟨e, rfl⟩), fun e p H1 n => h _ _ (n.keep []) (.inr ⟨e, p, rfl, n.at_⟩)⟩
theorem e7 {kd : Int} {x y : Option V} (hf : Fl pl pw one most down field fraction) (hk : (kd = 0 ∧ pl = 10) ∨ (kd = 1 ∧ pl = 23) ∨ (kd = 2 ∧ pl = 52))
    (hD : ∀ pv b H1, Keep [] H H1 → D.nx [a, some (.ref p), some (.int kd), some (.int pl), some (.int pw), some (.int one), some (.int most), some (.int field), some (.int fraction), some (.int down), b, some pv] H1) :
    t_law_1a_7 K D [a, some (.ref p), some (.int kd), some (.int pl), some (.int pw), some (.int one), some (.int most), some (.int field), some (.int fraction), some (.int down), x, y] H := by
  have b := hf.k.bd
  have hd := hf.d
  unfold t_law_1a_7
  walk_at "go"
  have hb : ((down * most + field) * one + fraction) = flB one most down field fraction := rfl
  rw [hb]
  unfold t_law_1a_8
  walk_at "go"
  unfold t_law_1a_9
  walk_at "go"
  have hk2 := hf.k
  walk_at "D"
  all_goals rename_i h0
  · unfold t_law_1a_9a_0
    walk_at "go"
    have e : pl = 10 ∧ pw = 5 ∧ one = 1024 ∧ most = 32 := by
      unfold fK at hk2
      omega
    obtain ⟨rfl, rfl, rfl, rfl⟩ := e
    refine ⟨down, field, fraction, hf, rfl, FlQ.of fun v H1 k1 hp => ?_⟩
    walk_at "go"
    exact e10 hf hp fun H2 k2 => hD _ _ _ (k1.trans k2)
  · unfold t_law_1a_9b_0
    walk_at "go"
    walk_at "D"
    all_goals rename_i h1
    · unfold t_law_1a_9b_0a_0
      walk_at "go"
      have e : pl = 23 ∧ pw = 8 ∧ one = 8388608 ∧ most = 256 := by
        unfold fK at hk2
        omega
      obtain ⟨rfl, rfl, rfl, rfl⟩ := e
      refine ⟨down, field, fraction, hf, rfl, FlQ.of fun v H1 k1 hp => ?_⟩
      walk_at "go"
      exact e10 hf hp fun H2 k2 => hD _ _ _ (k1.trans k2)
    · unfold t_law_1a_9b_0b_0
      walk_at "go"
      have e : pl = 52 ∧ pw = 11 ∧ one = 4503599627370496 ∧ most = 2048 := by
        unfold fK at hk2
        omega
      obtain ⟨rfl, rfl, rfl, rfl⟩ := e
      refine ⟨down, field, fraction, hf, rfl, FlQ.of fun v H1 k1 hp => ?_⟩
      walk_at "go"
      exact e10 hf hp fun H2 k2 => hD _ _ _ (k1.trans k2)
theorem e2 {kd : Int} {x1 x2 x3 x4 x5 x6 x7 : Option V} (hk : fK pl pw one most) (hkd : (kd = 0 ∧ pl = 10) ∨ (kd = 1 ∧ pl = 23) ∨ (kd = 2 ∧ pl = 52)) (hd : Dr K p 0 3 H)
    (hD : ∀ l H1, l.length = 9 → Dr K p 0 3 H1 → D.nx (a :: some (.ref p) :: some (.int kd) :: l) H1) :
    t_law_1a_2 K D [a, some (.ref p), some (.int kd), some (.int pl), some (.int pw), x1, x2, x3, x4, x5, x6, x7] H := by
  have b := hk.bd
  unfold t_law_1a_2
  walk_at "go"
  refine ⟨1, 2, pl, rfl, by decide, by omega, ?_⟩
  rw [hk.one]
  walk_at "go"
  unfold t_law_1a_3
  walk_at "go"
  refine ⟨1, 2, pw, rfl, by decide, by omega, ?_⟩
  rw [hk.most]
  walk_at "go"
  unfold t_law_1a_4
  walk_at "go"
  refine ⟨p, 0, 3, 9, rfl, by decide, hd, fun r H1 r0 r1 hd1 k1 => ?_⟩
  walk_at "go"
  refine ⟨p, 0, 3, most, rfl, by omega, hd1, fun r2 H2 r20 r21 hd2 k2 => ?_⟩
  walk_at "go"
  intro l H3 n3
  walk_at "go"
  refine ⟨p, 0, 3, 6, rfl, by decide, hd2.new n3, fun r' H4 r0' r1' hd4 k4 => ?_⟩
  refine i_pick (xs := [0, 1, most - 1, most - 2, most / 2 + r - 4, r2]) hd2 n3 k4 r0' r1' fun field hfi => ?_
  have hfield : 0 ≤ field ∧ field < most := by
    simp at hfi
    omega
  clear hfi
  walk_at "go"
  unfold t_law_1a_5
  walk_at "go"
  refine ⟨p, 0, 3, one, rfl, by omega, hd4, fun r5 H5 r50 r51 hd5 k5 => ?_⟩
  walk_at "go"
  intro l6 H6 n6
  walk_at "go"
  refine ⟨p, 0, 3, 5, rfl, by decide, hd5.new n6, fun r7 H7 r70 r71 hd7 k7 => ?_⟩
  refine i_pick (xs := [0, 1, one - 1, r5, one / 2]) hd5 n6 k7 r70 r71 fun fraction hfr => ?_
  have hfrac : 0 ≤ fraction ∧ fraction < one := by
    simp at hfr
    omega
  clear hfr
  walk_at "go"
  unfold t_law_1a_6
  walk_at "go"
  refine ⟨p, 0, 3, 2, rfl, by decide, hd7, fun down H8 d0 d1 hd8 k8 => ?_⟩
  walk_at "go"
  exact e7 ⟨hk, by omega, hfield.1, hfield.2, hfrac.1, hfrac.2⟩ hkd fun pv b H9 k9 => hD _ _ rfl (hd8.keep k9)
theorem len_law {vs : List V} {H : Hp} {Q : VK} {E : XK} (h : sp_law K vs H Q E) : vs.length = 1 := by obtain ⟨_, _, rfl, _⟩ := h; rfl
theorem nine {l : List (Option V)} (h : l.length = 9) : ∃ x1 x2 x3 x4 x5 x6 x7 x8 x9, l = [x1, x2, x3, x4, x5, x6, x7, x8, x9] := by
  match l, h with
  | [x1, x2, x3, x4, x5, x6, x7, x8, x9], _ => exact ⟨x1, x2, x3, x4, x5, x6, x7, x8, x9, rfl⟩
theorem r_law {vs : List V} {H : Hp} {Q : VK} {E : XK} (h : sp_law K vs H Q E) : t_law_0 K { nx := fun _ H' => Q .non H', rt := Q } (start N_law vs) H := by
  obtain ⟨a, ns, rfl, hs, hl, ho, hq⟩ := h
  unfold t_law_0
  walk_at "go"
  refine ⟨a, ns, 0, rfl, hs, fun p H1 hp k1 hd => ?_⟩
  walk_at "go"
  unfold t_law_1
  walk_at "go"
  refine f_rng (fun i σ H2 => ∃ (k : Option V) (l : List (Option V)), σ = some (.ref a) :: some (.ref p) :: k :: l ∧ l.length = 9 ∧ Dr K p 0 3 H2) ⟨none, _, rfl, rfl, hd⟩ ?_ ?_
  · rintro i σ H2 hi ⟨k, l, rfl, hl9, hd2⟩
    obtain ⟨x1, x2, x3, x4, x5, x6, x7, x8, x9, rfl⟩ := nine hl9
    have hi3 : i = 0 ∨ i = 1 ∨ i = 2 := by
      have : i < 3 := by simpa using hi
      omega
    walk_at "go"
    unfold t_law_1a_0
    walk_at "go"
    intro l1 H3 n3
    walk_at "go"
    have hd3 := hd2.new n3
    have fin : ∀ l H1, l.length = 9 → Dr K p 0 3 H1 → ∃ (k : Option V) (l' : List (Option V)), some (V.ref a) :: some (.ref p) :: some (.int (i : Int)) :: l = some (.ref a) :: some (.ref p) :: k :: l' ∧ l'.length = 9 ∧ Dr K p 0 3 H1 := fun l H1 h1 h2 => ⟨_, l, rfl, h1, h2⟩
    rcases hi3 with rfl | rfl | rfl
    · refine i_ixL n3.sqL (v := .int 10) rfl ?_
      walk_at "go"
      unfold t_law_1a_1
      walk_at "go"
      intro l2 H4 n4
      walk_at "go"
      refine i_ixL n4.sqL (v := .int 5) rfl ?_
      walk_at "go"
      exact e2 (.inl ⟨rfl, rfl, rfl, rfl⟩) (by decide) (hd3.new n4) fin
    · refine i_ixL n3.sqL (v := .int 23) rfl ?_
      walk_at "go"
      unfold t_law_1a_1
      walk_at "go"
      intro l2 H4 n4
      walk_at "go"
      refine i_ixL n4.sqL (v := .int 8) rfl ?_
      walk_at "go"
      exact e2 (.inr (.inl ⟨rfl, rfl, rfl, rfl⟩)) (by decide) (hd3.new n4) fin
    · refine i_ixL n3.sqL (v := .int 52) rfl ?_
      walk_at "go"
      unfold t_law_1a_1
      walk_at "go"
      intro l2 H4 n4
      walk_at "go"
      refine i_ixL n4.sqL (v := .int 11) rfl ?_
      walk_at "go"
      exact e2 (.inr (.inr ⟨rfl, rfl, rfl, rfl⟩)) (by decide) (hd3.new n4) fin
  · rintro σ H2 ⟨k, l, rfl, hl9, hd2⟩
    unfold t_law_2
    walk_at "go"
    exact hq _
end
/-! ### the text by places -/
def top (i : Nat) : Stmt := PySem.Challenge.pw_formsalike_k04_floats.main.body.getD i (.Pass ⟨0, 0, 0, 0⟩)
abbrev s_normal : Stmt := top 1
abbrev s_times : Stmt := top 2
abbrev s_from_binary : Stmt := top 3
abbrev s_decode_float : Stmt := top 5
abbrev s_half : Stmt := top 6
abbrev s_single : Stmt := top 7
abbrev s_double : Stmt := top 8
abbrev s__law_cell : Stmt := top 10
abbrev s__law_numbers : Stmt := top 11
abbrev s__law_state : Stmt := top 12
abbrev s__law_next : Stmt := top 13
abbrev s__law_big : Stmt := top 14
abbrev s__law_times : Stmt := top 15
abbrev s__law_right : Stmt := top 16
abbrev s_law : Stmt := top 17
/-! ### what the walks ask of the module's names -/
structure Txt (K : PySem.W.Frag) (mg : Str → Option Value) : Prop where
  z_abs : mg "abs" = none
  z_bool : mg "bool" = none
  z_int : mg "int" = none
  z_isinstance : mg "isinstance" = none
  z_len : mg "len" = none
  z_max : mg "max" = none
  z_range : mg "range" = none
  z_tuple : mg "tuple" = none
section
variable {P : Program} {w : World} {K : PySem.W.Frag} {mg : Str → Option Value} {base : Heap}
theorem sc_normal : FnScope ["m", "e"] ["m", "e"] (defScope s_normal) := ⟨rfl, rfl, rfl, by decide +kernel, rfl, by decide +kernel, by decide +kernel⟩
theorem ok_normal {f : Addr} {fd : FuncData} (F : FnP K "normal" s_normal f fd) (T : Txt K mg) : FnOk P w K mg base CX0 1 f fd ["m", "e"] (sp_normal K) := by
  refine F.ok sc_normal (fun vs H Q E h => len_normal h) (fun cdv A outer s H vs Q E hr h => ⟨(t_normal_0 K), PSs.nox ?_, r_normal h⟩)
  exact (pss_cons (ps_if (pt_cmpR op_eq (pv 0) pe_int (nomark _)) (pss_one (ps_ret (pe_tup (pa_cons pe_int (pa_cons pe_int pa_nil))))) pss_nil)
      (pss_cons (ps_while PassesOwn.never (pt_cmpR op_eq (pe_op op_mod (pv 0) pe_int) pe_int (nomark _)) (pss_cons (ps_set (i := 0) sc_normal.nd rfl (Or.inl rfl) (pe_op op_fdiv (pv 0) pe_int))
      (pss_one (ps_set (i := 1) sc_normal.nd rfl (Or.inl rfl) (pe_op op_add (pv 1) pe_int)))))
      (pss_one (ps_ret (pe_tup (pa_cons (pv 0) (pa_cons (pv 1) pa_nil)))))))
theorem sc_times : FnScope ["number", "factor", "many", "_"] ["number", "factor", "many"] (defScope s_times) := ⟨rfl, rfl, rfl, by decide +kernel, rfl, by decide +kernel, by decide +kernel⟩
theorem ok_times {f : Addr} {fd : FuncData} (F : FnP K "times" s_times f fd) (T : Txt K mg) : FnOk P w K mg base CX0 1 f fd ["number", "factor", "many"] (sp_times K) := by
  refine F.ok sc_times (fun vs H Q E h => len_times h) (fun cdv A outer s H vs Q E hr h => ⟨(t_times_0 K), PSs.nox ?_, r_times h⟩)
  exact (pss_cons (ps_for PassesOwn.never rfl (pi_range1 (by rfl) T.z_range (pa_cons (pv 2) pa_nil)) (pg_name (i := 3) sc_times.nd rfl (Or.inl rfl)) (pss_one (ps_set (i := 0) sc_times.nd rfl (Or.inl rfl) (pe_op op_mul (pv 0) (pv 1)))))
      (pss_one (ps_ret (pv 0))))
theorem sc_from_binary : FnScope ["m", "two"] ["m", "two"] (defScope s_from_binary) := ⟨rfl, rfl, rfl, by decide +kernel, rfl, by decide +kernel, by decide +kernel⟩
theorem ok_from_binary {f : Addr} {fd : FuncData} (F : FnP K "from_binary" s_from_binary f fd) (T : Txt K mg) (c_normal : Cal P w K mg base 1 "normal" (sp_normal K)) (c_times : Cal P w K mg base 1 "times" (sp_times K)) : FnOk P w K mg base CX0 2 f fd ["m", "two"] (sp_from_binary K) := by
  refine F.ok sc_from_binary (fun vs H Q E h => len_from_binary h) (fun cdv A outer s H vs Q E hr h => ⟨(t_from_binary_0 K), PSs.nox ?_, r_from_binary h⟩)
  exact (pss_cons (ps_if (pt_cmpR op_ge (pv 1) pe_int (nomark _)) (pss_one (ps_ret (pe_callC c_normal (hr.mono (by decide)) (by rfl) (pa_cons (pe_callC c_times (hr.mono (by decide)) (by rfl) (pa_cons (pv 0) (pa_cons pe_int (pa_cons (pv 1) pa_nil)))) (pa_cons pe_int pa_nil))))) pss_nil)
      (pss_one (ps_ret (pe_callC c_normal (hr.mono (by decide)) (by rfl) (pa_cons (pe_callC c_times (hr.mono (by decide)) (by rfl) (pa_cons (pv 0) (pa_cons pe_int (pa_cons (pe_un un_neg (pv 1)) pa_nil)))) (pa_cons (pv 1) pa_nil))))))
theorem sc_decode_float : FnScope ["bits", "places", "powers", "one", "most", "fraction", "power", "sign", "least"] ["bits", "places", "powers"] (defScope s_decode_float) := ⟨rfl, rfl, rfl, by decide +kernel, rfl, by decide +kernel, by decide +kernel⟩
theorem ok_decode_float {f : Addr} {fd : FuncData} (F : FnP K "decode_float" s_decode_float f fd) (T : Txt K mg) (c_from_binary : Cal P w K mg base 2 "from_binary" (sp_from_binary K)) (c_times : Cal P w K mg base 1 "times" (sp_times K)) : FnOk P w K mg base CX0 3 f fd ["bits", "places", "powers"] (sp_decode_float K) := by
  refine F.ok sc_decode_float (fun vs H Q E h => len_decode_float h) (fun cdv A outer s H vs Q E hr h => ⟨(t_decode_float_0 K), PSs.nox ?_, r_decode_float h⟩)
  exact (pss_cons (ps_set (i := 3) sc_decode_float.nd rfl (Or.inl rfl) (pe_callC c_times (hr.mono (by decide)) (by rfl) (pa_cons pe_int (pa_cons pe_int (pa_cons (pv 1) pa_nil)))))
      (pss_cons (ps_set (i := 4) sc_decode_float.nd rfl (Or.inl rfl) (pe_callC c_times (hr.mono (by decide)) (by rfl) (pa_cons pe_int (pa_cons pe_int (pa_cons (pv 2) pa_nil)))))
      (pss_cons (ps_set (i := 5) sc_decode_float.nd rfl (Or.inl rfl) (pe_op op_mod (pv 0) (pv 3)))
      (pss_cons (ps_set (i := 6) sc_decode_float.nd rfl (Or.inl rfl) (pe_op op_mod (pe_op op_fdivW (pv 0) (pv 3)) (pv 4)))
      (pss_cons (ps_set (i := 7) sc_decode_float.nd rfl (Or.inl rfl) (pe_ifExp (pt_cmpR op_eq (pe_op op_fdivW (pv 0) (pe_op op_mul (pv 3) (pv 4))) pe_int (nomark _)) (pe_un un_neg pe_int) pe_int))
      (pss_cons (ps_if (pt_cmpR op_eq (pv 6) (pe_op op_sub (pv 4) pe_int) (nomark _)) (pss_one (ps_ret pe_non)) pss_nil)
      (pss_cons (ps_set (i := 8) sc_decode_float.nd rfl (Or.inl rfl) (pe_op op_sub (pe_op op_sub pe_int (pe_op op_fdiv (pv 4) pe_int)) (pv 1)))
      (pss_cons (ps_if (pt_cmpR op_eq (pv 6) pe_int (nomark _)) (pss_one (ps_ret (pe_callC c_from_binary (hr.mono (by decide)) (by rfl) (pa_cons (pe_op op_mul (pv 7) (pv 5)) (pa_cons (pv 8) pa_nil))))) pss_nil)
      (pss_one (ps_ret (pe_callC c_from_binary (hr.mono (by decide)) (by rfl) (pa_cons (pe_op op_mul (pv 7) (pe_op op_add (pv 3) (pv 5))) (pa_cons (pe_op op_sub (pe_op op_add (pv 8) (pv 6)) pe_int) pa_nil)))))))))))))
theorem sc_half : FnScope ["bits"] ["bits"] (defScope s_half) := ⟨rfl, rfl, rfl, by decide +kernel, rfl, by decide +kernel, by decide +kernel⟩
theorem ok_half {f : Addr} {fd : FuncData} (F : FnP K "half" s_half f fd) (T : Txt K mg) (c_decode_float : Cal P w K mg base 3 "decode_float" (sp_decode_float K)) : FnOk P w K mg base CX0 4 f fd ["bits"] (sp_half K) := by
  refine F.ok sc_half (fun vs H Q E h => len_half h) (fun cdv A outer s H vs Q E hr h => ⟨(t_half_0 K), PSs.nox ?_, r_half h⟩)
  exact (pss_one (ps_ret (pe_callC c_decode_float (hr.mono (by decide)) (by rfl) (pa_cons (pv 0) (pa_cons pe_int (pa_cons pe_int pa_nil))))))
theorem sc_single : FnScope ["bits"] ["bits"] (defScope s_single) := ⟨rfl, rfl, rfl, by decide +kernel, rfl, by decide +kernel, by decide +kernel⟩
theorem ok_single {f : Addr} {fd : FuncData} (F : FnP K "single" s_single f fd) (T : Txt K mg) (c_decode_float : Cal P w K mg base 3 "decode_float" (sp_decode_float K)) : FnOk P w K mg base CX0 4 f fd ["bits"] (sp_single K) := by
  refine F.ok sc_single (fun vs H Q E h => len_single h) (fun cdv A outer s H vs Q E hr h => ⟨(t_single_0 K), PSs.nox ?_, r_single h⟩)
  exact (pss_one (ps_ret (pe_callC c_decode_float (hr.mono (by decide)) (by rfl) (pa_cons (pv 0) (pa_cons pe_int (pa_cons pe_int pa_nil))))))
theorem sc_double : FnScope ["bits"] ["bits"] (defScope s_double) := ⟨rfl, rfl, rfl, by decide +kernel, rfl, by decide +kernel, by decide +kernel⟩
theorem ok_double {f : Addr} {fd : FuncData} (F : FnP K "double" s_double f fd) (T : Txt K mg) (c_decode_float : Cal P w K mg base 3 "decode_float" (sp_decode_float K)) : FnOk P w K mg base CX0 4 f fd ["bits"] (sp_double K) := by
  refine F.ok sc_double (fun vs H Q E h => len_double h) (fun cdv A outer s H vs Q E hr h => ⟨(t_double_0 K), PSs.nox ?_, r_double h⟩)
  exact (pss_one (ps_ret (pe_callC c_decode_float (hr.mono (by decide)) (by rfl) (pa_cons (pv 0) (pa_cons pe_int (pa_cons pe_int pa_nil))))))
theorem sc__law_cell : FnScope ["_law_script", "_law_k"] ["_law_script", "_law_k"] (defScope s__law_cell) := ⟨rfl, rfl, rfl, by decide +kernel, rfl, by decide +kernel, by decide +kernel⟩
theorem ok__law_cell {f : Addr} {fd : FuncData} (F : FnP K "_law_cell" s__law_cell f fd) (T : Txt K mg) : FnOk P w K mg base CX0 1 f fd ["_law_script", "_law_k"] (sp__law_cell K) := by
  refine F.ok sc__law_cell (fun vs H Q E h => len__law_cell h) (fun cdv A outer s H vs Q E hr h => ⟨(t__law_cell_0 K), PSs.nox ?_, r__law_cell h⟩)
  exact (pss_cons (ps_if (pt_cmpR op_lt (pv 1) (pe_callB call_len_seq (by rfl) T.z_len (by decide +kernel) (pa_cons (pv 0) pa_nil)) (nomark _)) (pss_one (ps_ret (pe_ix ix_list (pv 0) (pv 1) (fun _ _ => rfl)))) pss_nil)
      (pss_one (ps_ret pe_int)))
theorem sc__law_numbers : FnScope ["_law_cell_here", "_law_many", "_law_rest", "_law_size", "_law_numbers_here", "_law_k", "_law_mixed"] ["_law_cell_here", "_law_many"] (defScope s__law_numbers) := ⟨rfl, rfl, rfl, by decide +kernel, rfl, by decide +kernel, by decide +kernel⟩
theorem ok__law_numbers {f : Addr} {fd : FuncData} (F : FnP K "_law_numbers" s__law_numbers f fd) (T : Txt K mg) : FnOk P w K mg base CX0 1 f fd ["_law_cell_here", "_law_many"] (sp__law_numbers K) := by
  refine F.ok sc__law_numbers (fun vs H Q E h => len__law_numbers h) (fun cdv A outer s H vs Q E hr h => ⟨(t__law_numbers_0 K), PSs.nox ?_, r__law_numbers h⟩)
  exact (pss_cons (ps_set (i := 2) sc__law_numbers.nd rfl (Or.inl rfl) (pe_callB call_abs (by rfl) T.z_abs (by decide +kernel) (pa_cons (pv 0) pa_nil)))
      (pss_cons (ps_set (i := 3) sc__law_numbers.nd rfl (Or.inl rfl) (pv 2))
      (pss_cons (ps_set (i := 4) sc__law_numbers.nd rfl (Or.inl rfl) (pe_lst pa_nil))
      (pss_cons (ps_for PassesOwn.never rfl (pi_range1 (by rfl) T.z_range (pa_cons (pv 1) pa_nil)) (pg_name (i := 5) sc__law_numbers.nd rfl (Or.inl rfl)) (pss_one (ps_if (PW.pt (pw_and (pt_cmpR op_ge (pv 3) (pe_op op_pow pe_int pe_int) (nomark _)) (pw_and1 (pt_cmpR op_gt (pv 2) pe_int (nomark _))))) (pss_cons (ps_expr (pe_bm PySem.F.plainAttrs_list PySem.F.slot_list_append PySem.F.type_list_append mt_append (pv 4) (pa_cons (pe_op op_mod (pe_callTy call_int1 (by rfl) T.z_int (by decide +kernel) (pa_cons (pv 2) pa_nil)) pe_int) pa_nil)))
      (pss_one (ps_set (i := 2) sc__law_numbers.nd rfl (Or.inl rfl) (pe_op op_fdiv (pv 2) pe_int)))) (pss_cons (ps_set (i := 6) sc__law_numbers.nd rfl (Or.inl rfl) (pe_op op_mod (pe_callTy call_int1 (by rfl) T.z_int (by decide +kernel) (pa_cons (pe_op op_add (pe_op op_add (pe_op op_mul (pv 3) pe_int) (pe_op op_mul (pv 5) pe_int)) pe_int) pa_nil)) pe_int))
      (pss_cons (ps_set (i := 6) sc__law_numbers.nd rfl (Or.inl rfl) (pe_op op_mod (pe_callTy call_int1 (by rfl) T.z_int (by decide +kernel) (pa_cons (pe_op op_add (pe_op op_add (pe_op op_mul (pv 6) (pv 6)) (pe_op op_mul pe_int (pv 5))) pe_int) pa_nil)) pe_int))
      (pss_one (ps_expr (pe_bm PySem.F.plainAttrs_list PySem.F.slot_list_append PySem.F.type_list_append mt_append (pv 4) (pa_cons (pe_op op_mod (pe_callTy call_int1 (by rfl) T.z_int (by decide +kernel) (pa_cons (pe_op op_fdiv (pv 6) pe_int) pa_nil)) pe_int) pa_nil)))))))))
      (pss_one (ps_ret (pv 4)))))))
theorem sc__law_state : FnScope ["_law_script", "_law_left", "_law_numbers_here", "_law_parted", "_law_k"] ["_law_script", "_law_left"] (defScope s__law_state) := ⟨rfl, rfl, rfl, by decide +kernel, rfl, by decide +kernel, by decide +kernel⟩
theorem ok__law_state {f : Addr} {fd : FuncData} (F : FnP K "_law_state" s__law_state f fd) (T : Txt K mg) (c__law_cell : Cal P w K mg base 1 "_law_cell" (sp__law_cell K)) (c__law_numbers : Cal P w K mg base 1 "_law_numbers" (sp__law_numbers K)) : FnOk P w K mg base CX0 2 f fd ["_law_script", "_law_left"] (sp__law_state K) := by
  refine F.ok sc__law_state (fun vs H Q E h => len__law_state h) (fun cdv A outer s H vs Q E hr h => ⟨(t__law_state_0 K), PSs.nox ?_, r__law_state h⟩)
  exact (pss_cons (ps_set (i := 2) sc__law_state.nd rfl (Or.inl rfl) (pe_lst pa_nil))
      (pss_cons (ps_setLc (i := 3) (own := [("_law_k", 4)]) (g := (gName 4)) (tt := tYes) (te := (tCall (sp__law_numbers K) [] E0 (tCons (tCall (sp__law_cell K) [] E0 (tCons (tVar 0) (tCons (tVar 4) tNil))) (tCons (tC (.int 40)) tNil)))) (wi := (iRng1 (tCons (tC (.int 3)) tNil))) rfl sc__law_state.nd rfl rfl (sw_true rfl rfl rfl (by decide +kernel)) (pi_range1 (by rfl) T.z_range (pa_cons pe_int pa_nil)) (blkOk_by (N := ["_law_script", "_law_left", "_law_numbers_here", "_law_parted", "_law_k"]) (sc := defScope s__law_state) (by decide +kernel)) (fun _ _ _ _ _ => (pg_name (i := 4) sc__law_state.nd rfl (Or.inl rfl))) (fun _ _ _ _ _ => pts_nil) (fun _ _ _ _ _ => (pe_callC c__law_numbers (hr.mono (by decide)) (by rfl) (pa_cons (pe_callC c__law_cell (hr.mono (by decide)) (by rfl) (pa_cons (pv 0) (pa_cons (pv 4) pa_nil))) (pa_cons pe_int pa_nil)))))
      (pss_cons (ps_for PassesOwn.never rfl (pi_range1 (by rfl) T.z_range (pa_cons pe_int pa_nil)) (pg_name (i := 4) sc__law_state.nd rfl (Or.inl rfl)) (pss_cons (ps_expr (pe_bm PySem.F.plainAttrs_list PySem.F.slot_list_append PySem.F.type_list_append mt_append (pv 2) (pa_cons (pe_ix ix_list (pe_ix ix_list (pv 3) pe_int (fun _ _ => rfl)) (pv 4) (fun _ _ => rfl)) pa_nil)))
      (pss_cons (ps_expr (pe_bm PySem.F.plainAttrs_list PySem.F.slot_list_append PySem.F.type_list_append mt_append (pv 2) (pa_cons (pe_ix ix_list (pe_ix ix_list (pv 3) pe_int (fun _ _ => rfl)) (pv 4) (fun _ _ => rfl)) pa_nil)))
      (pss_one (ps_expr (pe_bm PySem.F.plainAttrs_list PySem.F.slot_list_append PySem.F.type_list_append mt_append (pv 2) (pa_cons (pe_ix ix_list (pe_ix ix_list (pv 3) pe_int (fun _ _ => rfl)) (pv 4) (fun _ _ => rfl)) pa_nil)))))))
      (pss_one (ps_ret (pe_lst (pa_cons (pv 2) (pa_cons pe_int (pa_cons (pv 1) (pa_cons (pv 0) (pa_cons pe_int pa_nil)))))))))))
theorem sc__law_next : FnScope ["_law_state_here", "_law_many", "_law_at"] ["_law_state_here", "_law_many"] (defScope s__law_next) := ⟨rfl, rfl, rfl, by decide +kernel, rfl, by decide +kernel, by decide +kernel⟩
theorem ok__law_next {f : Addr} {fd : FuncData} (F : FnP K "_law_next" s__law_next f fd) (T : Txt K mg) : FnOk P w K mg base CX0 1 f fd ["_law_state_here", "_law_many"] (sp__law_next K) := by
  refine F.ok sc__law_next (fun vs H Q E h => len__law_next h) (fun cdv A outer s H vs Q E hr h => ⟨(t__law_next_0 K), PSs.nox ?_, r__law_next h⟩)
  exact (pss_cons (ps_set (i := 2) sc__law_next.nd rfl (Or.inl rfl) (pe_ix ix_list (pv 0) pe_int (fun _ _ => rfl)))
      (pss_cons (ps_asg (pe_op op_add (pv 2) pe_int) (pg_sub (pv 0) pe_int set_list))
      (pss_one (ps_ret (pe_op op_mod (pe_callTy call_int1 (by rfl) T.z_int (by decide +kernel) (pa_cons (pe_op op_add (pe_ix ix_list (pe_ix ix_list (pv 0) pe_int (fun _ _ => rfl)) (pe_op op_mod (pv 2) pe_int) (fun _ _ => rfl)) (pe_op op_mul pe_int (pe_op op_fdiv (pv 2) pe_int))) pa_nil)) (pv 1))))))
theorem sc__law_big : FnScope ["_law_state_here", "_law_many", "_law_cell_here"] ["_law_state_here", "_law_many"] (defScope s__law_big) := ⟨rfl, rfl, rfl, by decide +kernel, rfl, by decide +kernel, by decide +kernel⟩
theorem ok__law_big {f : Addr} {fd : FuncData} (F : FnP K "_law_big" s__law_big f fd) (T : Txt K mg) (c__law_cell : Cal P w K mg base 1 "_law_cell" (sp__law_cell K)) (c__law_next : Cal P w K mg base 1 "_law_next" (sp__law_next K)) : FnOk P w K mg base CX0 2 f fd ["_law_state_here", "_law_many"] (sp__law_big K) := by
  refine F.ok sc__law_big (fun vs H Q E h => len__law_big h) (fun cdv A outer s H vs Q E hr h => ⟨(t__law_big_0 K), PSs.nox ?_, r__law_big h⟩)
  exact (pss_cons (ps_set (i := 2) sc__law_big.nd rfl (Or.inl rfl) (pe_callB call_abs (by rfl) T.z_abs (by decide +kernel) (pa_cons (pe_callC c__law_cell (hr.mono (by decide)) (by rfl) (pa_cons (pe_ix ix_list (pv 0) pe_int (fun _ _ => rfl)) (pa_cons (pe_op op_add pe_int (pe_callC c__law_next (hr.mono (by decide)) (by rfl) (pa_cons (pv 0) (pa_cons pe_int pa_nil)))) pa_nil))) pa_nil)))
      (pss_one (ps_ret (pe_op op_mod (pe_callTy call_int1 (by rfl) T.z_int (by decide +kernel) (pa_cons (pe_op op_add (pe_op op_mul (pv 2) pe_int) (pe_callC c__law_next (hr.mono (by decide)) (by rfl) (pa_cons (pv 0) (pa_cons pe_int pa_nil)))) pa_nil)) (pv 1)))))
theorem sc__law_times : FnScope ["_law_number", "_law_factor", "_law_many", "_law_k"] ["_law_number", "_law_factor", "_law_many"] (defScope s__law_times) := ⟨rfl, rfl, rfl, by decide +kernel, rfl, by decide +kernel, by decide +kernel⟩
theorem ok__law_times {f : Addr} {fd : FuncData} (F : FnP K "_law_times" s__law_times f fd) (T : Txt K mg) : FnOk P w K mg base CX0 1 f fd ["_law_number", "_law_factor", "_law_many"] (sp__law_times K) := by
  refine F.ok sc__law_times (fun vs H Q E h => len__law_times h) (fun cdv A outer s H vs Q E hr h => ⟨(t__law_times_0 K), PSs.nox ?_, r__law_times h⟩)
  exact (pss_cons (ps_for PassesOwn.never rfl (pi_range1 (by rfl) T.z_range (pa_cons (pv 2) pa_nil)) (pg_name (i := 3) sc__law_times.nd rfl (Or.inl rfl)) (pss_one (ps_set (i := 0) sc__law_times.nd rfl (Or.inl rfl) (pe_op op_mul (pv 0) (pv 1)))))
      (pss_one (ps_ret (pv 0))))
theorem sc__law_right : FnScope ["_law_pair", "_law_sign", "_law_fraction", "_law_field", "_law_places", "_law_powers", "_law_one", "_law_middle", "_law_two", "_law_worth", "_law_left", "_law_right_here"] ["_law_pair", "_law_sign", "_law_fraction", "_law_field", "_law_places", "_law_powers"] (defScope s__law_right) := ⟨rfl, rfl, rfl, by decide +kernel, rfl, by decide +kernel, by decide +kernel⟩
theorem ok__law_right {f : Addr} {fd : FuncData} (F : FnP K "_law_right" s__law_right f fd) (T : Txt K mg) (c__law_times : Cal P w K mg base 1 "_law_times" (sp__law_times K)) : FnOk P w K mg base CX0 2 f fd ["_law_pair", "_law_sign", "_law_fraction", "_law_field", "_law_places", "_law_powers"] (sp__law_right K) := by
  refine F.ok sc__law_right (fun vs H Q E h => len__law_right h) (fun cdv A outer s H vs Q E hr h => ⟨(t__law_right_0 K), PSs.nox ?_, r__law_right h⟩)
  have hu64 := hr.units
  exact (pss_cons (ps_set (i := 6) sc__law_right.nd rfl (Or.inl rfl) (pe_callC c__law_times (hr.mono (by decide)) (by rfl) (pa_cons pe_int (pa_cons pe_int (pa_cons (pv 4) pa_nil)))))
      (pss_cons (ps_set (i := 7) sc__law_right.nd rfl (Or.inl rfl) (pe_op op_sub (pe_callC c__law_times (hr.mono (by decide)) (by rfl) (pa_cons pe_int (pa_cons pe_int (pa_cons (pe_op op_sub (pv 5) pe_int) pa_nil)))) pe_int))
      (pss_cons (ps_if (pt_cmpR op_eq (pv 3) (pe_op op_add (pe_op op_mul pe_int (pv 7)) pe_int) (nomark _)) (pss_one (ps_ret (pe_cmpR op_isN (pv 0) pe_non (nomark _)))) pss_nil)
      (pss_cons (ps_if (PW.pt (pw_or (pt_cmpR op_isN (pv 0) pe_non (nomark _)) (pw_or (pt_not (pt_val (pe_callB call_isi (by rfl) T.z_isinstance (by decide +kernel) (pa_cons (pv 0) (pa_cons (pe_bltn (v := .ty "tuple") (by rfl) T.z_tuple (by decide +kernel) rfl) pa_nil))))) (pw_or1 (pt_cmpR op_ne (pe_callB call_len_seq (by rfl) T.z_len (by decide +kernel) (pa_cons (pv 0) pa_nil)) pe_int (nomark _)))))) (pss_one (ps_ret pe_bl)) pss_nil)
      (pss_cons (ps_if (PW.pt (pw_or (pt_val (pe_callB call_isi (by rfl) T.z_isinstance (by decide +kernel) (pa_cons (pe_ix ix_tup (pv 0) pe_int (fun _ _ => rfl)) (pa_cons (pe_bltn (v := .ty "bool") (by rfl) T.z_bool (by decide +kernel) rfl) pa_nil)))) (pw_or1 (pt_val (pe_callB call_isi (by rfl) T.z_isinstance (by decide +kernel) (pa_cons (pe_ix ix_tup (pv 0) pe_int (fun _ _ => rfl)) (pa_cons (pe_bltn (v := .ty "bool") (by rfl) T.z_bool (by decide +kernel) rfl) pa_nil))))))) (pss_one (ps_ret pe_bl)) pss_nil)
      (pss_cons (ps_set (i := 8) sc__law_right.nd rfl (Or.inl rfl) (pe_op op_sub (pe_op op_sub pe_int (pv 7)) (pv 4)))
      (pss_cons (ps_set (i := 9) sc__law_right.nd rfl (Or.inl rfl) (pv 2))
      (pss_cons (ps_if (pt_cmpR op_gt (pv 3) pe_int (nomark _)) (pss_cons (ps_set (i := 8) sc__law_right.nd rfl (Or.inl rfl) (pe_op op_sub (pe_op op_sub (pv 3) (pv 7)) (pv 4)))
      (pss_one (ps_set (i := 9) sc__law_right.nd rfl (Or.inl rfl) (pe_op op_add (pv 6) (pv 2))))) pss_nil)
      (pss_cons (ps_if (pt_cmpR op_eq (pv 9) pe_int (nomark _)) (pss_one (ps_ret (pe_cmpR (op_eqD hu64) (pv 0) (pe_tup (pa_cons pe_int (pa_cons pe_int pa_nil))) (nomark _)))) pss_nil)
      (pss_cons (ps_if (PW.pt (pw_or (pt_cmpR op_eq (pe_op op_mod (pe_ix ix_tup (pv 0) pe_int (fun _ _ => rfl)) pe_int) pe_int (nomark _)) (pw_or (pt_cmpR op_lt (pe_ix ix_tup (pv 0) pe_int (fun _ _ => rfl)) (pe_un un_neg pe_int) (nomark _)) (pw_or1 (pt_cmpR op_gt (pe_ix ix_tup (pv 0) pe_int (fun _ _ => rfl)) pe_int (nomark _)))))) (pss_one (ps_ret pe_bl)) pss_nil)
      (pss_cons (ps_set (i := 10) sc__law_right.nd rfl (Or.inl rfl) (pe_callC c__law_times (hr.mono (by decide)) (by rfl) (pa_cons (pe_callC c__law_times (hr.mono (by decide)) (by rfl) (pa_cons (pe_op op_mul (pv 1) (pv 9)) (pa_cons pe_int (pa_cons (pe_callB (cr_max rfl) (by rfl) T.z_max (by decide +kernel) (pa_cons (pe_lst (pa_cons pe_int (pa_cons (pv 8) pa_nil))) pa_nil)) pa_nil)))) (pa_cons pe_int (pa_cons (pe_callB (cr_max rfl) (by rfl) T.z_max (by decide +kernel) (pa_cons (pe_lst (pa_cons pe_int (pa_cons (pe_un un_neg (pe_ix ix_tup (pv 0) pe_int (fun _ _ => rfl))) pa_nil))) pa_nil)) pa_nil)))))
      (pss_cons (ps_set (i := 11) sc__law_right.nd rfl (Or.inl rfl) (pe_callC c__law_times (hr.mono (by decide)) (by rfl) (pa_cons (pe_callC c__law_times (hr.mono (by decide)) (by rfl) (pa_cons (pe_ix ix_tup (pv 0) pe_int (fun _ _ => rfl)) (pa_cons pe_int (pa_cons (pe_callB (cr_max rfl) (by rfl) T.z_max (by decide +kernel) (pa_cons (pe_lst (pa_cons pe_int (pa_cons (pe_un un_neg (pv 8)) pa_nil))) pa_nil)) pa_nil)))) (pa_cons pe_int (pa_cons (pe_callB (cr_max rfl) (by rfl) T.z_max (by decide +kernel) (pa_cons (pe_lst (pa_cons pe_int (pa_cons (pe_ix ix_tup (pv 0) pe_int (fun _ _ => rfl)) pa_nil))) pa_nil)) pa_nil)))))
      (pss_one (ps_ret (pe_cmpR op_eq (pv 10) (pv 11) (nomark _))))))))))))))))
theorem sc_law : FnScope ["_law_script", "_law_state_here", "_law_kind", "_law_places", "_law_powers", "_law_one", "_law_most", "_law_field", "_law_fraction", "_law_down", "_law_bits", "_law_pair"] ["_law_script"] (defScope s_law) := ⟨rfl, rfl, rfl, by decide +kernel, rfl, by decide +kernel, by decide +kernel⟩
theorem ok_law {f : Addr} {fd : FuncData} (F : FnP K "law" s_law f fd) (T : Txt K mg) (c__law_big : Cal P w K mg base 2 "_law_big" (sp__law_big K)) (c__law_next : Cal P w K mg base 1 "_law_next" (sp__law_next K)) (c__law_right : Cal P w K mg base 2 "_law_right" (sp__law_right K)) (c__law_state : Cal P w K mg base 2 "_law_state" (sp__law_state K)) (c__law_times : Cal P w K mg base 1 "_law_times" (sp__law_times K)) (c_double : Cal P w K mg base 4 "double" (sp_double K)) (c_half : Cal P w K mg base 4 "half" (sp_half K)) (c_single : Cal P w K mg base 4 "single" (sp_single K)) : FnOk P w K mg base CX0 5 f fd ["_law_script"] (sp_law K) := by
  refine F.ok sc_law (fun vs H Q E h => len_law h) (fun cdv A outer s H vs Q E hr h => ⟨(t_law_0 K), PSs.nox ?_, r_law h⟩)
  exact (pss_cons (ps_set (i := 1) sc_law.nd rfl (Or.inl rfl) (pe_callC c__law_state (hr.mono (by decide)) (by rfl) (pa_cons (pv 0) (pa_cons pe_int pa_nil))))
      (pss_cons (ps_for PassesOwn.never rfl (pi_range1 (by rfl) T.z_range (pa_cons pe_int pa_nil)) (pg_name (i := 2) sc_law.nd rfl (Or.inl rfl)) (pss_cons (ps_set (i := 3) sc_law.nd rfl (Or.inl rfl) (pe_ix ix_list (pe_lst (pa_cons pe_int (pa_cons pe_int (pa_cons pe_int pa_nil)))) (pv 2) (fun _ _ => rfl)))
      (pss_cons (ps_set (i := 4) sc_law.nd rfl (Or.inl rfl) (pe_ix ix_list (pe_lst (pa_cons pe_int (pa_cons pe_int (pa_cons pe_int pa_nil)))) (pv 2) (fun _ _ => rfl)))
      (pss_cons (ps_set (i := 5) sc_law.nd rfl (Or.inl rfl) (pe_callC c__law_times (hr.mono (by decide)) (by rfl) (pa_cons pe_int (pa_cons pe_int (pa_cons (pv 3) pa_nil)))))
      (pss_cons (ps_set (i := 6) sc_law.nd rfl (Or.inl rfl) (pe_callC c__law_times (hr.mono (by decide)) (by rfl) (pa_cons pe_int (pa_cons pe_int (pa_cons (pv 4) pa_nil)))))
      (pss_cons (ps_set (i := 7) sc_law.nd rfl (Or.inl rfl) (pe_ix ix_list (pe_lst (pa_cons pe_int (pa_cons pe_int (pa_cons (pe_op op_sub (pv 6) pe_int) (pa_cons (pe_op op_sub (pv 6) pe_int) (pa_cons (pe_op op_sub (pe_op op_add (pe_op op_fdiv (pv 6) pe_int) (pe_callC c__law_next (hr.mono (by decide)) (by rfl) (pa_cons (pv 1) (pa_cons pe_int pa_nil)))) pe_int) (pa_cons (pe_callC c__law_big (hr.mono (by decide)) (by rfl) (pa_cons (pv 1) (pa_cons (pv 6) pa_nil))) pa_nil))))))) (pe_callC c__law_next (hr.mono (by decide)) (by rfl) (pa_cons (pv 1) (pa_cons pe_int pa_nil))) (fun _ _ => rfl)))
      (pss_cons (ps_set (i := 8) sc_law.nd rfl (Or.inl rfl) (pe_ix ix_list (pe_lst (pa_cons pe_int (pa_cons pe_int (pa_cons (pe_op op_sub (pv 5) pe_int) (pa_cons (pe_callC c__law_big (hr.mono (by decide)) (by rfl) (pa_cons (pv 1) (pa_cons (pv 5) pa_nil))) (pa_cons (pe_op op_fdiv (pv 5) pe_int) pa_nil)))))) (pe_callC c__law_next (hr.mono (by decide)) (by rfl) (pa_cons (pv 1) (pa_cons pe_int pa_nil))) (fun _ _ => rfl)))
      (pss_cons (ps_set (i := 9) sc_law.nd rfl (Or.inl rfl) (pe_callC c__law_next (hr.mono (by decide)) (by rfl) (pa_cons (pv 1) (pa_cons pe_int pa_nil))))
      (pss_cons (ps_set (i := 10) sc_law.nd rfl (Or.inl rfl) (pe_op op_add (pe_op op_mul (pe_op op_add (pe_op op_mul (pv 9) (pv 6)) (pv 7)) (pv 5)) (pv 8)))
      (pss_cons (ps_set (i := 11) sc_law.nd rfl (Or.inl rfl) pe_non)
      (pss_cons (ps_if (pt_cmpR op_eq (pv 2) pe_int (nomark _)) (pss_one (ps_set (i := 11) sc_law.nd rfl (Or.inl rfl) (pe_callC c_half (hr.mono (by decide)) (by rfl) (pa_cons (pv 10) pa_nil)))) (pss_one (ps_if (pt_cmpR op_eq (pv 2) pe_int (nomark _)) (pss_one (ps_set (i := 11) sc_law.nd rfl (Or.inl rfl) (pe_callC c_single (hr.mono (by decide)) (by rfl) (pa_cons (pv 10) pa_nil)))) (pss_one (ps_set (i := 11) sc_law.nd rfl (Or.inl rfl) (pe_callC c_double (hr.mono (by decide)) (by rfl) (pa_cons (pv 10) pa_nil)))))))
      (pss_one (ps_if (pt_not (pt_val (pe_callC c__law_right (hr.mono (by decide)) (by rfl) (pa_cons (pv 11) (pa_cons (pe_op op_sub pe_int (pe_op op_mul pe_int (pv 9))) (pa_cons (pv 8) (pa_cons (pv 7) (pa_cons (pv 3) (pa_cons (pv 4) pa_nil))))))))) (pss_one (ps_ret pe_bl)) pss_nil)))))))))))))
      (pss_one (ps_ret pe_bl))))
end
/-! ### the head -/
def d_normal : He.DefD := ⟨("normal", none), "normal", "normal", defArgs s_normal, defBody s_normal, defScope s_normal, [], []⟩
def d_times : He.DefD := ⟨("times", none), "times", "times", defArgs s_times, defBody s_times, defScope s_times, [], []⟩
def d_from_binary : He.DefD := ⟨("from_binary", none), "from_binary", "from_binary", defArgs s_from_binary, defBody s_from_binary, defScope s_from_binary, [], []⟩
def d_decode_float : He.DefD := ⟨("decode_float", none), "decode_float", "decode_float", defArgs s_decode_float, defBody s_decode_float, defScope s_decode_float, [], []⟩
def d_half : He.DefD := ⟨("half", none), "half", "half", defArgs s_half, defBody s_half, defScope s_half, [], []⟩
def d_single : He.DefD := ⟨("single", none), "single", "single", defArgs s_single, defBody s_single, defScope s_single, [], []⟩
def d_double : He.DefD := ⟨("double", none), "double", "double", defArgs s_double, defBody s_double, defScope s_double, [], []⟩
def d__law_cell : He.DefD := ⟨("_law_cell", none), "_law_cell", "_law_cell", defArgs s__law_cell, defBody s__law_cell, defScope s__law_cell, [], []⟩
def d__law_numbers : He.DefD := ⟨("_law_numbers", none), "_law_numbers", "_law_numbers", defArgs s__law_numbers, defBody s__law_numbers, defScope s__law_numbers, [], []⟩
def d__law_state : He.DefD := ⟨("_law_state", none), "_law_state", "_law_state", defArgs s__law_state, defBody s__law_state, defScope s__law_state, [], []⟩
def d__law_next : He.DefD := ⟨("_law_next", none), "_law_next", "_law_next", defArgs s__law_next, defBody s__law_next, defScope s__law_next, [], []⟩
def d__law_big : He.DefD := ⟨("_law_big", none), "_law_big", "_law_big", defArgs s__law_big, defBody s__law_big, defScope s__law_big, [], []⟩
def d__law_times : He.DefD := ⟨("_law_times", none), "_law_times", "_law_times", defArgs s__law_times, defBody s__law_times, defScope s__law_times, [], []⟩
def d__law_right : He.DefD := ⟨("_law_right", none), "_law_right", "_law_right", defArgs s__law_right, defBody s__law_right, defScope s__law_right, [], []⟩
def d_law : He.DefD := ⟨("law", none), "law", "law", defArgs s_law, defBody s_law, defScope s_law, [], []⟩
def fn : List He.DefD := [d_normal, d_times, d_from_binary, d_decode_float, d_half, d_single, d_double, d__law_cell, d__law_numbers, d__law_state, d__law_next, d__law_big, d__law_times, d__law_right, d_law]
def fa : List He.Fa := [.free "abs", .free "bool", .free "int", .free "isinstance", .free "len", .free "max", .free "range", .free "tuple", .glo "normal", .glo "times", .glo "from_binary", .glo "decode_float", .glo "half", .glo "single", .glo "double", .glo "_law_cell", .glo "_law_numbers", .glo "_law_state", .glo "_law_next", .glo "_law_big", .glo "_law_times", .glo "_law_right", .glo "law"]
abbrev R : PySem.W.OpenRow := PySem.W.OpenLaw.row PySem.Challenge.rw_formsalike_k04_floats
abbrev hk : PySem.W.Hook := He.hookD 6 fa fn
def ob (s : PySem.W.SharedT) : He.AlD := He.obsDG 6 fa fn (HandSHeadRun.getT s)
theorem ob_eq (s : PySem.W.SharedT) : ob s = hk.obs s.abs := He.obsDG_eq (HandSHeadRun.getT_eq s)
def loose : List Str := (["__name__", "normal", "times", "from_binary", "decode_float", "half", "single", "double", "_law_cell", "_law_numbers", "_law_state", "_law_next", "_law_big", "_law_times", "_law_right"] : List Str)
theorem run (w : World) : HandSHeadRun.RunEq R (PySem.W.view R.prog [17]) hk ob 4000 loose w := by
  intro os
  kernel_rfl
theorem facts {P : Program} {w : World} {K : PySem.W.Frag} {h : Heap} {mg : Str → Option Value} {f : Addr} (X : K.In h) (G : h.Ns mainGlobals mg) (hfa : mg ("law" : Str) = some (.ref f)) (c : He.SaysD fa fn K) :
    ∃ fd : FuncData, (∀ (s : Shared) (v : Value), BindsTo s fd ⟨[v], []⟩ [("_law_script", v)]) ∧ ∀ base : Heap, K.In base → base.Ns mainGlobals mg → FnOk P w K mg base CX0 5 f fd ["_law_script"] (sp_law K) := by
  obtain ⟨fd_normal, F_normal⟩ := c.def_ 0 (d := d_normal) rfl
  obtain ⟨fd_times, F_times⟩ := c.def_ 1 (d := d_times) rfl
  obtain ⟨fd_from_binary, F_from_binary⟩ := c.def_ 2 (d := d_from_binary) rfl
  obtain ⟨fd_decode_float, F_decode_float⟩ := c.def_ 3 (d := d_decode_float) rfl
  obtain ⟨fd_half, F_half⟩ := c.def_ 4 (d := d_half) rfl
  obtain ⟨fd_single, F_single⟩ := c.def_ 5 (d := d_single) rfl
  obtain ⟨fd_double, F_double⟩ := c.def_ 6 (d := d_double) rfl
  obtain ⟨fd__law_cell, F__law_cell⟩ := c.def_ 7 (d := d__law_cell) rfl
  obtain ⟨fd__law_numbers, F__law_numbers⟩ := c.def_ 8 (d := d__law_numbers) rfl
  obtain ⟨fd__law_state, F__law_state⟩ := c.def_ 9 (d := d__law_state) rfl
  obtain ⟨fd__law_next, F__law_next⟩ := c.def_ 10 (d := d__law_next) rfl
  obtain ⟨fd__law_big, F__law_big⟩ := c.def_ 11 (d := d__law_big) rfl
  obtain ⟨fd__law_times, F__law_times⟩ := c.def_ 12 (d := d__law_times) rfl
  obtain ⟨fd__law_right, F__law_right⟩ := c.def_ 13 (d := d__law_right) rfl
  obtain ⟨fd_law, F_law⟩ := c.def_ 14 (d := d_law) rfl
  have e := hfa.symm.trans (He.glo_ok X G (c.fact 22 (f := .glo "law") rfl))
  cases e
  have T : Txt K mg := ⟨He.free_ok X G (c.fact 0 rfl), He.free_ok X G (c.fact 1 rfl), He.free_ok X G (c.fact 2 rfl), He.free_ok X G (c.fact 3 rfl), He.free_ok X G (c.fact 4 rfl), He.free_ok X G (c.fact 5 rfl), He.free_ok X G (c.fact 6 rfl), He.free_ok X G (c.fact 7 rfl)⟩
  have b_normal := FunD.bindsN (ps := ["m", "e"]) F_normal fun _ _ _ _ _ _ us hl => match us, hl with | [_, _], _ => rfl
  have b_times := FunD.bindsN (ps := ["number", "factor", "many"]) F_times fun _ _ _ _ _ _ us hl => match us, hl with | [_, _, _], _ => rfl
  have b_from_binary := FunD.bindsN (ps := ["m", "two"]) F_from_binary fun _ _ _ _ _ _ us hl => match us, hl with | [_, _], _ => rfl
  have b_decode_float := FunD.bindsN (ps := ["bits", "places", "powers"]) F_decode_float fun _ _ _ _ _ _ us hl => match us, hl with | [_, _, _], _ => rfl
  have b_half := FunD.bindsN (ps := ["bits"]) F_half fun _ _ _ _ _ _ us hl => match us, hl with | [_], _ => rfl
  have b_single := FunD.bindsN (ps := ["bits"]) F_single fun _ _ _ _ _ _ us hl => match us, hl with | [_], _ => rfl
  have b_double := FunD.bindsN (ps := ["bits"]) F_double fun _ _ _ _ _ _ us hl => match us, hl with | [_], _ => rfl
  have b__law_cell := FunD.bindsN (ps := ["_law_script", "_law_k"]) F__law_cell fun _ _ _ _ _ _ us hl => match us, hl with | [_, _], _ => rfl
  have b__law_numbers := FunD.bindsN (ps := ["_law_cell_here", "_law_many"]) F__law_numbers fun _ _ _ _ _ _ us hl => match us, hl with | [_, _], _ => rfl
  have b__law_state := FunD.bindsN (ps := ["_law_script", "_law_left"]) F__law_state fun _ _ _ _ _ _ us hl => match us, hl with | [_, _], _ => rfl
  have b__law_next := FunD.bindsN (ps := ["_law_state_here", "_law_many"]) F__law_next fun _ _ _ _ _ _ us hl => match us, hl with | [_, _], _ => rfl
  have b__law_big := FunD.bindsN (ps := ["_law_state_here", "_law_many"]) F__law_big fun _ _ _ _ _ _ us hl => match us, hl with | [_, _], _ => rfl
  have b__law_times := FunD.bindsN (ps := ["_law_number", "_law_factor", "_law_many"]) F__law_times fun _ _ _ _ _ _ us hl => match us, hl with | [_, _, _], _ => rfl
  have b__law_right := FunD.bindsN (ps := ["_law_pair", "_law_sign", "_law_fraction", "_law_field", "_law_places", "_law_powers"]) F__law_right fun _ _ _ _ _ _ us hl => match us, hl with | [_, _, _, _, _, _], _ => rfl
  have b_law := FunD.bindsA (ps := ["_law_script"]) F_law fun _ _ _ _ _ _ us hl => match us, hl with | [_], _ => rfl
  refine ⟨fd_law, fun s v => b_law s [v] rfl, fun base _ _ => ?_⟩
  have c_normal : Cal P w K mg base 1 "normal" (sp_normal K) := ⟨⟨_, fd_normal, ["m", "e"], ok_normal F_normal T, He.glo_ok X G (c.fact 8 rfl), F_normal.kp, b_normal⟩⟩
  have c_times : Cal P w K mg base 1 "times" (sp_times K) := ⟨⟨_, fd_times, ["number", "factor", "many"], ok_times F_times T, He.glo_ok X G (c.fact 9 rfl), F_times.kp, b_times⟩⟩
  have c_from_binary : Cal P w K mg base 2 "from_binary" (sp_from_binary K) := ⟨⟨_, fd_from_binary, ["m", "two"], ok_from_binary F_from_binary T c_normal c_times, He.glo_ok X G (c.fact 10 rfl), F_from_binary.kp, b_from_binary⟩⟩
  have c_decode_float : Cal P w K mg base 3 "decode_float" (sp_decode_float K) := ⟨⟨_, fd_decode_float, ["bits", "places", "powers"], ok_decode_float F_decode_float T c_from_binary c_times, He.glo_ok X G (c.fact 11 rfl), F_decode_float.kp, b_decode_float⟩⟩
  have c_half : Cal P w K mg base 4 "half" (sp_half K) := ⟨⟨_, fd_half, ["bits"], ok_half F_half T c_decode_float, He.glo_ok X G (c.fact 12 rfl), F_half.kp, b_half⟩⟩
  have c_single : Cal P w K mg base 4 "single" (sp_single K) := ⟨⟨_, fd_single, ["bits"], ok_single F_single T c_decode_float, He.glo_ok X G (c.fact 13 rfl), F_single.kp, b_single⟩⟩
  have c_double : Cal P w K mg base 4 "double" (sp_double K) := ⟨⟨_, fd_double, ["bits"], ok_double F_double T c_decode_float, He.glo_ok X G (c.fact 14 rfl), F_double.kp, b_double⟩⟩
  have c__law_cell : Cal P w K mg base 1 "_law_cell" (sp__law_cell K) := ⟨⟨_, fd__law_cell, ["_law_script", "_law_k"], ok__law_cell F__law_cell T, He.glo_ok X G (c.fact 15 rfl), F__law_cell.kp, b__law_cell⟩⟩
  have c__law_numbers : Cal P w K mg base 1 "_law_numbers" (sp__law_numbers K) := ⟨⟨_, fd__law_numbers, ["_law_cell_here", "_law_many"], ok__law_numbers F__law_numbers T, He.glo_ok X G (c.fact 16 rfl), F__law_numbers.kp, b__law_numbers⟩⟩
  have c__law_state : Cal P w K mg base 2 "_law_state" (sp__law_state K) := ⟨⟨_, fd__law_state, ["_law_script", "_law_left"], ok__law_state F__law_state T c__law_cell c__law_numbers, He.glo_ok X G (c.fact 17 rfl), F__law_state.kp, b__law_state⟩⟩
  have c__law_next : Cal P w K mg base 1 "_law_next" (sp__law_next K) := ⟨⟨_, fd__law_next, ["_law_state_here", "_law_many"], ok__law_next F__law_next T, He.glo_ok X G (c.fact 18 rfl), F__law_next.kp, b__law_next⟩⟩
  have c__law_big : Cal P w K mg base 2 "_law_big" (sp__law_big K) := ⟨⟨_, fd__law_big, ["_law_state_here", "_law_many"], ok__law_big F__law_big T c__law_cell c__law_next, He.glo_ok X G (c.fact 19 rfl), F__law_big.kp, b__law_big⟩⟩
  have c__law_times : Cal P w K mg base 1 "_law_times" (sp__law_times K) := ⟨⟨_, fd__law_times, ["_law_number", "_law_factor", "_law_many"], ok__law_times F__law_times T, He.glo_ok X G (c.fact 20 rfl), F__law_times.kp, b__law_times⟩⟩
  have c__law_right : Cal P w K mg base 2 "_law_right" (sp__law_right K) := ⟨⟨_, fd__law_right, ["_law_pair", "_law_sign", "_law_fraction", "_law_field", "_law_places", "_law_powers"], ok__law_right F__law_right T c__law_times, He.glo_ok X G (c.fact 21 rfl), F__law_right.kp, b__law_right⟩⟩
  exact ok_law F_law T c__law_big c__law_next c__law_right c__law_state c__law_times c_double c_half c_single
end Fa
open PySem PySem.W PySem.Calls PyProof.Rows
set_option maxRecDepth 100000 in
set_option maxHeartbeats 0 in
theorem PySem.Challenge.cw_formsalike_k04_floats_holds : PySem.Challenge.rw_formsalike_k04_floats.Holds := by
  w_on; o_law
  refine HandSHeadRun.head_any (r := OpenLaw.row PySem.Challenge.rw_formsalike_k04_floats) (q := view (OpenLaw.row PySem.Challenge.rw_formsalike_k04_floats).prog [17]) (H := Fa.hk) (ob := Fa.ob) (M := 4000) (loose := Fa.loose) (d := HandSHeadRun.topDef (OpenLaw.row PySem.Challenge.rw_formsalike_k04_floats).prog 17) (kwd := []) Fa.ob_eq
    (by kernel_rfl) (fun s => by kernel_rfl) Fa.run (by kernel_rfl) (by kernel_rfl) (by kernel_rfl) (by rfl) (by first | assumption | decide +kernel) (by decide +kernel) ⟨rfl, rfl, rfl, rfl, rfl, by decide +kernel⟩ ?hw ?hc
  case hw => w_witness2
  case hc =>
    refine L2.walk_ofE (l := PySem.Challenge.rw_formsalike_k04_floats) (n := 63) (k := 5) (x := "_law_script") (CX := L2.CX0) rfl (by decide) (by kernel_rfl) ⟨rfl, by decide, by decide⟩ ?F (fun _ _ _ _ z => z)
    intro w mg fa h Y G hmg0
    obtain ⟨K, KX, c⟩ := Y
    have hmg : mg ("law" : PySem.Str) = some (.ref fa) := by
      have e : (HandSHeadRun.topDef (OpenLaw.row PySem.Challenge.rw_formsalike_k04_floats).prog 17).name = ("law" : PySem.Str) := by kernel_rfl
      rw [← e]
      exact hmg0
    obtain ⟨fd, hb, hF⟩ := Fa.facts (P := (PySem.Challenge.rw_formsalike_k04_floats).prog) (w := w) KX G hmg c
    exact ⟨K, fd, Fa.sp_law K, KX, hb, fun H a ns hl ho hS => ⟨a, ns, rfl, hS, hl, ho, fun _ => rfl⟩, hF⟩
#print axioms PySem.Challenge.cw_formsalike_k04_floats_holds
