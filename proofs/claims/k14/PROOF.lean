import PyProof.Rows.All
import Wide.All
import OpenK.AllK
import Wide.FinOn
import KE.KStateDown
import HandS.ForMost
import HandS.More
import HandS.Words
import HandS.WordsExc
import HandS.Defaults
import HandS.Star
import HandS.Property
import HandS.ClsMeth
import HandS.Flow
import HandS.Wide
import HandS.Conv
import HandS.IsInst
import HandS.TupAny
import HandS.DictComp
import HandS.ListItems
import HandS.Evl
import HandS.Steps
import HandS.Head0
import HandS.Head1
import HandS.Head2
import HandS.HeadEnd
import HandS.HeadHook1
import HandS.HeadHook2
import HandS.HeadHook4
import HandS.HeadNt
import HandS.EndBits
import HandS.GenList
import HandS.GenYield
import KE.GoesEnum
import HandS.Walk
import HandS.NoneIn
import HandS.Style
import HandS.Conv
import KE.KDictZip
import PyProof.ListNew
import KE.KCallOwn
import PyProof.Conv_bool
import HandS.ExcInit
import HandS.ExcIs
import HandS.ExcField
import HandS.Lambda
import HandS.EndTab
import HandS.MakeKwOnly
import KE.KExcIs
import HandS.HeadHook4
import KE.KDflt
import HandS.Finally
import PySem.Challenge.RW_emptiesback_k14_repeated_calls
set_option Elab.async false
set_option linter.all false
set_option maxRecDepth 100000
namespace EB
open PySem PySem.Spec L2
set_option maxHeartbeats 1000000

/-! ## heaps that grow -/
/-- all that is tracked in H stands in H' as it stood -/
abbrev Ex (H H' : Hp) : Prop := Evl.Ex H H'
theorem Ex.rfl' {H : Hp} : Ex H H := fun _ _ h => h
/-- all but the object at l stands -/
def ExB (l : Addr) (H H' : Hp) : Prop := ∀ a o, a ≠ l → H a = some o → H' a = some o
theorem ExB.of {l : Addr} {H H' : Hp} (e : Ex H H') : ExB l H H' := fun a o _ h => e a o h
theorem ExB.trans {l : Addr} {H H1 H2 : Hp} (e : ExB l H H1) (f : ExB l H1 H2) : ExB l H H2 := fun a o n h => f a o n (e a o n h)
theorem ExB.upd {l : Addr} {H : Hp} {o : HO} : ExB l H (L2.upd H l o) := fun a u n h => by rw [upd_ne n]; exact h
/-- l is new behind H: what changes at l alone keeps H -/
theorem ExB.ex {l : Addr} {H0 H H' : Hp} (e : Ex H0 H) (n : H0 l = none) (f : ExB l H H') : Ex H0 H' := fun a o h => f a o (ne_of_none h n) (e a o h)
theorem exE {H H' : Hp} {a : Addr} {o : HO} (h : H a = some o) (e : Ex H H') : H' a = some o := e a o h
theorem exT {K : PySem.W.Frag} {H H' : Hp} {a : Addr} {xs : List V} (h : SqT K H a xs) (e : Ex H H') : SqT K H' a xs := Evl.ex_t e h
theorem exL {K : PySem.W.Frag} {H H' : Hp} {a : Addr} {xs : List V} (h : SqL K H a xs) (e : Ex H H') : SqL K H' a xs := Evl.ex_l e h
theorem ex2 {H H1 H2 : Hp} (f : Ex H1 H2) (e : Ex H H1) : Ex H H2 := Evl.Ex.trans e f
theorem exN {H H1 : Hp} {p : Addr} {o : HO} (n : H1 p = none) (e : Ex H H1) : Ex H (L2.upd H1 p o) := Evl.Ex.trans e (Evl.Ex.new n)
theorem ex_sqT {K : PySem.W.Frag} {H H' : Hp} {a : Addr} {xs : List V} (e : Ex H H') (h : SqT K H a xs) : SqT K H' a xs := Evl.ex_t e h
theorem ex_sqL {K : PySem.W.Frag} {H H' : Hp} {a : Addr} {xs : List V} (e : Ex H H') (h : SqL K H a xs) : SqL K H' a xs := Evl.ex_l e h

/-! ## operators by name -/
def rAddI : R2 := rI0 fun i j => .int (i + j)
def rSubI : R2 := rI0 fun i j => .int (i - j)
def rMulI : R2 := rI CMul fun i j => .int (i * j)
def rMulW : R2 := rI CMulW fun i j => .int (i * j)
def rFdI : R2 := rI CDiv fun i j => .int (i / j)
def rFdW : R2 := rI CDivW fun i j => .int (i / j)
def rModI : R2 := rI (fun _ j => 0 < j) fun i j => .int (i % j)
def rPowI : R2 := rI CPow fun i j => .int (i ^ j.toNat)
def rLtI : R2 := rI0 fun i j => .bl (decide (i < j))
def rLeI : R2 := rI0 fun i j => .bl (decide (i ≤ j))
def rGtI : R2 := rI0 fun i j => .bl (decide (j < i))
def rGeI : R2 := rI0 fun i j => .bl (decide (j ≤ i))
section
variable {X : Cx}
theorem o_add : OpR X (binaryOp .Add) rAddI := op_add
theorem o_sub : OpR X (binaryOp .Sub) rSubI := op_sub
theorem o_mul : OpR X (binaryOp .Mult) rMulI := op_mul
theorem o_mulW : OpR X (binaryOp .Mult) rMulW := op_mulW
theorem o_fd : OpR X (binaryOp .FloorDiv) rFdI := op_fdiv
theorem o_fdW : OpR X (binaryOp .FloorDiv) rFdW := op_fdivW
theorem o_mod : OpR X (binaryOp .Mod) rModI := op_mod
theorem o_pow : OpR X (binaryOp .Pow) rPowI := op_pow
theorem o_lt : OpR X (compareOp .Lt) rLtI := op_lt
theorem o_le : OpR X (compareOp .LtE) rLeI := op_le
theorem o_gt : OpR X (compareOp .Gt) rGtI := op_gt
theorem o_ge : OpR X (compareOp .GtE) rGeI := op_ge
end

theorem cmul_l {i j : Int} (h1 : -18446744073709551616 < i) (h2 : i < 18446744073709551616) : CMul i j := .inl ⟨h1, h2⟩
theorem cmul_r {i j : Int} (h1 : -18446744073709551616 < j) (h2 : j < 18446744073709551616) : CMul i j := .inr ⟨h1, h2⟩
theorem cdiv {i j : Int} (h1 : 0 < j) (h2 : j < 1073741824) : CDiv i j := ⟨h1, h2⟩
theorem cdivW {i j : Int} (h1 : 0 < j) (h2 : j < 1329227995784915872903807060280344576) : CDivW i j := wide_div (b := 120) h1 (by omega) (by decide) (by decide)
theorem cpow {i j : Int} (h1 : 0 ≤ j) (h2 : j ≤ 1000) (h3 : 0 ≤ i) (h4 : i < 1000) : CPow i j := ⟨h1, by omega, by omega⟩
/-! ## one step of a reading each -/
section
variable {σ σ' : St} {H : Hp} {Q : VK} {i j : Int} {x y v : V} {ta tb te : TE} {r r' : R2} {D : Ends} {K : PySem.W.Frag}
theorem w_var {k : Nat} (h : σ[k]? = some (some v)) (q : Q v H) : tVar k σ H Q := ⟨v, h, q⟩
theorem w_c (q : Q v H) : tC v σ H Q := q
theorem w_op (q : ta σ H fun x H1 => tb σ H1 fun y H2 => r x y H2 Q) : tOp r ta tb σ H Q := q
theorem w_add (q : Q (.int (i + j)) H) : rAddI (.int i) (.int j) H Q := ⟨i, j, rfl, rfl, q⟩
theorem w_sub (q : Q (.int (i - j)) H) : rSubI (.int i) (.int j) H Q := ⟨i, j, rfl, rfl, q⟩
theorem w_mul (c : CMul i j) (q : Q (.int (i * j)) H) : rMulI (.int i) (.int j) H Q := ⟨i, j, rfl, rfl, c, q⟩
theorem w_mulW (c : CMulW i j) (q : Q (.int (i * j)) H) : rMulW (.int i) (.int j) H Q := ⟨i, j, rfl, rfl, c, q⟩
theorem w_fd (c : CDiv i j) (q : Q (.int (i / j)) H) : rFdI (.int i) (.int j) H Q := ⟨i, j, rfl, rfl, c, q⟩
theorem w_fdW (c : CDivW i j) (q : Q (.int (i / j)) H) : rFdW (.int i) (.int j) H Q := ⟨i, j, rfl, rfl, c, q⟩
theorem w_mod (c : 0 < j) (q : Q (.int (i % j)) H) : rModI (.int i) (.int j) H Q := ⟨i, j, rfl, rfl, c, q⟩
theorem w_pow (c : CPow i j) (q : Q (.int (i ^ j.toNat)) H) : rPowI (.int i) (.int j) H Q := ⟨i, j, rfl, rfl, c, q⟩
theorem w_lt (q : Q (.bl (decide (i < j))) H) : rLtI (.int i) (.int j) H Q := ⟨i, j, rfl, rfl, q⟩
theorem w_le (q : Q (.bl (decide (i ≤ j))) H) : rLeI (.int i) (.int j) H Q := ⟨i, j, rfl, rfl, q⟩
theorem w_gt (q : Q (.bl (decide (j < i))) H) : rGtI (.int i) (.int j) H Q := ⟨i, j, rfl, rfl, q⟩
theorem w_ge (q : Q (.bl (decide (j ≤ i))) H) : rGeI (.int i) (.int j) H Q := ⟨i, j, rfl, rfl, q⟩
theorem dec_int : decide (V.int i = V.int j) = decide (i = j) := by
  by_cases h : i = j
  · rw [decide_eq_true h, decide_eq_true (congrArg V.int h)]
  · rw [decide_eq_false h, decide_eq_false fun e => h (V.int.inj e)]
theorem dec_str {a b : Str} : decide (V.str a = V.str b) = decide (a = b) := by
  by_cases h : a = b
  · rw [decide_eq_true h, decide_eq_true (congrArg V.str h)]
  · rw [decide_eq_false h, decide_eq_false fun e => h (V.str.inj e)]
theorem dec_bl {a b : Bool} : decide (V.bl a = V.bl b) = decide (a = b) := by
  cases a <;> cases b <;> decide
theorem w_eqI (q : Q (.bl (decide (i = j))) H) : rEq (.int i) (.int j) H Q := ⟨rfl, by rw [dec_int]; exact q⟩
theorem w_neI (q : Q (.bl (!decide (i = j))) H) : rNe (.int i) (.int j) H Q := ⟨rfl, by rw [dec_int]; exact q⟩
theorem w_eqS {a b : Str} (q : Q (.bl (decide (a = b))) H) : rEq (.str a) (.str b) H Q := ⟨rfl, by rw [dec_str]; exact q⟩
theorem w_neS {a b : Str} (q : Q (.bl (!decide (a = b))) H) : rNe (.str a) (.str b) H Q := ⟨rfl, by rw [dec_str]; exact q⟩
theorem w_eqB {a b : Bool} (q : Q (.bl (decide (a = b))) H) : rEq (.bl a) (.bl b) H Q := ⟨rfl, by rw [dec_bl]; exact q⟩
theorem w_neB {a b : Bool} (q : Q (.bl (!decide (a = b))) H) : rNe (.bl a) (.bl b) H Q := ⟨rfl, by rw [dec_bl]; exact q⟩
theorem w_isN (q : Q (.bl (decide (x = .non))) H) : rIsN x .non H Q := ⟨rfl, q⟩
theorem w_notN (q : Q (.bl (!decide (x = .non))) H) : rNotN x .non H Q := ⟨rfl, q⟩
/-! tests -/
variable {R : Bool → Hp → Prop} {t u : TT} {b c : Bool} {A B : Prop}
theorem w_test (q : te σ H fun x H' => ∃ k, x = .bl k ∧ R k H') : tTest te σ H R := q
theorem w_tB (q : te σ H fun x H' => ∃ k, x = .bl k ∧ R k H') : tB te σ H R := q
theorem w_exb {P : Bool → Prop} (q : P b) : ∃ k, V.bl b = .bl k ∧ P k := ⟨b, rfl, q⟩
theorem w_and (q : t σ H fun c H1 => if c = true then u σ H1 R else R false H1) : tAnd t u σ H R := q
theorem w_or (q : t σ H fun c H1 => if c = true then R true H1 else u σ H1 R) : tOr t u σ H R := q
theorem w_not (q : t σ H fun c H1 => R (!c) H1) : tNot t σ H R := q
theorem w_andV (q : ta σ H fun x H1 => ∃ c, x = .bl c ∧ if c = true then tb σ H1 Q else Q (.bl false) H1) : tAndV ta tb σ H Q := q
theorem w_orV (q : ta σ H fun x H1 => ∃ c, x = .bl c ∧ if c = true then Q (.bl true) H1 else tb σ H1 Q) : tOrV ta tb σ H Q := q
theorem w_notV (q : ta σ H fun x H1 => ∃ c, x = .bl c ∧ Q (.bl (!c)) H1) : tNotV ta σ H Q := q
theorem w_chain {tc : TE} (q : ta σ H fun x H1 => tb σ H1 fun y H2 => r x y H2 fun z H3 => ∃ k, z = .bl k ∧ (if k = true then tc σ H3 fun w' H4 => r' y w' H4 Q else Q (.bl false) H3)) : tChain r r' ta tb tc σ H Q := q
theorem w_if (q : t σ H fun c H1 => if c = true then ta σ H1 Q else tb σ H1 Q) : tIf t ta tb σ H Q := q
/-- a branch that the facts decide -/
theorem w_t (h : c = true) (q : A) : if c = true then A else B := by rw [if_pos h]; exact q
theorem w_f (h : c = false) (q : B) : if c = true then A else B := by rw [h]; exact q
theorem w_2 {p : Prop} [Decidable p] (h1 : p → A) (h2 : ¬ p → B) : if decide p = true then A else B := by
  by_cases h : p
  · rw [decide_eq_true h]; exact h1 h
  · rw [decide_eq_false h]; exact h2 h
theorem w_2n {p : Prop} [Decidable p] (h1 : ¬ p → A) (h2 : p → B) : if (!decide p) = true then A else B := by
  by_cases h : p
  · rw [decide_eq_true h]; exact h2 h
  · rw [decide_eq_false h]; exact h1 h
theorem w_2b (h1 : c = true → A) (h2 : c = false → B) : if c = true then A else B := by
  cases c with
  | true => exact h1 rfl
  | false => exact h2 rfl
/-! statements -/
variable {s1 s2 : TS} {g : TG}
theorem w_seq (q : s1 { nx := s2 D, rt := D.rt, bk := D.bk, ct := D.ct } σ H) : tSeq s1 s2 D σ H := q
theorem w_next (q : D.nx σ H) : tNext D σ H := q
theorem w_ret (q : te σ H D.rt) : tRet te D σ H := q
theorem w_drop (q : te σ H fun _ H1 => D.nx σ H1) : tDrop te D σ H := q
theorem w_ifS (q : t σ H fun b H1 => if b = true then s1 D σ H1 else s2 D σ H1) : tIfS t s1 s2 D σ H := q
theorem w_asg (q : te σ H fun x H1 => g x σ H1 D.nx) : tAsg te g D σ H := q
theorem w_name {k : Nat} {P : St → Hp → Prop} (q : ∀ s', σ.set k (some v) = s' → P s' H) : gName k v σ H P := q _ rfl
theorem w_par {k l : Nat} {t : TA} (q : t σ H fun vs H1 => ∃ v w, vs = [v, w] ∧ ∀ s', (σ.set k (some v)).set l (some w) = s' → D.nx s' H1) (mono : ∀ σ H (Q Q' : List V → Hp → Prop), (∀ vs H1, Q vs H1 → Q' vs H1) → t σ H Q → t σ H Q') : tPar k l t D σ H :=
  mono _ _ _ _ (fun vs H1 ⟨v, w, e, p⟩ => ⟨v, w, e, p _ rfl⟩) q
theorem w_parP {k l : Nat} {t : TA} (q : t σ H fun vs H1 => ∃ v w, vs = [v, w] ∧ D.nx ((σ.set k (some v)).set l (some w)) H1) : tPar k l t D σ H := q
theorem w_par2 {w : V} {P : V → V → Prop} (q : P v w) : ∃ v' w', [v, w] = [v', w'] ∧ P v' w' := ⟨v, w, rfl, q⟩
theorem w_aug {k : Nat} {ti : TIp} (h : σ[k]? = some (some x)) (q : te σ H fun y H1 => ti x y H1 fun z H2 => D.nx (σ.set k (some z)) H2) : tAug k te ti D σ H := ⟨_, h, q⟩
theorem w_ip {f : Int → Int → Int} (q : Q (.int (f i j)) H) : ipI f (.int i) (.int j) H Q := ⟨i, j, rfl, rfl, q⟩
/-! arguments, calls -/
variable {ts : TA} {G : List V → Hp → Prop} {E : XK} {sp : Sp} {rc : List V → Hp → VK → Prop}
theorem w_nil (q : G [] H) : tNil σ H G := q
theorem w_cons (q : te σ H fun x H1 => ts σ H1 fun xs H2 => G (x :: xs) H2) : tCons te ts σ H G := q
theorem w_call (q : ts σ H fun vs H1 => sp vs H1 Q E) : tCall sp [] E ts σ H Q := by
  have e : (fun vs H1 => sp (vs ++ []) H1 Q E) = fun vs H1 => sp vs H1 Q E := by
    funext vs H1
    rw [List.append_nil]
  show ts σ H (fun vs H1 => sp (vs ++ []) H1 Q E)
  rw [e]
  exact q
theorem w_CB (q : ts σ H fun vs H1 => rc vs H1 Q) : tCB rc ts σ H Q := q
/-! new lists, new tuples -/
/-- what is wanted may be weakened -/
def clA (ts : TA) : TA := fun σ H G => ∃ G0 : List V → Hp → Prop, ts σ H G0 ∧ ∀ vs H', G0 vs H' → G vs H'
def clE (te : TE) : TE := fun σ H Q => ∃ Q0 : VK, te σ H Q0 ∧ ∀ v H', Q0 v H' → Q v H'
theorem pa_cl {X : Cx} {es : List Expr} (h : PA X es ts) : PA X es (clA ts) := ⟨fun pos pins s σ H G I ⟨G0, q, k⟩ =>
  thn (h.run pos pins s σ H G0 I q) fun _ _ ⟨vs, H1, I1, r, g⟩ => ⟨vs, H1, I1, r, k vs H1 g⟩⟩
theorem pe_cl {X : Cx} {e : Expr} (h : PE X e te) : PE X e (clE te) := ⟨fun pins s σ H Q I ⟨Q0, q, k⟩ =>
  thn (h.run pins s σ H Q0 I q) fun _ _ ⟨v, H1, I1, r, g⟩ => ⟨v, H1, I1, r, k v H1 g⟩⟩
theorem w_lst (q : ts σ H fun xs H1 => xs.length ≤ 1000 ∧ ∀ p H2, H1 p = none → Ex H1 H2 → H2 p = some (.lst xs) → Q (.ref p) H2) : tLst (clA ts) σ H Q :=
  ⟨_, q, fun _ _ ⟨l, k⟩ => ⟨Nat.le_trans l (by decide), fun a h => k a _ h (Evl.Ex.new h) upd_same⟩⟩
theorem w_tup (q : ts σ H fun xs H1 => xs.length ≤ 1000 ∧ ∀ p H2, H1 p = none → Ex H1 H2 → H2 p = some (.tup xs) → Q (.ref p) H2) : tTup (clA ts) σ H Q :=
  ⟨_, q, fun _ _ ⟨l, k⟩ => ⟨Nat.le_trans l (by decide), fun a h => k a _ h (Evl.Ex.new h) upd_same⟩⟩
theorem w_short {n : Nat} {R : Addr → Hp → Prop} {o : HO} (hn : n ≤ 1000) (q : ∀ p H2, H p = none → Ex H H2 → H2 p = some o → R p H2) : n ≤ 1000 ∧ ∀ p H2, H p = none → Ex H H2 → H2 p = some o → R p H2 := ⟨hn, q⟩
theorem w_new1 {o : HO} {P : Addr → Hp → Prop} (q : ∀ p H2, H p = none → Ex H H2 → H2 p = some o → P p H2) : ∀ p, H p = none → P p (upd H p o) := fun p h => q p _ h (Evl.Ex.new h) upd_same
/-! targets -/
variable {gs : TGs} {P : St → Hp → Prop} {a : Addr} {xs : List V} {n : Nat}
theorem w_gTup (h : SqT K H a xs) (hl : xs.length = n) (q : gs xs σ H P) : gTup K n gs (.ref a) σ H P := ⟨a, xs, rfl, h, hl, q⟩
theorem w_gCons (q : g x σ H fun s' H' => gs xs s' H' P) : gCons g gs (x :: xs) σ H P := ⟨x, xs, rfl, q⟩
theorem w_gNil (q : P σ H) : gNil [] σ H P := ⟨rfl, q⟩
/-! parts of lists, tuples -/
theorem w_ixT (h : SqT K H a xs) (hi : atI xs i = some v) (q : Q v H) : rIxT K (.ref a) (.int i) H Q := ⟨a, xs, i, v, rfl, rfl, h, hi, q⟩
theorem w_ixL (h : SqL K H a xs) (hi : atI xs i = some v) (q : Q v H) : rIxL K (.ref a) (.int i) H Q := ⟨a, xs, i, v, rfl, rfl, h, hi, q⟩
/-! built-ins -/
def rInt : List V → Hp → VK → Prop := fun xs H Q => (∃ i, xs = [.int i] ∧ Q (.int i) H) ∨ ∃ k, xs = [.bl k] ∧ Q (.int (if k then 1 else 0)) H
def rLen (K : PySem.W.Frag) : List V → Hp → VK → Prop := fun xs H Q => ∃ x n, xs = [x] ∧ LenV K x H n ∧ Q (.int n) H
def rListO (K : PySem.W.Frag) : List V → Hp → VK → Prop := fun xs H Q => ∃ p ys, xs = [.ref p] ∧ (SqL K H p ys ∨ SqT K H p ys) ∧ ∀ l, H l = none → Q (.ref l) (upd H l (.lst ys))
def rTupO (K : PySem.W.Frag) : List V → Hp → VK → Prop := fun xs H Q => ∃ p ys, xs = [.ref p] ∧ ((SqL K H p ys ∧ ∀ l, H l = none → Q (.ref l) (upd H l (.tup ys))) ∨ (SqT K H p ys ∧ Q (.ref p) H))
def rMx2 : List V → Hp → VK → Prop := fun xs H Q => ∃ i j, xs = [.int i, .int j] ∧ Q (.int (if j > i then j else i)) H
theorem c_int {X : Cx} : CallR X (.type "int") rInt := call_int1
theorem c_len {X : Cx} : CallR X (.builtin "len") (rLen X.K) := call_len
theorem c_listO {X : Cx} : CallR X (.type "list") (rListO X.K) := call_list_of
theorem c_tupO {X : Cx} : CallR X (.type "tuple") (rTupO X.K) := call_tuple_of
theorem c_mx2 {X : Cx} (hc : X.calm = true) : CallR X (.builtin "max") rMx2 := call_max2 hc
theorem w_int (q : Q (.int i) H) : rInt [.int i] H Q := .inl ⟨i, rfl, q⟩
theorem w_intB {b : Bool} (q : Q (.int (if b then 1 else 0)) H) : rInt [.bl b] H Q := .inr ⟨b, rfl, q⟩
theorem w_lenS {z : Str} (h : z.length ≤ sizeLine) (q : Q (.int z.length) H) : rLen K [.str z] H Q := ⟨_, _, rfl, ⟨h, rfl⟩, q⟩
theorem w_lenL (h : SqL K H a xs) (q : Q (.int xs.length) H) : rLen K [.ref a] H Q := ⟨_, _, rfl, .inl ⟨_, h, rfl⟩, q⟩
theorem w_lenT (h : SqT K H a xs) (q : Q (.int xs.length) H) : rLen K [.ref a] H Q := ⟨_, _, rfl, .inr ⟨_, h, rfl⟩, q⟩
theorem w_listL (h : SqL K H a xs) (q : ∀ p H2, H p = none → Ex H H2 → H2 p = some (.lst xs) → Q (.ref p) H2) : rListO K [.ref a] H Q := ⟨a, xs, rfl, .inl h, w_new1 q⟩
theorem w_listT (h : SqT K H a xs) (q : ∀ p H2, H p = none → Ex H H2 → H2 p = some (.lst xs) → Q (.ref p) H2) : rListO K [.ref a] H Q := ⟨a, xs, rfl, .inr h, w_new1 q⟩
theorem w_tupL (h : SqL K H a xs) (q : ∀ p H2, H p = none → Ex H H2 → H2 p = some (.tup xs) → Q (.ref p) H2) : rTupO K [.ref a] H Q := ⟨a, xs, rfl, .inl ⟨h, w_new1 q⟩⟩
theorem w_tupT (h : SqT K H a xs) (q : Q (.ref a) H) : rTupO K [.ref a] H Q := ⟨a, xs, rfl, .inr ⟨h, q⟩⟩
theorem w_sum {ns : List Int} (h : SqL K H a (ns.map V.int)) (q : Q (.int ns.sum) H) : rSum K [.ref a] H Q := ⟨a, ns, rfl, h, q⟩
theorem w_all {bs : List Bool} (h : SqL K H a (bs.map V.bl)) (q : Q (.bl (bs.all id)) H) : rAll K [.ref a] H Q := ⟨a, bs, rfl, h, q⟩
theorem w_any {bs : List Bool} (h : SqL K H a (bs.map V.bl)) (q : Q (.bl (bs.any id)) H) : rAny K [.ref a] H Q := ⟨a, bs, rfl, h, q⟩
theorem w_mx2 (q : Q (.int (if j > i then j else i)) H) : rMx2 [.int i, .int j] H Q := ⟨i, j, rfl, q⟩
/-! fields -/
theorem w_fld {C dx : Addr} {fs : List (Str × V)} {f : Str} (q : te σ H fun x H1 => ∃ a C dx fs v, x = .ref a ∧ H1 a = some (.ins C dx fs) ∧ Cls K C ∧ NoAttr K C f ∧ fs.lookup f = some v ∧ Q v H1) : tFld K te f σ H Q := q
theorem w_fld2 {C dx : Addr} {fs : List (Str × V)} {f : Str} {P : V → Prop} (h : H a = some (.ins C dx fs)) (c : Cls K C) (n : NoAttr K C f) (l : fs.lookup f = some v) (q : P v) :
    ∃ a' C' dx' fs' v', V.ref a = .ref a' ∧ H a' = some (.ins C' dx' fs') ∧ Cls K C' ∧ NoAttr K C' f ∧ fs'.lookup f = some v' ∧ P v' := ⟨a, C, dx, fs, v, rfl, h, c, n, l, q⟩
end

/-! ## loops -/
section
variable {σ : St} {H : Hp} {Q : VK} {te : TE} {D : Ends} {K : PySem.W.Frag} {g : TG} {a : Addr} {xs : List V} {tb : TS}
/-- [e for target in t] over a tuple; ys: the elements' values; nothing but new objects -/
theorem w_lcT {tl : TE} {vs : List Nat} (ys : List V) (hx : SqT K H a xs) (hz : xs.length ≤ 1000) (hy : ys.length = xs.length) (ht : ∀ R : VK, R (.ref a) H → tl σ H R)
    (hb : ∀ (i : Nat) x y, xs[i]? = some x → ys[i]? = some y → ∀ H1, Ex H H1 → ∀ R : VK, (∀ H2, Ex H1 H2 → R y H2) → g x (wipe σ vs) H1 fun σ2 H2 => wipe σ2 vs = wipe σ vs ∧ te σ2 H2 R)
    (q : ∀ p H2, H p = none → Ex H H2 → H2 p = some (.lst ys) → Q (.ref p) H2) : tLc (iTup K tl) g tYes te vs σ H Q := by
  refine ht _ ⟨a, rfl, ⟨_, hx⟩, fun D hD => ?_⟩
  refine lc_tup (K := K) (a := a) (xs := xs) (fun i H' => Ex H H' ∧ H' D = some (.lst (ys.take i))) ⟨Evl.Ex.new hD, by simpa using upd_same⟩ (fun i H' _ ⟨e, _⟩ => ex_sqT e hx) ?_ ?_
  · rintro i x H' hi ⟨e, hd⟩
    have lt := (List.getElem?_eq_some_iff.mp hi).1
    have hyi : ys[i]? = some ys[i] := List.getElem?_eq_getElem (by omega)
    refine hb i x ys[i] hi hyi H' e _ fun H2 e2 => ?_
    refine ⟨_, e2 D _ hd, ?_, ExB.ex (Evl.Ex.trans e e2) hD ExB.upd, ?_⟩
    · rw [List.length_take, hy]
      exact Nat.lt_of_le_of_lt (Nat.min_le_right _ _) (Nat.lt_of_le_of_lt hz (by decide))
    · rw [upd_same, List.take_succ, hyi]
      rfl
  · rintro H' ⟨e, hd⟩
    rw [← hy, List.take_length] at hd
    exact q D H' hD e hd
end
end EB
namespace EB
open PySem PySem.Spec L2
set_option maxHeartbeats 2000000
/-! ## rules that the layer lacks -/
section
variable {X : Cx}
/-! ### sum(t), t a tuple of ints -/
def rSumT (K : PySem.W.Frag) : List V → Hp → VK → Prop := fun vs H Q => ∃ (a : Addr) (ns : List Int), vs = [V.ref a] ∧ SqT K H a (ns.map V.int) ∧ Q (.int ns.sum) H
theorem sumT_raw {prog : Program} {w : World} {A : Around} {E : Value → Shared → Prop} {s : Shared} {l : Addr} {its : List Value} {ns : List Int} {Q : Value → Shared → Prop}
    (hh : A.handled = none) (hl : s.heap.IsTuple l its.toArray) (hi : PyProof.Rows.IntsAre its ns)
    (h : ∀ h' tk t', (∀ b o, s.heap.get? b = some o → h'.get? b = some o) → Q (.int ns.sum t') { s with heap := h', toks := tk }) : wpAny (model prog w) A (call (.builtin "sum") [.ref l]) Q E s := by
  obtain ⟨ys, ey⟩ := hi.allInts.items
  have en : numsOf (intItems ys).toList = ns := by
    rw [← ey]
    exact hi.numsOf
  rw [nums_intItems] at en
  rw [ey] at hl
  have below : l < s.heap.objs.size := by
    obtain ⟨_, q, _⟩ := hl
    exact Heap.lt_size q
  refine call_sum_walkG (wpAny_pyIter_tuple hl ?_)
  refine ⟨s.heap.objs.size, [s.heap.objs.size, l], [s.heap.objs.size], _, _, _, numAt ys, rfl, Walks.tuple (A := A.in1) hh _ l (Nat.ne_of_lt below) (intItems ys), ⟨⟨_, Heap.get?_push_size _ rfl, rfl, rfl⟩, hl.push _⟩, fun b hb => ?_, fun _ _ => intItems_at, fun h' tk t' hk => ?_⟩
  · show b < (s.heap.push _).objs.size
    rw [Heap.size_push]
    rcases List.mem_cons.mp hb with e | hb
    · rw [e]
      exact Nat.lt_succ_self _
    · rw [List.mem_singleton.mp hb]
      exact Nat.lt_succ_of_lt below
  · have fin := h h' tk t' fun b o q => hk b o (fun z => by
      rw [List.mem_singleton.mp z] at q
      exact absurd (Heap.lt_size q) (Nat.lt_irrefl _)) (Heap.get?_push_of_some _ q)
    have e1 : preSum (numAt ys) ys.size = ns.sum := by
      rw [preSum_eq, List.take_of_length_le (by simp), en]
    have e2 : (intItems ys).size = ys.size := by simp [intItems]
    rw [e2, e1]
    exact fin
theorem c_sumT (hc : X.calm = true) : CallR X (.builtin "sum") (rSumT X.K) := by
  intro pins s σ H vs us Q I r h
  obtain ⟨a, ns, rfl, hs, q⟩ := h
  obtain ⟨its, rv, hl, _⟩ := I.tuple hs
  rw [Vals.ref1 r]
  exact sumT_raw (I.ok.hd hc) hl rv.ints fun h' tk t' hk => ⟨.int _, H, I.kept hk, ⟨_, rfl⟩, q⟩
theorem w_sumT {K : PySem.W.Frag} {H : Hp} {Q : VK} {a : Addr} {ns : List Int} (h : SqT K H a (ns.map V.int)) (q : Q (.int ns.sum) H) : rSumT K [.ref a] H Q := ⟨a, ns, rfl, h, q⟩
end
/-! ### for i, x in enumerate(t), t a tuple -/
/-- enumerate(v), v anything whose iterator begins as told -/
theorem meets_enum1 {v : Value} {o : Obj} {G : Heap → Prop} (B : Begins v o G) :
    Meets (Builtin.«enumerate.__new__» ⟨[.type "enumerate", v], []⟩) (fun _ R s => G s.heap ∧
      R (.ok (.ret (.ref (s.heap.push o).objs.size))) { s with heap := (s.heap.push o).push { cls := .type "enumerate", data := .fields #[.none, .bool false, .ref s.heap.objs.size, rawInt 0, .none, .none] } }) :=
  .of_wp fun prog w A R s h => by
    obtain ⟨hp, g, d, tk, os⟩ := s
    obtain ⟨h1, h⟩ := h
    have hsub := sub_enumerate
    have q1 : ∀ {A' : Around} {E : Value → Shared → Prop} {Q : Value → Shared → Prop}, Q (.ref hp.objs.size) ⟨hp.push o, g, d, tk, os⟩ → wpAny (model prog w) A' (pyIter v) Q E ⟨hp, g, d, tk, os⟩ := fun q => B.iter prog w _ _ ⟨hp, g, d, tk, os⟩ _ h1 q
    wp_walk using q1
    refine wpAny_stack_any fun _ => wpAny_pure ?_
    split
    · rename_i c _ _ _ _ _
      cases (c == Value.type "enumerate") <;> (wp_walk using q1; exact ⟨_, rfl, h⟩)
    · wp_walk using q1
      exact ⟨_, rfl, h⟩
theorem call_enum1 {prog : Program} {w : World} {A : Around} {E : Value → Shared → Prop} {s : Shared} {v : Value} {o : Obj} {G : Heap → Prop} {Q : Value → Shared → Prop} (B : Begins v o G) (h1 : G s.heap)
    (h : ∀ h', PySem.IsEnum h' (s.heap.objs.size + 1) s.heap.objs.size 0 .none → h'.get? s.heap.objs.size = some o → (∀ b u, s.heap.get? b = some u → h'.get? b = some u) → Q (.ref (s.heap.objs.size + 1)) { s with heap := h' }) :
    wpAny (model prog w) A (call (.type "enumerate") [v]) Q E s := by
  refine callType_new F.called_enumerate (by decide) (F.typeCall_enumerate_1 _) (F.newCall_enumerate_1 _) (fun obj => F.args_object_init_2 obj _) F.entry_enumerate_new (meets_enum1 B) ⟨h1, ?_⟩
  generalize hb : s.heap.push o = g1
  have z1 : g1.objs.size = s.heap.objs.size + 1 := by
    rw [← hb]
    exact Heap.size_push ..
  have a1 : g1.get? s.heap.objs.size = some o := by
    rw [← hb]
    exact Heap.get?_push_size _ B.free
  have k1 : ∀ b u, s.heap.get? b = some u → g1.get? b = some u := fun b u q => by
    rw [← hb]
    exact Heap.get?_push_of_some _ q
  generalize hc : g1.push { cls := .type "enumerate", data := .fields #[.none, .bool false, .ref s.heap.objs.size, rawInt 0, .none, .none] } = g2
  have a2 : g2.get? g1.objs.size = some { cls := .type "enumerate", data := .fields #[.none, .bool false, .ref s.heap.objs.size, rawInt 0, .none, .none] } := by
    rw [← hc]
    exact Heap.get?_push_size _ rfl
  have k2 : ∀ b u, g1.get? b = some u → g2.get? b = some u := fun b u q => by
    rw [← hc]
    exact Heap.get?_push_of_some _ q
  rw [z1] at a2 ⊢
  exact ⟨⟨_, a2, rfl⟩, h g2 a2 (k2 _ _ a1) fun b u q => k2 b u (k1 b u q)⟩
/-- the tuple at a as it stands at each turn, each item in a new pair -/
def IteT (K : PySem.W.Frag) (a : Addr) : It :=
  ⟨fun i H => ∃ (xs : List V) (x : V), SqT K H a xs ∧ xs[i]? = some x, fun i H v H' => ∃ T x, v = .ref T ∧ H T = none ∧ H' = upd H T (.tup [.int (i : Nat), x]) ∧ ∀ xs, SqT K H a xs → xs[i]? = some x, fun i H => ∃ xs : List V, SqT K H a xs ∧ xs.length ≤ i⟩
theorem turn_enumT {P : Program} {w : World} {K : PySem.W.Frag} {elts : List Expr} {kk : Nat} {tpos : Pos} (a e it : Addr) :
    Turn P w K (.Tuple elts kk tpos) (IteT K a) [e, it] e (fun i h => (∃ old, PySem.IsEnum h e it ((i : Nat) : Int) old) ∧ h.IsTupleIter it a i ∧ e ≠ it ∧ a ≠ it) where
  mem := List.mem_cons_self
  obj := fun i h st b hb => by
    obtain ⟨⟨old, he⟩, ⟨o, ho, _, hd⟩, _⟩ := st
    rcases List.mem_cons.mp hb with z | z
    · subst z
      exact ⟨_, he, fun v q => nomatch q⟩
    · rw [List.mem_singleton.mp z]
      exact ⟨o, ho, fun v q => by
        rw [hd] at q
        cases q⟩
  keep := fun i h h' st k => by
    obtain ⟨⟨old, he⟩, hi, n1, n2⟩ := st
    exact ⟨⟨old, k e List.mem_cons_self _ he⟩, hi.at fun o q => k it (List.mem_cons_of_mem _ List.mem_cons_self) o q, n1, n2⟩
  item := by
    intro X hP hw hK hc i pins s σ H E I hf st hg
    subst hP hw hK
    obtain ⟨⟨old, he⟩, hit, n1, n2⟩ := st
    obtain ⟨xs, x, hq, hx⟩ := hg
    obtain ⟨its, rv, p, _⟩ := I.tuple hq
    obtain ⟨u, hu, ru⟩ := rv.get hx
    have lt : i < its.toArray.size := by
      have := (List.getElem?_eq_some_iff.mp hu).1
      simpa using this
    have l1 : e < s.heap.objs.size := Heap.lt_size he
    have l2 : it < s.heap.objs.size := by
      obtain ⟨_, q, _⟩ := hit
      exact Heap.lt_size q
    have D : Draws X.prog X.w X.A.in1 it [it, a] its.toArray.size (fun i v => its.toArray[i]? = some v) (fun i h => h.IsTupleIter it a i ∧ h.IsTuple a its.toArray) := Draws.tuple (A := X.A.in1) (show X.A.in1.handled = none from I.ok.hd hc) it a n2 its.toArray
    have ea : e ≠ a := fun z => by
      obtain ⟨oa, ha, hca, _⟩ := p
      rw [← z] at ha
      have he' : s.heap.get? e = some _ := he
      rw [he'] at ha
      cases ha
      exact absurd (Value.type.inj hca) (by decide)
    refine wpAny_pyNext_enum_itemD D he ⟨hit, p⟩ lt n1 (by simp [n1, ea]) fun y h' tk hy ho hs hT hsz hk => ?_
    obtain rfl : y = u := by
      have hu' : its.toArray[i]? = some u := by simpa using hu
      have hy' : its.toArray[i]? = some y := hy
      rw [hu'] at hy'
      exact (Option.some.inj hy').symm
    refine ⟨_, rfl, wpAny_letOwnedTupleGo_enum (s := { s with heap := h', toks := tk + 1 }) ho fun h2 he2 sb => ?_⟩
    have T2 : h2.get? s.heap.objs.size = some { cls := .type "tuple", data := .seq #[.int i tk, y] } := (sb.2 _ (Nat.ne_of_gt l1)).trans hT
    have fresh : H s.heap.objs.size = none := I.hok.fresh (Nat.le_refl _)
    have new : ObjOk X.prog X.w (upd H s.heap.objs.size (.tup [.int (i : Nat), x])) h2 s.heap.objs.size (.tup [.int (i : Nat), x]) := ⟨by show 2 ≤ sizeLine; decide, [.int i tk, y], .cons ⟨_, rfl⟩ (.cons ru .nil), ⟨_, T2, rfl, _, rfl⟩⟩
    have I1 : L2.Inv X pins σ (upd H s.heap.objs.size (.tup [.int (i : Nat), x])) { s with heap := h2, toks := tk + 1 } :=
      L2.Inv.turnedNew (t' := tk + 1) I (ch := [e, it]) (fun b ob hb q => by
        have b1 : b ≠ e := fun z => hb (by rw [z]; exact List.mem_cons_self)
        have b2 : b ≠ it := fun z => hb (by rw [z]; exact List.mem_cons_of_mem _ List.mem_cons_self)
        exact (sb.2 b b1).trans (hk b ob b1 b2 q)) hf (Nat.le_refl _) new
    refine ⟨.ref s.heap.objs.size, _, I1, rfl, ⟨_, x, rfl, fresh, rfl, fun ys hy => by rw [I.tuple_inj hy hq]; exact hx⟩, ⟨⟨y, ?_⟩, hs.1.at fun o q => (sb.2 it n1.symm).trans q, n1, n2⟩, fun b hb => ?_⟩
    · have cast : ((i + 1 : Nat) : Int) = (i : Int) + 1 := by omega
      rw [cast]
      exact he2
    · have ne : b ≠ s.heap.objs.size := by
        rcases List.mem_cons.mp hb with z | z
        · rw [z]
          exact Nat.ne_of_lt l1
        · rw [List.mem_singleton.mp z]
          exact Nat.ne_of_lt l2
      rw [upd_ne ne]
      exact (hf b hb).1
  done := by
    intro X hP hw hK hc i pins s σ H E I hf st hg
    subst hP hw hK
    obtain ⟨⟨old, he⟩, hit, n1, n2⟩ := st
    obtain ⟨xs, hq, hx⟩ := hg
    obtain ⟨its, rv, p, _⟩ := I.tuple hq
    obtain ⟨f0, f1, f2, f3, f4, f5⟩ := hf it (List.mem_cons_of_mem _ List.mem_cons_self)
    have hl := rv.length
    have D : Draws X.prog X.w X.A.in1 it [it, a] i (fun _ _ => True) (fun j h => h.IsTupleIter it a j ∧ h.IsTuple a its.toArray ∧ j = i) :=
      { live := fun _ _ st => by
          obtain ⟨⟨o, ho, _⟩, _⟩ := st
          exact ⟨o, ho⟩
        frame := fun _ _ _ st hk => ⟨st.1.at fun o q => hk it (by simp) o q, st.2.1.at fun o q => hk a (by simp) o q, st.2.2⟩
        item := fun j s Q E lt st => by
          exfalso
          have := st.2.2
          omega
        done := fun s Q E st hE => wpAny_nextOf_tuple_end (show X.A.in1.handled = none from I.ok.hd hc) st.1 st.2.1 (by simp; omega) hE }
    exact wpAny_pyNext_enum_endD D he ⟨hit, p, rfl⟩ fun h' eb => ⟨rfl, L2.Inv.turned I (t' := s.toks) (fun b o hb q => eb b o hb q) f0 f1 f3 f4 f5⟩
  self := fun A i s Q E st h => by
    obtain ⟨⟨_, he⟩, _⟩ := st
    exact wpAny_pyIter_enum he h
def iEnumT (K : PySem.W.Frag) (ta : TA) : TI := fun σ H R => ta σ H fun vs H1 => ∃ a xs, vs = [.ref a] ∧ SqT K H1 a xs ∧ R (IteT K a) H1
theorem pi_enumT {X : Cx} {e : Expr} {ta : TA} {p pos tpos : Pos} {elts : List Expr} {kk : Nat} (hg : Gl X "enumerate") (hm : X.mg "enumerate" = none) (ha : PA X [e] ta) (one : starEach [e] X.env = [(false, eval e X.env)] := by rfl) :
    PI X (.Tuple elts kk tpos) (.Call (.Name "enumerate" p) [e] [] pos) (iEnumT X.K ta) := by
  constructor
  intro pins s σ H R I h
  refine PyProof.Rows.Call_ (ld_blt I hg hm PyProof.Rows.boot_enumerate (PyProof.Rows.callWith_type1 (thn (ha.run pos pins s σ H _ I h) fun us s1 ⟨vs, H1, I1, r1, a, xs, ex, hq, q⟩ => ?_) one rfl))
  subst ex
  cases r1 with
  | cons r rr =>
    cases rr
    cases r
    obtain ⟨its, rv, p', _⟩ := I1.tuple hq
    have la : a < s1.heap.objs.size := by
      obtain ⟨_, z, _⟩ := p'
      exact Heap.lt_size z
    refine call_enum1 (begins_tuple a its.toArray) p' fun h' he hit hk => wpAny_pyIter_enum he ?_
    have I2 : L2.Inv X pins σ H1 { s1 with heap := h' } := I1.kept (t' := s1.toks) hk
    refine ⟨s1.heap.objs.size + 1, [s1.heap.objs.size + 1, s1.heap.objs.size], _, _, H1, rfl, I2, turn_enumT a (s1.heap.objs.size + 1) s1.heap.objs.size, ⟨⟨.none, he⟩, ⟨_, hit, rfl, rfl⟩, Nat.succ_ne_self _, Nat.ne_of_lt la⟩, fun b hb => ?_, q⟩
    have ge : s1.heap.objs.size ≤ b := by
      rcases List.mem_cons.mp hb with z | z
      · rw [z]
        exact Nat.le_succ _
      · rw [List.mem_singleton.mp z]
        exact Nat.le_refl _
    exact I1.fpOk ge (I1.hok.fresh ge)
/-- the reading of a for over enumerate(t) -/
theorem w_forE {K : PySem.W.Frag} {σ : St} {H : Hp} {D : Ends} {g : TG} {tb : TS} {ta : TA} {a : Addr} {xs : List V} (Pv : Nat → St → Hp → Prop) (hx : SqT K H a xs) (ht : ∀ R : List V → Hp → Prop, R [.ref a] H → ta σ H R) (h0 : Pv 0 σ H)
    (hl : ∀ i σ' H', i ≤ xs.length → Pv i σ' H' → SqT K H' a xs)
    (hs : ∀ i x σ' H' T H2, xs[i]? = some x → Pv i σ' H' → H' T = none → Ex H' H2 → H2 T = some (.tup [.int (i : Nat), x]) → g (.ref T) σ' H2 fun σ2 H3 => tb { D with nx := Pv (i + 1), ct := Pv (i + 1), bk := D.nx } σ2 H3) (hd : ∀ σ' H', Pv xs.length σ' H' → D.nx σ' H') :
    tFor (iEnumT K ta) g tb D σ H := by
  refine ht _ ⟨a, xs, rfl, hx, fun i m σ' H' => m = xs.length - i ∧ i ≤ xs.length ∧ Pv i σ' H', ⟨_, rfl, Nat.zero_le _, h0⟩, ?_⟩
  rintro i m σ' H' ⟨rfl, hi, p⟩
  have q := hl i σ' H' hi p
  by_cases lt : i < xs.length
  · refine .inr ⟨⟨xs, xs[i], q, by simp [lt]⟩, Pv (i + 1), fun s2 H2 p' => ⟨_, by omega, rfl, lt, p'⟩, fun x H2 y => ?_⟩
    obtain ⟨T, z, rfl, hT, rfl, hz⟩ := y
    exact hs i z σ' H' T _ (hz xs q) p hT (Evl.Ex.new hT) upd_same
  · have e : i = xs.length := by omega
    subst e
    exact .inl ⟨⟨xs, q, Nat.le_refl _⟩, hd σ' H' p⟩
end EB
namespace EB
open PySem PySem.Spec L2 StX ClX
set_option maxHeartbeats 2000000
/-! ## calls, all by positional promises -/
section
variable {X : Cx} {CX : CXT} {k : Nat} {f C : Addr} {x m : Str} {sp : Sp} {E : XK} {t : TA} {ta : TE} {e o : Expr} {es : List Expr} {p pos apos : Pos}
def tCallR (sp : Sp) (E : XK) (t : TA) : TE := fun σ H Q => t σ H fun vs H1 => sp vs H1 Q E
theorem pe_callR (F : FnR X.prog X.w X.K X.mg X.base CX k f sp) (hr : Room k X.A) (hk : PySem.W.keepIn X.K (.ref f) = true) (hg : Gl X x) (hm : X.mg x = some (.ref f)) (hx : Passes CX X E) (ha : PA X (e :: es) t) (nodb : (x == ("__debug__" : Str)) = false := by decide)
    (h1 : starEach (e :: es) X.env = (false, eval e X.env) :: starEach es X.env := by rfl) (h2 : (backTo pos (starEach es X.env)).any (·.1) = false := by rfl) : PE X (.Call (.Name x p) (e :: es) [] pos) (tCallR sp E t) := by
  constructor
  intro pins s σ H Q I h
  refine wpAny_Call_Name_kw (ld_glob I hg hm (PySem.W.callWith_K (h₀ := X.base) I.ok.mod.kin hk (thn (ha.run pos pins s σ H _ I h) fun us s1 ⟨vs, H1, I1, r, q⟩ => ⟨I1.kIn, wpAny_call (run_fnR F hr hx I1 r q)⟩) h1 h2) nodb)
theorem pe_methR0 {pl : Sem Bool} (he : PE X o ta) (c : Cls X.K C) (hm : Meth X.K C m f) (F : FnR X.prog X.w X.K X.mg X.base CX k f sp) (hr : Room k X.A) (hx : Passes CX X E)
    (ht : eval (.Call (.Attribute o m apos) [] [] pos) X.env = (do
      let ov ← eval o X.env
      standAt apos.atName
      let (f, first) ← holding [ov] (getMethod ov m pl)
      callWith pos f first (backTo pos (starEach [] X.env)) (backToKw pos (keywordEach [] X.env))) := by rfl) :
    PE X (.Call (.Attribute o m apos) [] [] pos) (tMethR C m sp E ta tNil) := by
  constructor
  intro pins s σ H Q I h
  refine PySem.W.methodCall_KW (pl := pl) (thn (he.run pins s σ H _ I h) fun u s1 ⟨y, H1, I1, ry, a, dx, fs, ey, ea, l, q⟩ => ?_) ht
  subst ey
  have eu : u = Value.ref a := ry
  subst eu
  refine getmeth_ok I1 ea c hm l (PySem.W.callWith_K0 (first := [.ref a]) I1.kIn hm.kp ?_)
  exact wpAny_call (run_fnR (us := [.ref a]) (vs := [.ref a]) F hr hx I1 (.cons rfl .nil) q)
/-- an instance called: the reading without the context -/
def tCO (C : Addr) (sp : Sp) (E : XK) (tf : TE) (t : TA) : TE := fun σ H Q => tf σ H fun y H1 => ∃ a, y = V.ref a ∧ t σ H1 fun vs H2 => ((∃ dx vs, SlX.Slt H2 a C dx vs) ∨ ∃ dx fs, H2 a = some (.ins C dx fs)) ∧ sp (V.ref a :: vs) H2 Q E
theorem pe_CO {fe : Expr} {g : Addr} {tf : TE} (hf : PE X fe tf) (c : CallO X.K C g) (F : FnR X.prog X.w X.K X.mg X.base CX k g sp) (hr : Room k X.A) (hx : Passes CX X E) (ha : PA X (e :: es) t)
    (ht : eval (.Call fe (e :: es) [] pos) X.env = (do callWith pos (← eval fe X.env) [] (backTo pos (starEach (e :: es) X.env)) (backToKw pos (keywordEach [] X.env))) := by rfl)
    (he : starEach (e :: es) X.env = (false, eval e X.env) :: starEach es X.env := by rfl) (hpl : (backTo pos (starEach es X.env)).any (·.1) = false := by rfl) : PE X (.Call fe (e :: es) [] pos) (tCO C sp E tf t) := pe_callO hf c F hr hx ha ht he hpl
end
section
variable {P : Program} {w : World} {K : PySem.W.Frag} {mg : Str → Option Value} {base : Heap} {CX : CXT} {k : Nat} {f : Addr} {sp spi : Sp} {fd : FuncData} {x qual : Str} {params : Arguments} {body : List Stmt} {scope : Scope} {N : List Str}
theorem fnR_of {ps : List Str} (F : FnOk P w K mg base CX k f fd ps sp) (hb : Binds K fd ps []) : FnR P w K mg base CX k f sp := by
  refine FnR.imp (FnOk.raw F hb .nil) fun vs H Q E h => ?_
  rw [List.append_nil]
  exact h
/-- def f(a, *v) -/
theorem fnR_star1 {a v : Str} (F : FunD K x qual params body scope [] [] f fd) (S : FnScope N [a, v] scope)
    (hbody : ∀ (cdv : Value) (A : Around) (outer : List Env) (s : Shared) (H : Hp) (vs : List V) (Q : VK) (E : XK), Room k (A.deeper (PyProof.Rows.envOfC qual scope s.heap.objs.size f cdv)) → spi vs H Q E →
      ∃ t, PSs (cxOf CX0 P w K mg base N qual scope f cdv A outer s H E) body t ∧ t { nx := fun _ H' => Q .non H', rt := Q } (start N vs) H)
    (h0 : ∀ (kV doc pm : Value) (an : Option Addr) (cdv ct : Value) (u : Value), bindArgs (PySem.W.fnOf x qual params body scope .none kV doc pm an cdv ct) ⟨[u], []⟩ = (newTuple [] >>= fun t => pure [(a, u), (v, t)]))
    (h1 : ∀ (kV doc pm : Value) (an : Option Addr) (cdv ct : Value) (u r : Value) (rs : List Value), bindArgs (PySem.W.fnOf x qual params body scope .none kV doc pm an cdv ct) ⟨u :: r :: rs, []⟩ = (newTuple (r :: rs) >>= fun t => pure [(a, u), (v, t)])) :
    FnR P w K mg base CX0 (k + 1) f (fun vs H Q E => ∃ ws rest, vs = ws ++ rest ∧ ws.length = 1 ∧ rest.length ≤ sizeLine ∧ ∀ p, H p = none → spi (ws ++ [V.ref p]) (upd H p (.tup rest)) Q E) := by
  obtain ⟨oc, od, dV, kV, doc, pm, an, cdv, ct, osl, rfl, lk, hcd, hD, _⟩ := F.ex
  obtain rfl : dV = .none := by
    rcases hD with ⟨_, z⟩ | ⟨z, _⟩
    · exact z
    · exact absurd rfl z
  exact fn_star (ps := [a]) lk hcd S cxUp_none (bind_star1 (B := fun us => bindArgs (PySem.W.fnOf x qual params body scope .none kV doc pm an cdv ct) ⟨us, []⟩) (fun u => h0 kV doc pm an cdv ct u) fun u r rs => h1 kV doc pm an cdv ct u r rs)
    fun A outer s H vs Q E hr h => hbody cdv A outer s H vs Q E hr h
end

/-! ## the text's facts -/
/-- facts beside He.Fa -/
inductive Fb where
  | callO (x : Str)
  | own (x m : Str)
  | cread (x : Str)
  | cval (x f : Str) (i : Int)
  | prop (x f : Str)
  | cmet (x m : Str)
def metaT : Value := .type "type"
def pAt (K : PySem.W.Frag) (C : Addr) (f : Str) : Addr := match PySem.W.findIn K (.ref C) f with
  | some (some (.ref p)) => p
  | _ => 0
def pGet (K : PySem.W.Frag) (C : Addr) (f : Str) : Addr := match PySem.W.recIn K (pAt K C f) "property" with
  | some (.ref g :: _) => g
  | _ => 0
def cvB (K : PySem.W.Frag) (C : Addr) (f : Str) (i : Int) : Bool := match PySem.W.findCls K (.ref C) metaT f with
  | some (.val (.int j _)) => decide (i = j)
  | _ => false
/-! the text's facts about classmethods -/
def cpAt (K : PySem.W.Frag) (C : Addr) (m : Str) : Addr := match PySem.W.findCls K (.ref C) metaT m with
  | some (.get _ (.ref p) _ _) => p
  | _ => 0
def cGet (K : PySem.W.Frag) (C : Addr) (m : Str) : Addr := match PySem.W.recIn K (cpAt K C m) "classmethod" with
  | some (.ref g :: _) => g
  | _ => 0
def cmB (K : PySem.W.Frag) (C : Addr) (m : Str) : Bool := (match PySem.W.findCls K (.ref C) metaT m with
  | some (.get (.builtin b) (.ref p) .none (.ref D)) => decide (b = "classmethod.__get__") && (decide (p = cpAt K C m) && decide (D = C))
  | _ => false) && ((match PySem.W.recIn K (cpAt K C m) "classmethod" with
  | some (.ref _ :: _) => true
  | _ => false) && PySem.W.fnIn K (cGet K C m))
theorem cmet_ok {K : PySem.W.Frag} {C : Addr} {m : Str} (h : cmB K C m = true) : CMet K C metaT m (cpAt K C m) (cGet K C m) := by
  unfold cmB at h
  obtain ⟨h1, h2⟩ := He.ba h
  obtain ⟨h3, h4⟩ := He.ba h2
  refine ⟨?_, ?_, h4⟩
  · generalize e : PySem.W.findCls K (.ref C) metaT m = r at h1
    split at h1
    · obtain ⟨a, b⟩ := He.ba h1
      obtain ⟨c, d⟩ := He.ba b
      rw [of_decide_eq_true a, of_decide_eq_true c, of_decide_eq_true d]
    · cases h1
  · unfold cGet
    split at h3
    · rename_i g r e
      rw [e]
      exact ⟨r, rfl⟩
    · cases h3
def Fb.ok (K : PySem.W.Frag) : Fb → Bool
  | .cmet x m => cmB K (He.ga K x) m
  | .callO x => decide (PySem.W.findIn K (.ref (He.ga K x)) "__call__" = some (some (.ref (He.ma K (He.ga K x) "__call__")))) && (PySem.W.isFn K (.ref (He.ma K (He.ga K x) "__call__")) && PySem.W.fnIn K (He.ma K (He.ga K x) "__call__"))
  | .own x m => decide (PySem.W.findIn K (.ref (He.ga K x)) m = some (some (.ref (He.ma K (He.ga K x) m)))) && (PySem.W.isFn K (.ref (He.ma K (He.ga K x) m)) && PySem.W.fnIn K (He.ma K (He.ga K x) m))
  | .cread x => PySem.W.readsIn K (He.ga K x) metaT && decide (PySem.W.specialIn K (.ref (He.ga K x)) "__getattribute__" = some (some (.builtin "type.__getattribute__")))
  | .cval x f i => cvB K (He.ga K x) f i
  | .prop x f => decide (PySem.W.findIn K (.ref (He.ga K x)) f = some (some (.ref (pAt K (He.ga K x) f)))) && (decide (PySem.W.specialIn K (.ref (pAt K (He.ga K x) f)) "__get__" = some (some (.builtin "property.__get__"))) &&
      (decide (PySem.W.takesIn K (.ref (pAt K (He.ga K x) f)) = some true) && (match PySem.W.recIn K (pAt K (He.ga K x) f) "property" with
        | some (.ref _ :: _) => true
        | _ => false)))
theorem callO_ok {K : PySem.W.Frag} {x : Str} (h : (Fb.callO x).ok K = true) : CallO K (He.ga K x) (He.ma K (He.ga K x) "__call__") := by
  obtain ⟨h1, h2⟩ := He.ba h
  obtain ⟨h3, h4⟩ := He.ba h2
  exact ⟨of_decide_eq_true h1, h3, h4⟩
/-- C.m is the function at g -/
structure OwnM (K : PySem.W.Frag) (C : Addr) (m : Str) (g : Addr) : Prop where
  here : PySem.W.findIn K (.ref C) m = some (some (.ref g))
  isf : PySem.W.isFn K (.ref g) = true
  code : PySem.W.fnIn K g = true
theorem own_ok {K : PySem.W.Frag} {x m : Str} (h : (Fb.own x m).ok K = true) : OwnM K (He.ga K x) m (He.ma K (He.ga K x) m) := by
  obtain ⟨h1, h2⟩ := He.ba h
  obtain ⟨h3, h4⟩ := He.ba h2
  exact ⟨of_decide_eq_true h1, h3, h4⟩
theorem cread_ok {K : PySem.W.Frag} {x : Str} (h : (Fb.cread x).ok K = true) : CRead K (He.ga K x) metaT := by
  obtain ⟨h1, h2⟩ := He.ba h
  exact ⟨h1, of_decide_eq_true h2⟩
theorem cval_ok {K : PySem.W.Frag} {x f : Str} {i : Int} (h : (Fb.cval x f i).ok K = true) : ∃ u, CVal K (He.ga K x) metaT f (.int i) u := by
  have h1 : cvB K (He.ga K x) f i = true := h
  unfold cvB at h1
  generalize e : PySem.W.findCls K (.ref (He.ga K x)) metaT f = r at h1
  split at h1
  · rename_i j t
    exact ⟨_, ⟨e, ⟨t, by rw [of_decide_eq_true h1]⟩⟩⟩
  · cases h1
theorem prop_ok {K : PySem.W.Frag} {x f : Str} (h : (Fb.prop x f).ok K = true) : PropOf K (He.ga K x) f (pAt K (He.ga K x) f) (pGet K (He.ga K x) f) := by
  obtain ⟨h1, h2⟩ := He.ba h
  obtain ⟨h3, h4⟩ := He.ba h2
  obtain ⟨h5, h6⟩ := He.ba h4
  refine ⟨of_decide_eq_true h1, of_decide_eq_true h3, of_decide_eq_true h5, ?_⟩
  unfold pGet
  split at h6
  · rename_i g r e
    rw [e]
    exact ⟨r, rfl⟩
  · cases h6
/-- what the derivations ask of the text -/
structure Tx0 (fa : List He.Fa) (fn : List He5.DefA) (fb : List Fb) (K : PySem.W.Frag) (mg : Str → Option Value) : Prop where
  says : He5.SaysA fa fn K
  more : (fb.all fun f => f.ok K) = true
  gl : ∀ x a, PySem.W.nsIn K mainGlobals x = some a → mg x = a
section
variable {fa : List He.Fa} {fn : List He5.DefA} {fb : List Fb} {K : PySem.W.Frag} {mg : Str → Option Value}
theorem Tx0.glo (T : Tx0 fa fn fb K mg) (i : Nat) {x : Str} (h : fa[i]? = some (.glo x)) : mg x = some (.ref (He.ga K x)) := T.gl x _ (He.eqO_ok (T.says.fact i h))
theorem Tx0.fre (T : Tx0 fa fn fb K mg) (i : Nat) {x : Str} (h : fa[i]? = some (.free x)) : mg x = none := T.gl x _ (He.eqO_ok (T.says.fact i h))
theorem Tx0.int (T : Tx0 fa fn fb K mg) (j : Nat) {x : Str} {i : Int} (h : fa[j]? = some (.int x i)) : ∃ t, mg x = some (.int i t) := by
  have c : (match PySem.W.nsIn K mainGlobals x with | some (some (.int k _)) => decide (k = i) | _ => false) = true := T.says.fact j h
  split at c
  · rename_i k t e
    rw [← of_decide_eq_true c]
    exact ⟨t, T.gl x _ e⟩
  · cases c
theorem Tx0.str (T : Tx0 fa fn fb K mg) (j : Nat) {x z : Str} (h : fa[j]? = some (.str x z)) : ∃ t, mg x = some (.str z t) := by
  have c : (match PySem.W.nsIn K mainGlobals x with | some (some (.str k _)) => decide (k = z) | _ => false) = true := T.says.fact j h
  split at c
  · rename_i k t e
    rw [← of_decide_eq_true c]
    exact ⟨t, T.gl x _ e⟩
  · cases c
theorem Tx0.cls (T : Tx0 fa fn fb K mg) (j : Nat) {x : Str} (h : fa[j]? = some (.cls x)) : Cls K (He.ga K x) := He.cls_ok (T.says.fact j h)
theorem Tx0.noat (T : Tx0 fa fn fb K mg) (j : Nat) {x f : Str} (h : fa[j]? = some (.noat x f)) : NoAttr K (He.ga K x) f := He.noat_ok (T.says.fact j h)
theorem Tx0.meth (T : Tx0 fa fn fb K mg) (j : Nat) {x m : Str} (h : fa[j]? = some (.meth x m)) : Meth K (He.ga K x) m (He.ma K (He.ga K x) m) := He.meth_ok (T.says.fact j h)
theorem Tx0.mkr (T : Tx0 fa fn fb K mg) (j : Nat) {x : Str} (h : fa[j]? = some (.mkr x)) : Mk K (He.ga K x) (He.ma K (He.ga K x) "__init__") := He.mkr_ok (T.says.fact j h)
theorem Tx0.b (T : Tx0 fa fn fb K mg) (j : Nat) {f : Fb} (h : fb[j]? = some f) : f.ok K = true := List.all_eq_true.mp T.more f (List.mem_of_getElem? h)
theorem Tx0.callO (T : Tx0 fa fn fb K mg) (j : Nat) {x : Str} (h : fb[j]? = some (.callO x)) : CallO K (He.ga K x) (He.ma K (He.ga K x) "__call__") := callO_ok (T.b j h)
theorem Tx0.own (T : Tx0 fa fn fb K mg) (j : Nat) {x m : Str} (h : fb[j]? = some (.own x m)) : OwnM K (He.ga K x) m (He.ma K (He.ga K x) m) := own_ok (T.b j h)
theorem Tx0.cread (T : Tx0 fa fn fb K mg) (j : Nat) {x : Str} (h : fb[j]? = some (.cread x)) : CRead K (He.ga K x) metaT := cread_ok (T.b j h)
theorem Tx0.cval (T : Tx0 fa fn fb K mg) (j : Nat) {x f : Str} {i : Int} (h : fb[j]? = some (.cval x f i)) : ∃ u, CVal K (He.ga K x) metaT f (.int i) u := cval_ok (T.b j h)
theorem Tx0.cmet (T : Tx0 fa fn fb K mg) (j : Nat) {x m : Str} (h : fb[j]? = some (.cmet x m)) : CMet K (He.ga K x) metaT m (cpAt K (He.ga K x) m) (cGet K (He.ga K x) m) := cmet_ok (T.b j h)
theorem Tx0.prop (T : Tx0 fa fn fb K mg) (j : Nat) {x f : Str} (h : fb[j]? = some (.prop x f)) : PropOf K (He.ga K x) f (pAt K (He.ga K x) f) (pGet K (He.ga K x) f) := prop_ok (T.b j h)
end
/-- the head's look: He's, and the further facts -/
abbrev AlM : Type := He.AlD × Bool
/-- what the names reach, and the interpreter's own statics -/
def asM (g : Addr → Option Obj) (n : Nat) : List Addr := He.asD g n ++ [cStatics]
def obsM (n : Nat) (fa : List He.Fa) (fn : List He5.DefA) (fb : List Fb) (g : Addr → Option Obj) : AlM := (He5.obsA fa fn (He.frG g (asM g n)), fb.all fun f => f.ok (He.frG g (asM g n)))
def hookM (n : Nat) (fa : List He.Fa) (fn : List He5.DefA) (fb : List Fb) : PySem.W.Hook where
  α := AlM
  obs := fun s => obsM n fa fn fb s.heap.get?
  val := fun _ => (He5.valA fn, true)
  says := fun _ h => ∃ K : PySem.W.Frag, K.In h ∧ He5.SaysA fa fn K ∧ (fb.all fun f => f.ok K) = true
  of := fun _ s e => ⟨He.frG s.heap.get? (asM s.heap.get? n), He.frG_in, congrArg Prod.fst e, congrArg Prod.snd e⟩
  keeps := fun _ _ _ ⟨K, hK, c⟩ k => ⟨K, PySem.W.Frag.In.keeps hK k, c⟩
theorem obsM_eq {n : Nat} {fa : List He.Fa} {fn : List He5.DefA} {fb : List Fb} {g : Addr → Option Obj} {s : Shared} (h : ∀ a, g a = s.heap.get? a) : obsM n fa fn fb g = (hookM n fa fn fb).obs s := by
  have e : g = s.heap.get? := funext h
  rw [e] <;> rfl
theorem tx0_of {fa : List He.Fa} {fn : List He5.DefA} {fb : List Fb} {K : PySem.W.Frag} {mg : Str → Option Value} {h : Heap} (X : K.In h) (G : h.Ns mainGlobals mg) (c : He5.SaysA fa fn K) (m : (fb.all fun f => f.ok K) = true) : Tx0 fa fn fb K mg :=
  ⟨c, m, fun x a e => by
    cases a with
    | none => exact PySem.W.mg_none_of X G e
    | some v => exact PySem.W.mg_of X G e⟩
end EB
namespace EB
open PySem PySem.Spec L2 StX ClX
set_option maxHeartbeats 2000000
section
variable {σ : St} {H : Hp} {Q : VK} {te tl ta : TE} {D : Ends} {K : PySem.W.Frag} {g : TG} {a : Addr} {xs : List V} {tb : TS} {c : TT} {sp : Sp} {E : XK} {ts : TA} {C : Addr} {x : V} {m f : Str}
/-- one less: where a turn must lead -/
def Wl (W : Nat → St → Hp → Prop) (n : Nat) : St → Hp → Prop := fun σ' H' => ∃ k, k < n ∧ W k σ' H'
theorem w_while (W : Nat → St → Hp → Prop) (n0 : Nat) (h0 : W n0 σ H) (hs : ∀ n σ' H', W n σ' H' → c σ' H' fun b H1 => if b = true then ∃ N : St → Hp → Prop, (∀ σ2 H2, N σ2 H2 → ∃ m', m' < n ∧ W m' σ2 H2) ∧ tb { D with nx := N, ct := N, bk := D.nx } σ' H1 else D.nx σ' H1) :
    tWhile c tb D σ H := ⟨W, ⟨n0, h0⟩, hs⟩
theorem w_whileW {cw : TTw} (W : Nat → St → Hp → Prop) (n0 : Nat) (h0 : W n0 σ H) (hs : ∀ n σ' H', W n σ' H' → cw σ' H' fun b σ1 H1 => if b = true then ∃ N : St → Hp → Prop, (∀ σ2 H2, N σ2 H2 → ∃ m', m' < n ∧ W m' σ2 H2) ∧ tb { D with nx := N, ct := N, bk := D.nx } σ1 H1 else tNext D σ1 H1) :
    tWhileW cw tb tNext D σ H := ⟨W, ⟨n0, h0⟩, hs⟩
theorem w_turn {W : Nat → St → Hp → Prop} {n : Nat} {rt : VK} {bk : St → Hp → Prop} (q : tb { nx := Wl W n, rt := rt, bk := bk, ct := Wl W n } σ H) : ∃ N : St → Hp → Prop, (∀ σ2 H2, N σ2 H2 → ∃ m', m' < n ∧ W m' σ2 H2) ∧ tb { nx := N, rt := rt, bk := bk, ct := N } σ H :=
  ⟨Wl W n, fun _ _ h => h, q⟩
theorem w_wCmp {t : TEw} {r : R2} {R : Bool → St → Hp → Prop} (q : t σ H fun x σ1 H1 => te σ1 H1 fun y H2 => r x y H2 fun z H3 => ∃ k, z = .bl k ∧ R k σ1 H3) : wCmp r t te σ H R := q
theorem w_wNm {t : TEw} {i : Nat} {R : V → St → Hp → Prop} (q : t σ H fun x σ1 H1 => ∀ s', σ1.set i (some x) = s' → R x s' H1) (mono : ∀ (R R' : V → St → Hp → Prop), (∀ x s h, R x s h → R' x s h) → t σ H R → t σ H R') : wNm t i σ H R :=
  mono _ _ (fun _ _ _ k => k _ rfl) q
theorem w_wNmE {i : Nat} {R : V → St → Hp → Prop} (q : te σ H fun x H1 => R x (σ.set i (some x)) H1) : wNm (wE te) i σ H R := q
theorem w_forT (Pv : Nat → St → Hp → Prop) (hx : SqT K H a xs) (ht : ∀ R : VK, R (.ref a) H → tl σ H R) (h0 : Pv 0 σ H) (hl : ∀ i σ' H', i ≤ xs.length → Pv i σ' H' → SqT K H' a xs)
    (hs : ∀ i x σ' H', xs[i]? = some x → Pv i σ' H' → g x σ' H' fun σ2 H2 => tb { D with nx := Pv (i + 1), ct := Pv (i + 1), bk := D.nx } σ2 H2) (hd : ∀ σ' H', Pv xs.length σ' H' → D.nx σ' H') : tFor (iTup K tl) g tb D σ H :=
  ht _ ⟨a, rfl, ⟨_, hx⟩, for_tup Pv h0 hl hs hd⟩
theorem w_forL (Pv : Nat → St → Hp → Prop) (hx : SqL K H a xs) (ht : ∀ R : VK, R (.ref a) H → tl σ H R) (h0 : Pv 0 σ H) (hl : ∀ i σ' H', i ≤ xs.length → Pv i σ' H' → SqL K H' a xs)
    (hs : ∀ i x σ' H', xs[i]? = some x → Pv i σ' H' → g x σ' H' fun σ2 H2 => tb { D with nx := Pv (i + 1), ct := Pv (i + 1), bk := D.nx } σ2 H2) (hd : ∀ σ' H', Pv xs.length σ' H' → D.nx σ' H') : tFor (iList K tl) g tb D σ H :=
  ht _ ⟨a, rfl, ⟨_, hx⟩, for_list Pv h0 hl hs hd⟩
/-- .. the list made by the head: h what holds of it -/
theorem w_forLN (q : tl σ H fun v H1 => ∃ a xs, v = .ref a ∧ SqL K H1 a xs ∧ ∃ Pv : Nat → St → Hp → Prop, Pv 0 σ H1 ∧ (∀ i σ' H', i ≤ xs.length → Pv i σ' H' → SqL K H' a xs) ∧
      (∀ i x σ' H', xs[i]? = some x → Pv i σ' H' → g x σ' H' fun σ2 H2 => tb { D with nx := Pv (i + 1), ct := Pv (i + 1), bk := D.nx } σ2 H2) ∧ ∀ σ' H', Pv xs.length σ' H' → D.nx σ' H')
    (mono : ∀ (R R' : VK), (∀ v h, R v h → R' v h) → tl σ H R → tl σ H R') : tFor (iList K tl) g tb D σ H := by
  refine mono _ _ (fun v H1 h => ?_) q
  obtain ⟨a, xs, rfl, hx, Pv, h0, hl, hs, hd⟩ := h
  exact ⟨a, rfl, ⟨_, hx⟩, for_list Pv h0 hl hs hd⟩
theorem w_forR1 {n : Int} (Pv : Nat → St → Hp → Prop) (hn : -1000000000000000000 ≤ n ∧ n ≤ 1000000000000000000) (ht : ∀ R : List V → Hp → Prop, R [.int n] H → ts σ H R) (h0 : Pv 0 σ H)
    (hs : ∀ (i : Nat) σ' H', (i : Int) < n → Pv i σ' H' → g (.int i) σ' H' fun σ2 H2 => tb { D with nx := Pv (i + 1), ct := Pv (i + 1), bk := D.nx } σ2 H2) (hd : ∀ σ' H', Pv n.toNat σ' H' → D.nx σ' H') : tFor (iRng1 ts) g tb D σ H :=
  ht _ ⟨n, rfl, by omega, by omega, for_range (lo := 0) (n := n.toNat) Pv h0 (fun i σ' H' hi p => by
    have e : (0 : Int) + (i : Int) = i := Int.zero_add _
    rw [e]
    exact hs i σ' H' (by omega) p) hd⟩
theorem w_callR (q : ts σ H fun vs H1 => sp vs H1 Q E) : tCallR sp E ts σ H Q := q
theorem w_CO (q : ta σ H fun y H1 => ∃ a, y = V.ref a ∧ ts σ H1 fun vs H2 => ((∃ dx vs, SlX.Slt H2 a C dx vs) ∨ ∃ dx fs, H2 a = some (.ins C dx fs)) ∧ sp (V.ref a :: vs) H2 Q E) : tCO C sp E ta ts σ H Q := q
theorem w_exref {P : Addr → Prop} (q : P a) : ∃ b, V.ref a = V.ref b ∧ P b := ⟨a, rfl, q⟩
theorem w_isC {dx : Addr} {fs : List (Str × V)} {B : Prop} (h : H a = some (.ins C dx fs)) (q : B) : ((∃ dx vs, SlX.Slt H a C dx vs) ∨ ∃ dx fs, H a = some (.ins C dx fs)) ∧ B := ⟨.inr ⟨dx, fs, h⟩, q⟩
theorem w_makeR (q : ts σ H fun vs H1 => ∀ x dx H2, H1 x = none → Ex H1 H2 → H2 x = some (.ins C dx []) → sp (V.ref x :: vs) H2 (fun v H3 => v = .non ∧ Q (.ref x) H3) E) : tMakeR C sp E (clA ts) σ H Q :=
  ⟨_, q, fun vs H1 k x dx hx hdx ne => k x dx _ hx (Evl.Ex.trans (Evl.Ex.new hdx) (Evl.Ex.new (by rw [upd_ne ne.symm]; exact hx))) upd_same⟩
theorem w_methR (q : ta σ H fun x H1 => ∃ a dx fs, x = .ref a ∧ H1 a = some (.ins C dx fs) ∧ fs.lookup m = none ∧ ts σ H1 fun vs H2 => sp (x :: vs) H2 Q E) : tMethR C m sp E ta ts σ H Q := q
theorem w_methR2 {dx : Addr} {fs : List (Str × V)} {P : Prop} (h : H a = some (.ins C dx fs)) (l : fs.lookup m = none) (q : P) : ∃ a' dx' fs', V.ref a = .ref a' ∧ H a' = some (.ins C dx' fs') ∧ fs'.lookup m = none ∧ P := ⟨a, dx, fs, rfl, h, l, q⟩
theorem w_tFld (q : ta σ H fun x H1 => ∃ a C dx fs v, x = .ref a ∧ H1 a = some (.ins C dx fs) ∧ Cls K C ∧ NoAttr K C f ∧ fs.lookup f = some v ∧ Q v H1) : tFld K ta f σ H Q := q
theorem w_CVal {v : V} {u mc : Value} (r : CRead K C mc) (k : CVal K C mc f v u) (q : Q v H) : tCVal K (tC (.ref C)) f σ H Q := ⟨C, mc, v, u, rfl, r, k, q⟩
theorem w_sFld {tv : TE} (q : tv σ H fun y H1 => ta σ H1 fun x H2 => ∃ a C dx fs, x = .ref a ∧ H2 a = some (.ins C dx fs) ∧ Cls K C ∧ NoAttr K C f ∧ fs.length < 1000 ∧ D.nx σ (upd H2 a (.ins C dx (putF f y fs)))) : sFld K ta tv f D σ H := q
theorem w_sFld2 {y : V} {dx : Addr} {fs : List (Str × V)} (h : H a = some (.ins C dx fs)) (c : Cls K C) (n : NoAttr K C f) (l : fs.length < 1000) (q : ∀ H2, ExB a H H2 → H2 a = some (.ins C dx (putF f y fs)) → D.nx σ H2) :
    ∃ a' C' dx' fs', V.ref a = .ref a' ∧ H a' = some (.ins C' dx' fs') ∧ Cls K C' ∧ NoAttr K C' f ∧ fs'.length < 1000 ∧ D.nx σ (upd H a' (.ins C' dx' (putF f y fs'))) := ⟨a, C, dx, fs, rfl, h, c, n, l, q _ ExB.upd upd_same⟩
theorem w_tSl {r : V → Option Int → Option Int → Hp → VK → Prop} {tlo thi : TO} (q : ta σ H fun x H1 => tlo σ H1 fun l H2 => thi σ H2 fun u H3 => r x l u H3 Q) : tSl r ta tlo thi σ H Q := q
theorem w_noPart {R : Option Int → Hp → Prop} (q : R none H) : tNoPart σ H R := q
theorem w_part {R : Option Int → Hp → Prop} (q : te σ H fun x H1 => ∃ i, x = .int i ∧ R (some i) H1) : tPart te σ H R := q
theorem w_exint {P : Int → Prop} {i : Int} (q : P i) : ∃ j, V.int i = .int j ∧ P j := ⟨i, rfl, q⟩
theorem w_slL {lo hi : Option Int} (h : SqL K H a xs) (q : ∀ p H2, H p = none → Ex H H2 → H2 p = some (.lst (cutV xs lo hi)) → Q (.ref p) H2) : rSlL K (.ref a) lo hi H Q := ⟨a, xs, rfl, h, w_new1 q⟩
theorem w_catL {b : Addr} {ys : List V} (h : H a = some (.lst xs)) (h2 : H b = some (.lst ys)) (z : xs.length + ys.length ≤ 100000) (q : ∀ p H2, H p = none → Ex H H2 → H2 p = some (.lst (xs ++ ys)) → Q (.ref p) H2) : rCat (.ref a) (.ref b) H Q :=
  ⟨a, b, xs, ys, rfl, rfl, h, h2, Nat.le_trans z (by decide), w_new1 q⟩
theorem w_isIn (h : SqL K H a xs ∨ SqT K H a xs) (hx : flatV x = true) (hf : xs.all flatV = true) (q : Q (.bl (inV x xs)) H) : rIn K false x (.ref a) H Q := ⟨a, xs, rfl, h, hx, hf, q⟩
theorem w_notIn (h : SqL K H a xs ∨ SqT K H a xs) (hx : flatV x = true) (hf : xs.all flatV = true) (q : Q (.bl (!inV x xs)) H) : rIn K true x (.ref a) H Q := ⟨a, xs, rfl, h, hx, hf, q⟩
theorem w_inS {cc : Nat} {z : Str} (q : Q (.bl (decide (cc ∈ z.cps.toList))) H) : rInS (.str ⟨#[cc]⟩) (.str z) H Q := ⟨cc, z, rfl, rfl, q⟩
theorem w_append {l : Addr} {y : V} (h : H l = some (.lst xs)) (z : xs.length < 100000) (q : ∀ H2, ExB l H H2 → H2 l = some (.lst (xs ++ [y])) → Q .non H2) : rAppend (.ref l) [y] H Q :=
  ⟨l, xs, y, rfl, rfl, h, Nat.lt_of_lt_of_le z (by decide), q _ ExB.upd upd_same⟩
theorem w_BM {T : String} {r : V → List V → Hp → VK → Prop} (q : ta σ H fun x H1 => tyV K T x H1 ∧ ts σ H1 fun xs H2 => r x xs H2 Q) : tBM K T r ta ts σ H Q := q
theorem w_BML {P : Prop} (h : SqL K H a xs) (q : P) : tyV K "list" (.ref a) H ∧ P := ⟨.inl ⟨rfl, xs, h⟩, q⟩
theorem w_setL {i : Int} {j : Nat} {v : V} {P : Hp → Prop} (h : H a = some (.lst xs)) (hi : ixN xs.length i = some j) (q : ∀ H2, ExB a H H2 → H2 a = some (.lst (xs.set j v)) → P H2) : rSetL (.ref a) (.int i) v H P :=
  ⟨a, xs, i, j, rfl, rfl, h, hi, q _ ExB.upd upd_same⟩
theorem w_gSub {to ti : TE} {t : TSet} {v : V} {P : St → Hp → Prop} (q : to σ H fun o H1 => ti σ H1 fun i H2 => t o i v H2 fun H3 => P σ H3) : gSub to ti t v σ H P := q
/-- [e for c in text] -/
theorem w_lcS {vs : List Nat} {z : Str} (f : Nat → V) (hz : z.cps.size ≤ 1000) (ht : ∀ R : VK, R (.str z) H → tl σ H R)
    (hb : ∀ (i cc : Nat), z.cps[i]? = some cc → ∀ H1, Ex H H1 → ∀ R : VK, (∀ H2, Ex H1 H2 → R (f cc) H2) → g (.str ⟨#[cc]⟩) (wipe σ vs) H1 fun σ2 H2 => wipe σ2 vs = wipe σ vs ∧ te σ2 H2 R)
    (q : ∀ p H2, H p = none → Ex H H2 → H2 p = some (.lst (z.cps.toList.map f)) → Q (.ref p) H2) : tLc (iStr tl) g tYes te vs σ H Q := by
  refine ht _ ⟨z, rfl, fun D hD => ?_⟩
  refine lc_it walk_str (fun (i : Nat) H' => Ex H H' ∧ H' D = some (.lst ((z.cps.toList.take i).map f))) ⟨Evl.Ex.new hD, by simpa using upd_same⟩ (fun _ _ _ _ => trivial) ?_ ?_
  · rintro i x H' H'' hi ⟨e, hd⟩ ⟨rfl, cc, hc, rfl⟩
    refine hb i cc hc H'' e _ fun H2 e2 => ?_
    have hc' : z.cps.toList[i]? = some cc := by simpa using hc
    refine ⟨_, e2 D _ hd, ?_, ExB.ex (Evl.Ex.trans e e2) hD ExB.upd, ?_⟩
    · rw [List.length_map, List.length_take]
      refine Nat.lt_of_le_of_lt (Nat.min_le_right _ _) ?_
      rw [Array.length_toList]
      exact Nat.lt_of_le_of_lt hz (by decide)
    · rw [upd_same, List.take_succ, hc']
      simp
  · rintro H' ⟨e, hd⟩
    have l : z.cps.toList.take z.cps.size = z.cps.toList := by rw [← Array.length_toList, List.take_length]
    rw [l] at hd
    exact q D H' hD e hd
/-- [e for k in range(n)], its elements n values, where the state may change as P says -/
theorem w_lcR {vs : List Nat} {n : Nat} (Pv : Addr → Nat → Hp → Prop) (hn : n ≤ 1000) (ht : ∀ R : List V → Hp → Prop, R [.int (n : Int)] H → ts σ H R)
    (q0 : ∀ D, H D = none → Pv D 0 (upd H D (.lst [])))
    (hb : ∀ D, H D = none → ∀ (i : Nat) H1, i < n → Pv D i H1 → g (.int i) (wipe σ vs) H1 fun σ2 H2 => wipe σ2 vs = wipe σ vs ∧ te σ2 H2 fun y H4 => ∃ acc, H4 D = some (.lst acc) ∧ acc.length < sizeLine ∧ Pv D (i + 1) (upd H4 D (.lst (acc ++ [y]))))
    (q : ∀ D, H D = none → ∀ H2, Pv D n H2 → Q (.ref D) H2) : tLc (iRng1 ts) g tYes te vs σ H Q := by
  refine ht _ ⟨n, rfl, by omega, by omega, fun D hD => ?_⟩
  have e0 : ((n : Int)).toNat = n := by omega
  rw [e0]
  exact lc_range (lo := 0) (n := n) (Pv D) (q0 D hD) (fun i H1 hi p => by
    have e : (0 : Int) + (i : Int) = i := Int.zero_add _
    rw [e]
    exact hb D hD i H1 hi p) (fun H2 p => q D hD H2 p)
end
end EB
namespace EB
open PySem PySem.Spec L2 StX ClX
set_option maxHeartbeats 2000000
section
variable {σ : St} {H : Hp} {Q : VK} {K : PySem.W.Frag} {a b : Addr} {xs ys : List V}
/-- t[:k] of a tuple, not the whole -/
theorem w_slTk {k : Nat} (h : SqT K H a xs) (hk : k < xs.length) (q : ∀ p H2, H p = none → Ex H H2 → H2 p = some (.tup (xs.take k)) → Q (.ref p) H2) : rSlA K (.ref a) none (some (k : Int)) H Q := by
  have e : HT.sIx xs.length xs.length (some (k : Int)) = k := by
    rw [HT.sIx_nat]
    omega
  refine ⟨a, xs, rfl, h, fun z => ?_, fun _ => ?_⟩
  · rw [e] at z
    omega
  · have ec : cutV xs none (some (k : Int)) = xs.take k := by
      unfold cutV
      rw [e]
      show (xs.drop 0).take (k - 0) = xs.take k
      rw [List.drop_zero, Nat.sub_zero]
    rw [ec]
    exact w_new1 q
/-- xs[:k] of a list -/
theorem w_slLk {k : Nat} (h : SqL K H a xs) (q : ∀ p H2, H p = none → Ex H H2 → H2 p = some (.lst (xs.take k)) → Q (.ref p) H2) : rSlL K (.ref a) none (some (k : Int)) H Q := by
  have ec : cutV xs none (some (k : Int)) = xs.take k := by
    unfold cutV
    rw [HT.sIx_nat]
    show (xs.drop 0).take (min k xs.length - 0) = xs.take k
    rw [List.drop_zero, Nat.sub_zero]
    by_cases hk : k ≤ xs.length
    · rw [Nat.min_eq_left hk]
    · rw [Nat.min_eq_right (by omega), List.take_length, List.take_of_length_le (by omega)]
  refine w_slL (lo := none) (hi := some (k : Int)) h ?_
  rw [ec]
  exact q
theorem w_eqD {x y : V} {d e : PyData} (h1 : Dp K H x d) (h2 : Dp K H y e) (s1 : SeqAt.shaped d = true) (s2 : SeqAt.shaped e = true) (q : Q (.bl (PyData.eqv d e)) H) : rEqD K x y H Q := ⟨d, e, h1, h2, s1, s2, q⟩
theorem w_neD {x y : V} {d e : PyData} (h1 : Dp K H x d) (h2 : Dp K H y e) (s1 : SeqAt.shaped d = true) (s2 : SeqAt.shaped e = true) (q : Q (.bl (!PyData.eqv d e)) H) : rNeD K x y H Q := ⟨d, e, h1, h2, s1, s2, q⟩
theorem atI_pos {α : Type} {zs : List α} {i : Int} {v : α} (h0 : 0 ≤ i) (h : zs[i.toNat]? = some v) : atI zs i = some v := by
  have := atI_nat h
  rwa [Int.toNat_of_nonneg h0] at this
theorem ixN_pos {n : Nat} {i : Int} (h0 : 0 ≤ i) (h1 : i < n) : ixN n i = some i.toNat := by
  unfold ixN
  rw [if_pos h0, if_pos h1]
/-- a text among texts -/
theorem inV_str {k : Str} {ks : List Str} : inV (.str k) (ks.map V.str) = decide (k ∈ ks) := by
  induction ks with
  | nil => rfl
  | cons x ks ih =>
    show (x == k || inV (.str k) (ks.map V.str)) = _
    rw [ih]
    by_cases h : x = k
    · subst h
      simp
    · have h' : ¬ k = x := fun e => h e.symm
      simp [h, h']
theorem flat_strs {ks : List Str} : (ks.map V.str).all flatV = true := by
  rw [List.all_eq_true]
  intro x hx
  obtain ⟨k, _, rfl⟩ := List.mem_map.mp hx
  rfl
theorem flat_ints {ks : List Int} : (ks.map V.int).all flatV = true := by
  rw [List.all_eq_true]
  intro x hx
  obtain ⟨k, _, rfl⟩ := List.mem_map.mp hx
  rfl
/-! ### loops whose head makes what is walked -/
variable {g : TG} {tt : TT} {te tl : TE} {vs : List Nat} {tb : TS} {D : Ends}
def lcTT (K : PySem.W.Frag) (g : TG) (tt : TT) (te : TE) (vs : List Nat) (σ : St) (Q : VK) : VK := fun x H1 => ∃ a, x = .ref a ∧ (∃ xs, SqT K H1 a xs) ∧ ∀ D, H1 D = none → ∃ W : Nat → Nat → Hp → Prop, (∃ m, W 0 m (upd H1 D (.lst []))) ∧ ∀ i m H, W i m H →
  ((Itt K a).stop i H ∧ Q (.ref D) H) ∨ ((Itt K a).go i H ∧ ∃ Nx : Hp → Prop, (∀ H', Nx H' → ∃ m', m' < m ∧ W (i + 1) m' H') ∧ ∀ x H', (Itt K a).yld i H x H' → g x (wipe σ vs) H' fun σ2 H2 => wipe σ2 vs = wipe σ vs ∧ tt σ2 H2 fun b H3 =>
    if b = true then te σ2 H3 fun y H4 => ∃ acc, H4 D = some (.lst acc) ∧ acc.length < sizeLine ∧ Nx (upd H4 D (.lst (acc ++ [y]))) else Nx H3)
def lcTL (K : PySem.W.Frag) (g : TG) (tt : TT) (te : TE) (vs : List Nat) (σ : St) (Q : VK) : VK := fun x H1 => ∃ a, x = .ref a ∧ (∃ xs, SqL K H1 a xs) ∧ ∀ D, H1 D = none → ∃ W : Nat → Nat → Hp → Prop, (∃ m, W 0 m (upd H1 D (.lst []))) ∧ ∀ i m H, W i m H →
  ((Itl K a).stop i H ∧ Q (.ref D) H) ∨ ((Itl K a).go i H ∧ ∃ Nx : Hp → Prop, (∀ H', Nx H' → ∃ m', m' < m ∧ W (i + 1) m' H') ∧ ∀ x H', (Itl K a).yld i H x H' → g x (wipe σ vs) H' fun σ2 H2 => wipe σ2 vs = wipe σ vs ∧ tt σ2 H2 fun b H3 =>
    if b = true then te σ2 H3 fun y H4 => ∃ acc, H4 D = some (.lst acc) ∧ acc.length < sizeLine ∧ Nx (upd H4 D (.lst (acc ++ [y]))) else Nx H3)
theorem w_lcTs (q : tl σ H (lcTT K g tt te vs σ Q)) : tLc (iTup K tl) g tt te vs σ H Q := q
theorem w_lcLs (q : tl σ H (lcTL K g tt te vs σ Q)) : tLc (iList K tl) g tt te vs σ H Q := q
/-- [e for target in t if test]: cs the tests' answers, ys the elements' values; nothing but new objects -/
theorem w_lcTt (cs : List Bool) (ys : List V) (hx : SqT K H a xs) (hz : xs.length ≤ 1000) (hc : cs.length = xs.length) (hy : ys.length = xs.length)
    (hb : ∀ (i : Nat) x y c, xs[i]? = some x → ys[i]? = some y → cs[i]? = some c → ∀ H1, Ex H H1 → ∀ (R : VK) (N : Hp → Prop), (c = true → ∀ H2, Ex H1 H2 → R y H2) → (c = false → ∀ H2, Ex H1 H2 → N H2) → g x (wipe σ vs) H1 fun σ2 H2 => wipe σ2 vs = wipe σ vs ∧ tt σ2 H2 fun b H3 => if b = true then te σ2 H3 R else N H3)
    (q : ∀ p H2, H p = none → Ex H H2 → H2 p = some (.lst (((cs.zip ys).filter (·.1)).map (·.2))) → Q (.ref p) H2) : lcTT K g tt te vs σ Q (.ref a) H := by
  refine ⟨a, rfl, ⟨_, hx⟩, fun D hD => ?_⟩
  have small : ∀ i, ((((cs.zip ys).take i).filter (·.1)).map (·.2)).length ≤ 1000 := fun i => by
    rw [List.length_map]
    refine Nat.le_trans (List.length_filter_le _ _) ?_
    rw [List.length_take, List.length_zip, hc, hy]
    omega
  refine lc_tup (K := K) (a := a) (xs := xs) (fun i H' => Ex H H' ∧ H' D = some (.lst ((((cs.zip ys).take i).filter (·.1)).map (·.2)))) ⟨Evl.Ex.new hD, by simpa using upd_same⟩ (fun i H' _ ⟨e, _⟩ => ex_sqT e hx) ?_ ?_
  · rintro i x H' hi ⟨e, hd⟩
    have lt := (List.getElem?_eq_some_iff.mp hi).1
    have hyi : ys[i]? = some ys[i] := List.getElem?_eq_getElem (by omega)
    have hci : cs[i]? = some cs[i] := List.getElem?_eq_getElem (by omega)
    have hzi : (cs.zip ys)[i]? = some (cs[i], ys[i]) := by rw [List.getElem?_zip_eq_some]; exact ⟨hci, hyi⟩
    refine hb i x ys[i] cs[i] hi hyi hci H' e _ _ (fun ct H2 e2 => ?_) (fun cf H2 e2 => ?_)
    · refine ⟨_, e2 D _ hd, Nat.lt_of_le_of_lt (small i) (by decide), ExB.ex (Evl.Ex.trans e e2) hD ExB.upd, ?_⟩
      rw [upd_same, List.take_succ, hzi, List.filter_append, List.map_append]
      simp [ct]
    · refine ⟨Evl.Ex.trans e e2, ?_⟩
      rw [e2 D _ hd, List.take_succ, hzi, List.filter_append, List.map_append]
      simp [cf]
  · rintro H' ⟨e, hd⟩
    have l : (cs.zip ys).take xs.length = cs.zip ys := List.take_of_length_le (by rw [List.length_zip, hc, hy]; omega)
    rw [l] at hd
    exact q D H' hD e hd
theorem w_lcLt (cs : List Bool) (ys : List V) (hx : SqL K H a xs) (hz : xs.length ≤ 1000) (hc : cs.length = xs.length) (hy : ys.length = xs.length)
    (hb : ∀ (i : Nat) x y c, xs[i]? = some x → ys[i]? = some y → cs[i]? = some c → ∀ H1, Ex H H1 → ∀ (R : VK) (N : Hp → Prop), (c = true → ∀ H2, Ex H1 H2 → R y H2) → (c = false → ∀ H2, Ex H1 H2 → N H2) → g x (wipe σ vs) H1 fun σ2 H2 => wipe σ2 vs = wipe σ vs ∧ tt σ2 H2 fun b H3 => if b = true then te σ2 H3 R else N H3)
    (q : ∀ p H2, H p = none → Ex H H2 → H2 p = some (.lst (((cs.zip ys).filter (·.1)).map (·.2))) → Q (.ref p) H2) : lcTL K g tt te vs σ Q (.ref a) H := by
  refine ⟨a, rfl, ⟨_, hx⟩, fun D hD => ?_⟩
  have small : ∀ i, ((((cs.zip ys).take i).filter (·.1)).map (·.2)).length ≤ 1000 := fun i => by
    rw [List.length_map]
    refine Nat.le_trans (List.length_filter_le _ _) ?_
    rw [List.length_take, List.length_zip, hc, hy]
    omega
  refine lc_list (K := K) (a := a) (xs := xs) (fun i H' => Ex H H' ∧ H' D = some (.lst ((((cs.zip ys).take i).filter (·.1)).map (·.2)))) ⟨Evl.Ex.new hD, by simpa using upd_same⟩ (fun i H' _ ⟨e, _⟩ => ex_sqL e hx) ?_ ?_
  · rintro i x H' hi ⟨e, hd⟩
    have lt := (List.getElem?_eq_some_iff.mp hi).1
    have hyi : ys[i]? = some ys[i] := List.getElem?_eq_getElem (by omega)
    have hci : cs[i]? = some cs[i] := List.getElem?_eq_getElem (by omega)
    have hzi : (cs.zip ys)[i]? = some (cs[i], ys[i]) := by rw [List.getElem?_zip_eq_some]; exact ⟨hci, hyi⟩
    refine hb i x ys[i] cs[i] hi hyi hci H' e _ _ (fun ct H2 e2 => ?_) (fun cf H2 e2 => ?_)
    · refine ⟨_, e2 D _ hd, Nat.lt_of_le_of_lt (small i) (by decide), ExB.ex (Evl.Ex.trans e e2) hD ExB.upd, ?_⟩
      rw [upd_same, List.take_succ, hzi, List.filter_append, List.map_append]
      simp [ct]
    · refine ⟨Evl.Ex.trans e e2, ?_⟩
      rw [e2 D _ hd, List.take_succ, hzi, List.filter_append, List.map_append]
      simp [cf]
  · rintro H' ⟨e, hd⟩
    have l : (cs.zip ys).take xs.length = cs.zip ys := List.take_of_length_le (by rw [List.length_zip, hc, hy]; omega)
    rw [l] at hd
    exact q D H' hD e hd
/-- all kept -/
theorem zip_all (ys : List V) : (((List.replicate ys.length true).zip ys).filter (·.1)).map (·.2) = ys := by
  induction ys with
  | nil => rfl
  | cons y ys ih => simp [List.replicate_succ, ih]
theorem w_lcTa (ys : List V) (hx : SqT K H a xs) (hz : xs.length ≤ 1000) (hy : ys.length = xs.length)
    (hb : ∀ (i : Nat) x y, xs[i]? = some x → ys[i]? = some y → ∀ H1, Ex H H1 → ∀ R : VK, (∀ H2, Ex H1 H2 → R y H2) → g x (wipe σ vs) H1 fun σ2 H2 => wipe σ2 vs = wipe σ vs ∧ te σ2 H2 R)
    (q : ∀ p H2, H p = none → Ex H H2 → H2 p = some (.lst ys) → Q (.ref p) H2) : lcTT K g tYes te vs σ Q (.ref a) H := by
  refine w_lcTt (List.replicate ys.length true) ys hx hz (by rw [List.length_replicate, hy]) hy (fun i x y c hi hyi hci H1 e1 R N hR _ => ?_) (by rw [zip_all]; exact q)
  have ct : c = true := (List.mem_replicate.mp (List.mem_of_getElem? hci)).2
  exact hb i x y hi hyi H1 e1 R (hR ct)
theorem w_lcLa (ys : List V) (hx : SqL K H a xs) (hz : xs.length ≤ 1000) (hy : ys.length = xs.length)
    (hb : ∀ (i : Nat) x y, xs[i]? = some x → ys[i]? = some y → ∀ H1, Ex H H1 → ∀ R : VK, (∀ H2, Ex H1 H2 → R y H2) → g x (wipe σ vs) H1 fun σ2 H2 => wipe σ2 vs = wipe σ vs ∧ te σ2 H2 R)
    (q : ∀ p H2, H p = none → Ex H H2 → H2 p = some (.lst ys) → Q (.ref p) H2) : lcTL K g tYes te vs σ Q (.ref a) H := by
  refine w_lcLt (List.replicate ys.length true) ys hx hz (by rw [List.length_replicate, hy]) hy (fun i x y c hi hyi hci H1 e1 R N hR _ => ?_) (by rw [zip_all]; exact q)
  have ct : c = true := (List.mem_replicate.mp (List.mem_of_getElem? hci)).2
  exact hb i x y hi hyi H1 e1 R (hR ct)
def foTT (K : PySem.W.Frag) (g : TG) (tb : TS) (D : Ends) (σ : St) : VK := fun x H1 => ∃ a, x = .ref a ∧ (∃ xs, SqT K H1 a xs) ∧ ∃ W : Nat → Nat → St → Hp → Prop, (∃ m, W 0 m σ H1) ∧ ∀ i m σ H, W i m σ H →
  ((Itt K a).stop i H ∧ D.nx σ H) ∨ ((Itt K a).go i H ∧ ∃ N : St → Hp → Prop, (∀ σ' H', N σ' H' → ∃ m', m' < m ∧ W (i + 1) m' σ' H') ∧ ∀ x H', (Itt K a).yld i H x H' → g x σ H' fun σ2 H2 => tb { D with nx := N, ct := N, bk := D.nx } σ2 H2)
def foTL (K : PySem.W.Frag) (g : TG) (tb : TS) (D : Ends) (σ : St) : VK := fun x H1 => ∃ a, x = .ref a ∧ (∃ xs, SqL K H1 a xs) ∧ ∃ W : Nat → Nat → St → Hp → Prop, (∃ m, W 0 m σ H1) ∧ ∀ i m σ H, W i m σ H →
  ((Itl K a).stop i H ∧ D.nx σ H) ∨ ((Itl K a).go i H ∧ ∃ N : St → Hp → Prop, (∀ σ' H', N σ' H' → ∃ m', m' < m ∧ W (i + 1) m' σ' H') ∧ ∀ x H', (Itl K a).yld i H x H' → g x σ H' fun σ2 H2 => tb { D with nx := N, ct := N, bk := D.nx } σ2 H2)
theorem w_foTs (q : tl σ H (foTT K g tb D σ)) : tFor (iTup K tl) g tb D σ H := q
theorem w_foLs (q : tl σ H (foTL K g tb D σ)) : tFor (iList K tl) g tb D σ H := q
theorem w_foTt (Pv : Nat → St → Hp → Prop) (hx : SqT K H a xs) (h0 : Pv 0 σ H) (hl : ∀ i σ' H', i ≤ xs.length → Pv i σ' H' → SqT K H' a xs)
    (hs : ∀ i x σ' H', xs[i]? = some x → Pv i σ' H' → g x σ' H' fun σ2 H2 => tb { D with nx := Pv (i + 1), ct := Pv (i + 1), bk := D.nx } σ2 H2) (hd : ∀ σ' H', Pv xs.length σ' H' → D.nx σ' H') : foTT K g tb D σ (.ref a) H :=
  ⟨a, rfl, ⟨_, hx⟩, for_tup Pv h0 hl hs hd⟩
theorem w_foLt (Pv : Nat → St → Hp → Prop) (hx : SqL K H a xs) (h0 : Pv 0 σ H) (hl : ∀ i σ' H', i ≤ xs.length → Pv i σ' H' → SqL K H' a xs)
    (hs : ∀ i x σ' H', xs[i]? = some x → Pv i σ' H' → g x σ' H' fun σ2 H2 => tb { D with nx := Pv (i + 1), ct := Pv (i + 1), bk := D.nx } σ2 H2) (hd : ∀ σ' H', Pv xs.length σ' H' → D.nx σ' H') : foTL K g tb D σ (.ref a) H :=
  ⟨a, rfl, ⟨_, hx⟩, for_list Pv h0 hl hs hd⟩
end
end EB
namespace EB
open PySem PySem.Spec L2 StX ClX
set_option maxHeartbeats 2000000
section
variable {σ : St} {H : Hp} {Q : VK} {K : PySem.W.Frag} {g : TG} {tt : TT} {te : TE} {ts : TA} {vs : List Nat} {D : Ends}
theorem w_parP3 {k l m : Nat} {t : TA} (q : t σ H fun vs H1 => ∃ u v w, vs = [u, v, w] ∧ D.nx (((σ.set k (some u)).set l (some v)).set m (some w)) H1) : tPar3 k l m t D σ H := q
theorem w_par23 {u v w : V} {P : V → V → V → Prop} (q : P u v w) : ∃ u' v' w', [u, v, w] = [u', v', w'] ∧ P u' v' w' := ⟨u, v, w, rfl, q⟩
theorem w_un {f : Int → V} (q : te σ H fun x H1 => (rU f) x H1 Q) : tUn (rU f) te σ H Q := q
theorem w_rU {f : Int → V} {i : Int} (q : Q (f i) H) : rU f (.int i) H Q := ⟨i, rfl, q⟩
/-- range's filter so far -/
theorem range_snoc {p : Nat → Bool} {f : Nat → V} {i : Nat} : ((List.range (i + 1)).filter p).map f = ((List.range i).filter p).map f ++ (if p i = true then [f i] else []) := by
  rw [List.range_succ, List.filter_append, List.map_append]
  by_cases h : p i = true
  · simp [h]
  · simp [h]
theorem range_short {p : Nat → Bool} {f : Nat → V} {i n : Nat} (h : i ≤ n) : (((List.range i).filter p).map f).length ≤ n := by
  rw [List.length_map]
  refine Nat.le_trans (List.length_filter_le _ _) ?_
  rw [List.length_range]
  exact h
/-- the body of [e for k in range(lo, lo + n) if test]: c k the test's answer, y k the element; nothing but new objects -/
def LcB (g : TG) (tt : TT) (te : TE) (vs : List Nat) (σ : St) (H : Hp) (lo : Int) (n : Nat) (c : Nat → Bool) (y : Nat → V) : Prop :=
  ∀ (i : Nat) H1, i < n → Ex H H1 → ∀ (R : VK) (N : Hp → Prop), (c i = true → ∀ H2, Ex H1 H2 → R (y i) H2) → (c i = false → ∀ H2, Ex H1 H2 → N H2) → g (.int (lo + i)) (wipe σ vs) H1 fun σ2 H2 => wipe σ2 vs = wipe σ vs ∧ tt σ2 H2 fun b H3 => if b = true then te σ2 H3 R else N H3
theorem lcR_core {lo : Int} {n : Nat} (c : Nat → Bool) (y : Nat → V) (hn : n ≤ 100000) (hb : LcB g tt te vs σ H lo n c y) (q : ∀ p H2, H p = none → Ex H H2 → H2 p = some (.lst (((List.range n).filter c).map y)) → Q (.ref p) H2) :
    ∀ D, H D = none → ∃ W : Nat → Nat → Hp → Prop, (∃ m, W 0 m (upd H D (.lst []))) ∧ ∀ i m H, W i m H →
      ((Itr lo n).stop i H ∧ Q (.ref D) H) ∨ ((Itr lo n).go i H ∧ ∃ Nx : Hp → Prop, (∀ H', Nx H' → ∃ m', m' < m ∧ W (i + 1) m' H') ∧ ∀ x H', (Itr lo n).yld i H x H' → g x (wipe σ vs) H' fun σ2 H2 => wipe σ2 vs = wipe σ vs ∧ tt σ2 H2 fun b H3 =>
        if b = true then te σ2 H3 fun y H4 => ∃ acc, H4 D = some (.lst acc) ∧ acc.length < sizeLine ∧ Nx (upd H4 D (.lst (acc ++ [y]))) else Nx H3) := by
  intro D hD
  refine lc_range (lo := lo) (n := n) (fun i H' => Ex H H' ∧ H' D = some (.lst (((List.range i).filter c).map y))) ⟨Evl.Ex.new hD, upd_same⟩ (fun i H1 hi p => ?_) (fun H2 p => q D H2 hD p.1 p.2)
  refine hb i H1 hi p.1 _ _ (fun ct H2 e2 => ?_) (fun cf H2 e2 => ?_)
  · refine ⟨_, e2 D _ p.2, Nat.lt_of_le_of_lt (range_short (Nat.le_trans (Nat.le_of_lt hi) hn)) (by decide), ExB.ex (Evl.Ex.trans p.1 e2) hD ExB.upd, ?_⟩
    rw [upd_same, range_snoc, if_pos ct]
  · refine ⟨Evl.Ex.trans p.1 e2, ?_⟩
    rw [e2 D _ p.2, range_snoc, if_neg (by rw [cf]; decide), List.append_nil]
theorem w_lcRf1 {n : Nat} (c : Nat → Bool) (y : Nat → V) (hn : n ≤ 100000) (ht : ∀ R : List V → Hp → Prop, R [.int (n : Int)] H → ts σ H R) (hb : LcB g tt te vs σ H 0 n c y)
    (q : ∀ p H2, H p = none → Ex H H2 → H2 p = some (.lst (((List.range n).filter c).map y)) → Q (.ref p) H2) : tLc (iRng1 ts) g tt te vs σ H Q := by
  refine ht _ ⟨n, rfl, by omega, by omega, ?_⟩
  have e0 : ((n : Int)).toNat = n := by omega
  rw [e0]
  exact lcR_core c y hn hb q
theorem w_lcRf2 {lo hi : Int} {n : Nat} (c : Nat → Bool) (y : Nat → V) (hn : n ≤ 100000) (hl : -1000000000000000000 ≤ lo ∧ lo ≤ 1000000000000000000) (eh : (hi - lo).toNat = n) (hh : -1000000000000000000 ≤ hi ∧ hi ≤ 2000000000000000000) (ht : ∀ R : List V → Hp → Prop, R [.int lo, .int hi] H → ts σ H R) (hb : LcB g tt te vs σ H lo n c y)
    (q : ∀ p H2, H p = none → Ex H H2 → H2 p = some (.lst (((List.range n).filter c).map y)) → Q (.ref p) H2) : tLc (iRng2 ts) g tt te vs σ H Q := by
  refine ht _ ⟨lo, hi, rfl, ⟨by omega, by omega, by omega, by omega⟩, ?_⟩
  rw [eh]
  exact lcR_core c y hn hb q
/-- no test true -/
theorem range_none {n : Nat} {c : Nat → Bool} {y : Nat → V} (h : ∀ i, i < n → c i = false) : ((List.range n).filter c).map y = [] := by
  have e : (List.range n).filter c = [] := List.filter_eq_nil_iff.mpr fun i hi => by
    rw [h i (List.mem_range.mp hi)]
    decide
  rw [e]
  rfl
/-- the last whose test is true -/
theorem range_last {n m : Nat} {c : Nat → Bool} {y : Nat → V} (hm : m < n) (ct : c m = true) (h : ∀ i, m < i → i < n → c i = false) : ∃ xs, ((List.range n).filter c).map y = xs ++ [y m] := by
  induction n with
  | zero => omega
  | succ n ih =>
    rw [range_snoc]
    by_cases e : m = n
    · subst e
      rw [if_pos ct]
      exact ⟨_, rfl⟩
    · have cn := h n (by omega) (by omega)
      rw [if_neg (by rw [cn]; decide), List.append_nil]
      exact ih (by omega) fun i h1 h2 => h i h1 (by omega)
theorem atI_last {xs : List V} {v : V} : atI (xs ++ [v]) (-1) = some v := by
  have e : ixN (xs ++ [v]).length (-1) = some xs.length := by
    unfold ixN
    rw [List.length_append, List.length_singleton, if_neg (by decide), if_pos (by omega)]
    exact congrArg some (by omega)
  unfold atI
  rw [e]
  show (xs ++ [v])[xs.length]? = some v
  rw [List.getElem?_append_right (Nat.le_refl _), Nat.sub_self]
  rfl
theorem w_tYes {R : Bool → Hp → Prop} (q : R true H) : tYes σ H R := q
/-- over a list, no test true -/
theorem w_lcL0 {a : Addr} {xs : List V} (hx : SqL K H a xs) (hz : xs.length ≤ 1000)
    (hb : ∀ x, x ∈ xs → ∀ H1, Ex H H1 → ∀ (R : VK) (N : Hp → Prop), (∀ H2, Ex H1 H2 → N H2) → g x (wipe σ vs) H1 fun σ2 H2 => wipe σ2 vs = wipe σ vs ∧ tt σ2 H2 fun b H3 => if b = true then te σ2 H3 R else N H3)
    (q : ∀ p H2, H p = none → Ex H H2 → H2 p = some (.lst []) → Q (.ref p) H2) : lcTL K g tt te vs σ Q (.ref a) H := by
  refine w_lcLt (List.replicate xs.length false) xs hx hz (by simp) rfl (fun i x y c hi _ hc H1 e1 R N _ hN => hb x (List.mem_of_getElem? hi) H1 e1 R N (hN (List.mem_replicate.mp (List.mem_of_getElem? hc)).2)) ?_
  have e : (((List.replicate xs.length false).zip xs).filter (·.1)).map (·.2) = [] := by
    rw [List.map_eq_nil_iff, List.filter_eq_nil_iff]
    intro p hp
    have := (List.mem_replicate.mp (List.of_mem_zip hp).1).2
    rw [this]
    decide
  rw [e]
  exact q
/-- two roads to one place: what is to be shown there, once -/
theorem w_join {A : Prop} {P : Hp → Prop} (H : Hp) (main : (∀ H', Ex H H' → P H') → A) (fin : ∀ H', Ex H H' → P H') : A := main fin
end
end EB
namespace EB
open PySem PySem.Spec L2 StX ClX
set_option maxHeartbeats 2000000
/-! ## operators of own classes -/
section
variable {X : Cx} {CX : CXT} {k : Nat} {C g : Addr} {sp : Sp} {E : XK}
/-- g called by values -/
theorem run_own {pins : List (Addr × Obj)} {σ : L2.St} {H : Hp} {s : Shared} {Q : VK} {vs : List V} {us : List Value} (F : FnR X.prog X.w X.K X.mg X.base CX k g sp) (hr : Room k X.A) (hx : Passes CX X E) (I : Inv X pins σ H s) (r : Vals vs us) (h : sp vs H Q E) :
    wpAny (model X.prog X.w) X.A (call (.ref g) us) (EP X pins σ Q) X.xe s := wpAny_call (run_fnR F hr hx I r h)
/-- x in o (neg: not in), o an instance -/
def rInO (C : Addr) (sp : Sp) (E : XK) (neg : Bool) : R2 := fun x y H Q => ∃ a, y = .ref a ∧ (∃ dx fs, H a = some (.ins C dx fs)) ∧ sp [.ref a, x] H (fun r H' => ∃ b, r = .bl b ∧ Q (.bl (b != neg)) H') E
theorem has_own {pins : List (Addr × Obj)} {σ : L2.St} {H : Hp} {s : Shared} {Q : Bool → Hp → Prop} {R : Bool → Shared → Prop} {a : Addr} {x : V} {v : Value} (c : OwnM X.K C "__contains__" g) (F : FnR X.prog X.w X.K X.mg X.base CX k g sp) (hr : Room k X.A) (hx : Passes CX X E)
    (I : Inv X pins σ H s) (rx : RelV x v) (hi : ∃ dx fs, H a = some (.ins C dx fs)) (h : sp [.ref a, x] H (fun r H' => ∃ b, r = .bl b ∧ Q b H') E) (fin : ∀ b s' H', Inv X pins σ H' s' → Q b H' → R b s') : wpAny (model X.prog X.w) X.A (contains (.ref a) v) R X.xe s := by
  obtain ⟨ox, od, J, _⟩ := insC_at (X := X) I (.inr hi)
  unfold contains
  refine wpAny_holding ?_
  refine wpAny_bind ?_
  refine wpAny_bind ?_
  refine J.type.here ?_
  refine (PySem.W.looks_findIn I.kIn c.here).here ?_
  rw [if_neg (by simp)]
  refine wpAny_bind ?_
  refine PySem.W.unlessNone_K I.kIn J c.here c.isf ?_
  refine wpAny_mono (run_own (us := [.ref a, v]) (vs := [.ref a, x]) F hr hx I (.cons rfl (.cons rx .nil)) h) (fun r s' z => ?_) fun _ _ z => z
  obtain ⟨y, H', I', ry, b, rfl, q⟩ := z
  cases ry
  exact wpAny_truthy_bool (fin b s' H' I' q)
theorem op_inO (c : OwnM X.K C "__contains__" g) (F : FnR X.prog X.w X.K X.mg X.base CX k g sp) (hr : Room k X.A) (hx : Passes CX X E) : OpR X (compareOp .In) (rInO C sp E false) := by
  intro pins s σ H x y v u Q I rx ry h
  obtain ⟨a, rfl, hi, q⟩ := h
  cases ry
  refine wpAny_bind (has_own (Q := fun b H' => Q (.bl (b != false)) H') c F hr hx I rx hi q fun b s' H' I' z => wpAny_pure ?_)
  exact ⟨.bl b, H', I', rfl, by simpa using z⟩
theorem op_notInO (c : OwnM X.K C "__contains__" g) (F : FnR X.prog X.w X.K X.mg X.base CX k g sp) (hr : Room k X.A) (hx : Passes CX X E) : OpR X (compareOp .NotIn) (rInO C sp E true) := by
  intro pins s σ H x y v u Q I rx ry h
  obtain ⟨a, rfl, hi, q⟩ := h
  cases ry
  refine wpAny_bind (has_own (Q := fun b H' => Q (.bl (b != true)) H') c F hr hx I rx hi q fun b s' H' I' z => wpAny_pure ?_)
  exact ⟨.bl (!b), H', I', rfl, by simpa using z⟩
/-- what is called if it can be bound -/
theorem bound_own {pins : List (Addr × Obj)} {σ : L2.St} {H : Hp} {s : Shared} {R : Option Value → Shared → Prop} {a : Addr} {m : Str} {us : List Value} (c : OwnM X.K C m g) (I : Inv X pins σ H s) (hi : ∃ dx fs, H a = some (.ins C dx fs))
    (h : wpAny (model X.prog X.w) X.A (call (.ref g) (.ref a :: us)) (fun v => R (some v)) X.xe s) : wpAny (model X.prog X.w) X.A (callSpecialIfBound? (.ref a) m us) R X.xe s := by
  obtain ⟨ox, od, J, _⟩ := insC_at (X := X) I (.inr hi)
  simp only [callSpecialIfBound?, bindSpecialIfBound?]
  have last : wpAny (model X.prog X.w) X.A (call (.ref g) ([.ref a] ++ us) >>= fun v => pure (some v)) R X.xe s := wpAny_bind (wpAny_mono h (fun _ _ z => wpAny_pure z) fun _ _ z => z)
  refine wpAny_holding ?_
  refine wpAny_bind ?_
  refine wpAny_bind ?_
  refine wpAny_bind ?_
  refine J.type.here ?_
  refine (PySem.W.looks_findIn I.kIn c.here).here ?_
  refine wpAny_bind ?_
  refine wpAny_askSetting ?_
  refine wpAny_ite ?_
  have B := PySem.W.bind_fn (M := model X.prog X.w) I.kIn (.ref a) (beq_iff_eq.mp c.isf)
  split
  · refine wpAny_bind ?_
    exact B.here (wpAny_pure last)
  · refine wpAny_tryCatch ?_
    refine wpAny_bind ?_
    exact B.here (wpAny_pure last)
def rCmpO (C : Addr) (sp : Sp) (E : XK) : R2 := fun x y H Q => ∃ a b, x = .ref a ∧ y = .ref b ∧ (∃ dx fs, H a = some (.ins C dx fs)) ∧ (∃ dx fs, H b = some (.ins C dx fs)) ∧ sp [.ref a, .ref b] H (fun r H' => ∃ z, r = .bl z ∧ Q (.bl z) H') E
theorem rich_own {op : CmpOp} {m : Str} (hm : (cmpInfo op).2.1 = m) (hu : X.A.units < cLine) (c : OwnM X.K C m g) (F : FnR X.prog X.w X.K X.mg X.base CX k g sp) (hr : Room k X.A) (hx : Passes CX X E) : OpR X (richCompare op) (rCmpO C sp E) := by
  intro pins s σ H x y v u Q I rx ry h
  obtain ⟨a, b, rfl, rfl, ha, hb, q⟩ := h
  cases rx
  cases ry
  obtain ⟨oa, da, Ja, _⟩ := insC_at (X := X) I (.inr ha)
  obtain ⟨ob, db, Jb, _⟩ := insC_at (X := X) I (.inr hb)
  unfold richCompare
  refine wpAny_holding ?_
  refine wpAny_bind (wpAny_cRoomFor hu ?_)
  rw [show oneThing? op (.ref a) (.ref b) = none from rfl]
  dsimp only
  refine wpAny_bind ?_
  refine Ja.type.here ?_
  refine wpAny_bind ?_
  refine Jb.type.here ?_
  rw [if_neg (by simp)]
  refine wpAny_bind (wpAny_pure ?_)
  rw [if_neg (by decide)]
  refine wpAny_bind ?_
  unfold tryCompare
  refine wpAny_bind ?_
  rw [hm]
  refine bound_own c I ha ?_
  refine wpAny_mono (run_own (us := [.ref a, .ref b]) (vs := [.ref a, .ref b]) F hr hx I (.cons rfl (.cons rfl .nil)) q) (fun r s' z => ?_) fun _ _ z => z
  obtain ⟨w, H', I', rw', z', rfl, q'⟩ := z
  cases rw'
  exact wpAny_pure (wpAny_pure ⟨.bl z', H', I', rfl, q'⟩)
theorem op_leO (hu : X.A.units + 64 < cLine) (c : OwnM X.K C "__le__" g) (F : FnR X.prog X.w X.K X.mg X.base CX k g sp) (hr : Room k X.A) (hx : Passes CX X E) : OpR X (compareOp .LtE) (rCmpO C sp E) := rich_own rfl (by omega) c F hr hx
theorem op_ltO (hu : X.A.units + 64 < cLine) (c : OwnM X.K C "__lt__" g) (F : FnR X.prog X.w X.K X.mg X.base CX k g sp) (hr : Room k X.A) (hx : Passes CX X E) : OpR X (compareOp .Lt) (rCmpO C sp E) := rich_own rfl (by omega) c F hr hx
theorem op_geO (hu : X.A.units + 64 < cLine) (c : OwnM X.K C "__ge__" g) (F : FnR X.prog X.w X.K X.mg X.base CX k g sp) (hr : Room k X.A) (hx : Passes CX X E) : OpR X (compareOp .GtE) (rCmpO C sp E) := rich_own rfl (by omega) c F hr hx
theorem op_gtO (hu : X.A.units + 64 < cLine) (c : OwnM X.K C "__gt__" g) (F : FnR X.prog X.w X.K X.mg X.base CX k g sp) (hr : Room k X.A) (hx : Passes CX X E) : OpR X (compareOp .Gt) (rCmpO C sp E) := rich_own rfl (by omega) c F hr hx
end
end EB
namespace EB
open PySem PySem.Spec L2 StX ClX
set_option maxHeartbeats 2000000
/-! ## t[::-1], t a tuple -/
section
variable {prog : Program} {w : World} {A : Around} {E : Value → Shared → Prop} {s : Shared}
theorem back_bounds (n : Nat) : Builtin.Slice.sliceAdjust none none (-1) (n : Int) = ((n : Int) - 1, -1) := rfl
theorem back_places (n : Nat) : Builtin.Slice.slicePlaces ((n : Int) - 1) (-1) (-1) = n := by
  unfold Builtin.Slice.slicePlaces
  rw [if_neg (by decide)]
  by_cases h : (n : Int) - 1 > -1
  · rw [if_pos h, show (-(-1) : Int) = 1 by decide, Int.ediv_one]
    omega
  · rw [if_neg h]
    omega
theorem back_pick (xs : Array Value) : ((List.range xs.size).filterMap fun (m : Nat) => xs[(((xs.size : Int) - 1) + (m : Int) * (-1)).toNat]?) = xs.toList.reverse := by
  have g : ∀ l : List Nat, (∀ m ∈ l, m < xs.size) → (l.filterMap fun (m : Nat) => xs[(((xs.size : Int) - 1) + (m : Int) * (-1)).toNat]?) = l.filterMap ((fun i => xs[i]?) ∘ fun k => xs.size - 1 - k) := by
    intro l
    induction l with
    | nil => exact fun _ => rfl
    | cons m l ih =>
      intro hl
      have lm := hl m List.mem_cons_self
      have i1 := ih fun z hz => hl z (List.mem_cons_of_mem _ hz)
      have i2 : (((xs.size : Int) - 1) + (m : Int) * (-1)).toNat = xs.size - 1 - m := by omega
      rw [List.filterMap_cons, List.filterMap_cons, i1]
      rw [i2]
      rfl
  have e := g (List.range xs.size) fun m hm => List.mem_range.mp hm
  rw [e, ← List.filterMap_map, PySem.W.krv_range, List.filterMap_reverse, PySem.W.krv_all]
theorem applied_back {sl : Addr} {vs : Value} {n : Nat} {Q : Int × Int × Nat → Shared → Prop} (hs : s.heap.IsSliceOf sl .none .none vs) (ps : IsPart vs (some (-1))) (h : Q ((n : Int) - 1, -1, n) s) :
    wpAny (model prog w) A (Builtin.Slice.sliceApplied (.ref sl) (pure (n : Int))) Q E s := by
  obtain ⟨o, ho, hc, hd⟩ := id hs
  unfold Builtin.Slice.sliceApplied
  unfold Builtin.Slice.sliceFields
  refine wpAny_bind ?_
  refine wpAny_bind (wpAny_field ho hd (x := .none) rfl ?_)
  refine wpAny_bind (wpAny_field ho hd (x := .none) rfl ?_)
  refine wpAny_bind (wpAny_field ho hd (x := vs) rfl (wpAny_pure ?_))
  refine wpAny_bind (HT.slicePart_ ps ?_)
  show wpAny _ _ (if ((-1 : Int) == 0) = true then _ else _) _ _ s
  rw [if_neg (by decide)]
  refine wpAny_bind (HT.slicePart_ .none ?_)
  refine wpAny_bind (HT.slicePart_ .none ?_)
  refine wpAny_bind (wpAny_pure ?_)
  show wpAny _ _ (match Builtin.Slice.sliceAdjust none none (-1) (n : Int) with | (x, y) => pure (x, (-1 : Int), Builtin.Slice.slicePlaces x y (-1))) _ _ s
  rw [back_bounds]
  show wpAny _ _ (pure ((n : Int) - 1, (-1 : Int), Builtin.Slice.slicePlaces ((n : Int) - 1) (-1) (-1))) _ _ s
  rw [back_places]
  exact wpAny_pure h
theorem getItem_back {t sl : Addr} {items : Array Value} {vs : Value} {Q : Value → Shared → Prop} (ht : PyProof.Rows.IsTup s.heap t items) (hs : s.heap.IsSliceOf sl .none .none vs) (ps : IsPart vs (some (-1)))
    (h : Q (.ref s.heap.objs.size) { s with heap := s.heap.push { cls := .type "tuple", data := .seq items.toList.reverse.toArray } }) (hz : items.size ≤ sizeLine) : wpAny (model prog w) A (getItem (.ref t) (.ref sl)) Q E s := by
  have ok : sizeOk (.seq items.toList.reverse.toArray) := by
    show items.toList.reverse.toArray.size ≤ sizeLine
    rw [List.size_toArray, List.length_reverse, Array.length_toList]
    exact hz
  obtain ⟨o, ho, hc, hd⟩ := id hs
  have ts : s.TypeIs (.ref sl) "slice" := ⟨o, ho, hc⟩
  unfold getItem
  try with_reducible refine wpAny_holding ?_
  first
    | refine wpAny_bind (wpAny_pure ?_)
    | skip
  refine wpAny_bind ?_
  refine wpAny_sequenceKey ht.typeIs (by decide) ?_
  refine wpAny_bind ?_
  refine wpAny_callSpecial?_slot (name := Str.ofString "__getitem__") ht.typeIs PyProof.Rows.slot_tuple_getitem ?_
  refine wpAny_call_entry PyProof.Rows.slot_tuple_getitem ht.typeIs PyProof.Rows.entry_tuple_getitem ?_ (PyProof.Rows.args_tuple_getitem _ _)
  show wpAny _ _ (Builtin.Tuple.tupleItemsOf (.ref t) >>= _) _ _ s
  refine wpAny_bind ?_
  refine PyProof.Rows.tupleItemsOf_ ht ?_
  refine wpAny_bind ?_
  refine wpAny_typeOf ts ?_
  rw [if_pos (by decide)]
  refine wpAny_bind ?_
  refine applied_back hs ps ?_
  have no : ¬ ((((items.size : Int) - 1) == 0 && (-1 : Int) == 1 && items.size == items.size) = true) := by
    rw [show ((-1 : Int) == 1) = false from rfl, Bool.and_false, Bool.false_and]
    decide
  show wpAny _ _ (if ((((items.size : Int) - 1) == 0 && (-1 : Int) == 1 && items.size == items.size) = true) then _ else _) _ _ s
  rw [if_neg no, back_pick]
  first
    | exact wpAny_bind (m := Builtin.Tuple.tupleExact _) (wpAny_newObj_type (wpAny_pure ⟨_, rfl, wpAny_pure h⟩) ok)
    | exact wpAny_bind (m := Builtin.Tuple.tupleExact _) (wpAny_newObj_type (wpAny_bind (wpAny_pure (wpAny_pure ⟨_, rfl, wpAny_pure h⟩))) ok)
    | exact wpAny_bind (wpAny_bind (m := Builtin.Tuple.tupleExact _) (wpAny_newObj_type (wpAny_pure (wpAny_pure ⟨_, rfl, wpAny_pure h⟩)) ok))
    | exact wpAny_bind (wpAny_bind (m := Builtin.Tuple.tupleExact _) (wpAny_newObj_type (wpAny_pure ⟨_, rfl, wpAny_pure h⟩) ok))
end
def tRevT (K : PySem.W.Frag) (te : TE) : TE := fun σ H Q => te σ H fun x H1 => ∃ a xs, x = .ref a ∧ SqT K H1 a xs ∧ ∀ p, H1 p = none → Q (.ref p) (upd H1 p (.tup xs.reverse))
theorem pe_revT {X : Cx} {e : Expr} {te : TE} {k : Nat} {p1 p2 p3 pos : Pos} (he : PE X e te) : PE X (.Subscript e (.Slice none none (some (.UnaryOp .USub (.Constant (.int 1) k p1) p2)) p3) pos) (tRevT X.K te) := by
  constructor
  intro pins s σ H Q I h
  refine PyProof.Rows.Subscript_ (thn (he.run pins s σ H _ I h) fun v s1 ⟨x, H1, I1, r1, z⟩ => ?_)
  obtain ⟨a, xs, rfl, hx, q⟩ := z
  cases r1
  have st : PO X (some (.UnaryOp .USub (.Constant (.int 1) k p1) p2)) (tPart (tUn (rU fun i => .int (-i)) (tC (.int 1)))) := by
    refine po_some ?_
    exact pe_un un_neg pe_int
  refine wpAny_Slice ?_
  refine thn (po_none.run pins s1 σ H1 (fun z H2 => z = none ∧ H2 = H1) I1 ⟨rfl, rfl⟩) fun vl s2 ⟨l, H2, I2, pl, el, eh⟩ => ?_
  subst el eh
  refine thn (po_none.run pins s2 σ H2 (fun z H3 => z = none ∧ H3 = H2) I2 ⟨rfl, rfl⟩) fun vu s3 ⟨u, H3, I3, pu, eu, eh⟩ => ?_
  subst eu eh
  refine thn (st.run pins s3 σ H3 (fun z H4 => z = some (-1) ∧ H4 = H3) I3 ⟨1, rfl, -1, rfl, rfl, rfl⟩) fun vs s4 ⟨z, H4, I4, ps, ez, eh⟩ => ?_
  subst ez eh
  cases pl
  cases pu
  have I5 : Inv X pins σ H4 { s4 with heap := s4.heap.push { cls := .type "slice", data := .fields #[.none, .none, vs] } } := I4.kept (t' := s4.toks) fun b o z => Heap.get?_push_of_some _ z
  obtain ⟨its, r, ht, hz⟩ := I5.tuple hx
  have len := r.length
  show wpAny (model X.prog X.w) X.A (PyProof.Rows.subscriptTail e (.Slice none none (some (.UnaryOp .USub (.Constant (.int 1) k p1) p2)) p3) (.ref a) (.ref s4.heap.objs.size)) (EP X pins σ Q) X.xe { s4 with heap := s4.heap.push { cls := .type "slice", data := .fields #[.none, .none, vs] } }
  refine PyProof.Rows.tail_any (ops := [.ref a, .ref s4.heap.objs.size]) ht.typeIs PyProof.Rows.slot_tuple_getitem.lookup ?_ (by with_unfolding_all rfl)
  refine getItem_back ht (Heap.IsSliceOf.new _ _ _ vs) ps ?_ (by rw [List.size_toArray]; omega)
  have eq : its.toArray.toList.reverse.toArray = its.reverse.toArray := rfl
  have got := Heap.get?_push_size (s4.heap.push { cls := .type "slice", data := .fields #[.none, .none, vs] }) (o := { cls := .type "tuple", data := .seq its.reverse.toArray }) rfl
  have I6 := I5.laid (t' := s4.toks) (o := .tup xs.reverse) (h' := (s4.heap.push { cls := .type "slice", data := .fields #[.none, .none, vs] }).push { cls := .type "tuple", data := .seq its.reverse.toArray }) (fun b o z => Heap.get?_push_of_some _ z) (Nat.le_refl _)
    ⟨by rw [List.length_reverse]; exact hz, its.reverse, r.reverse, _, got, rfl, 0, rfl⟩
  exact ⟨.ref _, _, I6, rfl, q _ (I5.hok.fresh (Nat.le_refl _))⟩
theorem w_revT {K : PySem.W.Frag} {σ : St} {H : Hp} {Q : VK} {te : TE} (q : te σ H fun x H1 => ∃ a xs, x = .ref a ∧ SqT K H1 a xs ∧ ∀ p H2, H1 p = none → Ex H1 H2 → H2 p = some (.tup xs.reverse) → Q (.ref p) H2) (mono : ∀ (R R' : VK), (∀ v h, R v h → R' v h) → te σ H R → te σ H R') : tRevT K te σ H Q :=
  mono _ _ (fun v h ⟨a, xs, e, s, k⟩ => ⟨a, xs, e, s, w_new1 k⟩) q
end EB
namespace EB
open PySem L2
set_option maxHeartbeats 1000000
/-! ## the mathematics of trades: (kind, left, needed) -/
abbrev Tr := Str × Int × Int
/-- how many bottles the pieces of d drinks buy -/
def bo (ts : List Tr) (d : Int) : Int := (ts.map fun t => t.2.1 * d / t.2.2).sum
def Good (t : Tr) : Prop := 0 ≤ t.2.1 ∧ t.2.1 ≤ 12 ∧ 1 ≤ t.2.2 ∧ t.2.2 ≤ 12
def Goods (ts : List Tr) : Prop := ts.length ≤ 3 ∧ ∀ t ∈ ts, Good t
/-- not too generous -/
def Fair (ts : List Tr) : Prop := Goods ts ∧ 10 * bo ts 27720 ≤ 9 * 27720
theorem bo_nil (d : Int) : bo [] d = 0 := rfl
theorem bo_cons (t : Tr) (ts : List Tr) (d : Int) : bo (t :: ts) d = t.2.1 * d / t.2.2 + bo ts d := by simp [bo]
theorem Goods.tail {t : Tr} {ts : List Tr} (g : Goods (t :: ts)) : Goods ts := ⟨by have := g.1; simp at this; omega, fun u hu => g.2 u (List.mem_cons_of_mem _ hu)⟩
theorem Goods.head {t : Tr} {ts : List Tr} (g : Goods (t :: ts)) : Good t := g.2 t List.mem_cons_self

theorem bo_mono {ts : List Tr} (g : ∀ t ∈ ts, Good t) {d e : Int} (h : d ≤ e) : bo ts d ≤ bo ts e := by
  induction ts with
  | nil => simp [bo]
  | cons t ts ih =>
    obtain ⟨g1, _, g3, _⟩ := g t List.mem_cons_self
    have i := ih fun u hu => g u (List.mem_cons_of_mem _ hu)
    rw [bo_cons, bo_cons]
    have : t.2.1 * d / t.2.2 ≤ t.2.1 * e / t.2.2 := Int.ediv_le_ediv (by omega) (Int.mul_le_mul_of_nonneg_left h g1)
    omega
theorem bo_zero {ts : List Tr} : bo ts 0 = 0 := by
  induction ts with
  | nil => rfl
  | cons t ts ih => rw [bo_cons, ih]; simp
theorem bo_nonneg {ts : List Tr} (g : ∀ t ∈ ts, Good t) {d : Int} (h : 0 ≤ d) : 0 ≤ bo ts d := by
  have := bo_mono g h
  rw [bo_zero] at this
  exact this
theorem fdiv_add {n x y : Int} (hn : 0 < n) : x / n + y / n ≤ (x + y) / n := by
  rw [Int.le_ediv_iff_mul_le hn]
  have a := Int.ediv_mul_le x (Int.ne_of_gt hn)
  have b := Int.ediv_mul_le y (Int.ne_of_gt hn)
  rw [Int.add_mul]
  omega
theorem bo_super {ts : List Tr} (g : ∀ t ∈ ts, Good t) (d e : Int) : bo ts d + bo ts e ≤ bo ts (d + e) := by
  induction ts with
  | nil => simp [bo]
  | cons t ts ih =>
    obtain ⟨_, _, g3, _⟩ := g t List.mem_cons_self
    have i := ih fun u hu => g u (List.mem_cons_of_mem _ hu)
    rw [bo_cons, bo_cons, bo_cons, Int.mul_add]
    have := fdiv_add (n := t.2.2) (x := t.2.1 * d) (y := t.2.1 * e) (by omega)
    omega
/-- all needs divide 27720 -/
theorem need_dvd {n : Int} (h1 : 1 ≤ n) (h2 : n ≤ 12) : n ∣ 27720 := by
  have : n = 1 ∨ n = 2 ∨ n = 3 ∨ n = 4 ∨ n = 5 ∨ n = 6 ∨ n = 7 ∨ n = 8 ∨ n = 9 ∨ n = 10 ∨ n = 11 ∨ n = 12 := by omega
  rcases this with h | h | h | h | h | h | h | h | h | h | h | h <;> subst h <;> decide
/-- what one kind buys, against its worth -/
theorem one_le {l n d : Int} (h1 : 1 ≤ n) (h2 : n ≤ 12) : 27720 * (l * d / n) ≤ d * (l * 27720 / n) := by
  obtain ⟨c, hc⟩ := need_dvd h1 h2
  have e : l * 27720 / n = l * c := by rw [hc, show l * (n * c) = n * (l * c) by rw [← Int.mul_assoc, Int.mul_comm l n, Int.mul_assoc], Int.mul_ediv_cancel_left _ (by omega)]
  have hc0 : 0 ≤ c := by
    rcases Int.lt_or_le c 0 with h | h
    · have : n * c < 0 := Int.mul_neg_of_pos_of_neg (by omega) h
      omega
    · exact h
  have a := Int.mul_ediv_self_le (x := l * d) (k := n) (by omega)
  have b := Int.mul_le_mul_of_nonneg_left a hc0
  rw [e, hc]
  have e1 : n * c * (l * d / n) = c * (n * (l * d / n)) := by rw [← Int.mul_assoc, Int.mul_comm c n]
  have e2 : d * (l * c) = c * (l * d) := by rw [← Int.mul_assoc, Int.mul_comm (d * l) c, Int.mul_comm d l]
  rw [e1, e2]
  exact b
theorem one_ge {l n d : Int} (h1 : 1 ≤ n) (h2 : n ≤ 12) : d * (l * 27720 / n) < 27720 * (l * d / n) + 27720 := by
  obtain ⟨c, hc⟩ := need_dvd h1 h2
  have e : l * 27720 / n = l * c := by rw [hc, show l * (n * c) = n * (l * c) by rw [← Int.mul_assoc, Int.mul_comm l n, Int.mul_assoc], Int.mul_ediv_cancel_left _ (by omega)]
  have hc0 : 0 < c := by
    rcases Int.lt_or_le 0 c with h | h
    · exact h
    · have : n * c ≤ 0 := Int.mul_nonpos_of_nonneg_of_nonpos (by omega) h
      omega
  have a := Int.lt_mul_ediv_self_add (x := l * d) (k := n) (by omega)
  have b := Int.mul_lt_mul_of_pos_left a hc0
  rw [e]
  have e1 : 27720 * (l * d / n) = c * (n * (l * d / n)) := by rw [hc, ← Int.mul_assoc, Int.mul_comm c n]
  have e2 : d * (l * c) = c * (l * d) := by rw [← Int.mul_assoc, Int.mul_comm (d * l) c, Int.mul_comm d l]
  have e3 : c * (n * (l * d / n) + n) = c * (n * (l * d / n)) + 27720 := by rw [Int.mul_add, Int.mul_comm c n, ← hc]
  rw [e1, e2]
  omega
theorem bo_le {ts : List Tr} (g : ∀ t ∈ ts, Good t) (d : Int) : 27720 * bo ts d ≤ d * bo ts 27720 := by
  induction ts with
  | nil => simp [bo]
  | cons t ts ih =>
    obtain ⟨_, _, g3, g4⟩ := g t List.mem_cons_self
    have i := ih fun u hu => g u (List.mem_cons_of_mem _ hu)
    rw [bo_cons, bo_cons, Int.mul_add, Int.mul_add]
    have := one_le (l := t.2.1) (d := d) g3 g4
    omega
theorem bo_ge {ts : List Tr} (g : ∀ t ∈ ts, Good t) (d : Int) : d * bo ts 27720 ≤ 27720 * bo ts d + 27720 * ts.length := by
  induction ts with
  | nil => simp [bo]
  | cons t ts ih =>
    obtain ⟨_, _, g3, g4⟩ := g t List.mem_cons_self
    have i := ih fun u hu => g u (List.mem_cons_of_mem _ hu)
    rw [bo_cons, bo_cons, Int.mul_add, Int.mul_add, List.length_cons]
    have := one_ge (l := t.2.1) (d := d) g3 g4
    have e : ((ts.length + 1 : Nat) : Int) = (ts.length : Int) + 1 := by omega
    rw [e]
    omega
/-- strictly, if there is a trade -/
theorem bo_gt {ts : List Tr} (g : ∀ t ∈ ts, Good t) (hn : 1 ≤ ts.length) (d : Int) : d * bo ts 27720 < 27720 * bo ts d + 27720 * ts.length := by
  cases ts with
  | nil => simp at hn
  | cons t ts =>
    obtain ⟨_, _, g3, g4⟩ := g t List.mem_cons_self
    have i := bo_ge (fun u hu => g u (List.mem_cons_of_mem _ hu)) d
    rw [bo_cons, bo_cons, Int.mul_add, Int.mul_add, List.length_cons]
    have := one_ge (l := t.2.1) (d := d) g3 g4
    have e : ((ts.length + 1 : Nat) : Int) = (ts.length : Int) + 1 := by omega
    rw [e]
    omega
/-- nine tenths at most -/
theorem bo_tenth {ts : List Tr} (f : Fair ts) {d : Int} (h : 0 ≤ d) : 10 * bo ts d ≤ 9 * d := by
  have a := bo_le f.1.2 d
  have b := Int.mul_le_mul_of_nonneg_left f.2 h
  have e : d * (10 * bo ts 27720) = 10 * (d * bo ts 27720) := by rw [← Int.mul_assoc, Int.mul_comm d 10, Int.mul_assoc]
  rw [e] at b
  omega

/-! ### the number of drinks: the least d with n + bought d ≤ d -/
structure IsTot (ts : List Tr) (n D : Int) : Prop where
  fix : n + bo ts D = D
  nn : 0 ≤ D
  least : ∀ e, 0 ≤ e → n + bo ts e ≤ e → D ≤ e
theorem IsTot.unique {ts : List Tr} {n D D' : Int} (h : IsTot ts n D) (h' : IsTot ts n D') : D = D' := by
  have a := h.least D' h'.nn (by rw [h'.fix]; exact Int.le_refl _)
  have b := h'.least D h.nn (by rw [h.fix]; exact Int.le_refl _)
  omega
open Classical in
noncomputable def drk (ts : List Tr) (n : Int) : Int := if h : ∃ D, IsTot ts n D then h.choose else 0
theorem drk_eq {ts : List Tr} {n D : Int} (h : IsTot ts n D) : drk ts n = D := by
  have ex : ∃ D, IsTot ts n D := ⟨D, h⟩
  unfold drk
  rw [dif_pos ex]
  exact ex.choose_spec.unique h
/-- iteration from below ends at a fixed point -/
theorem lp_ex {ts : List Tr} (g : ∀ t ∈ ts, Good t) {n B : Int} (hB : n + bo ts B ≤ B) : ∀ (k : Nat) (x : Int), (B - x).toNat ≤ k → x ≤ B → x ≤ n + bo ts x → ∃ D, x ≤ D ∧ n + bo ts D = D ∧ ∀ e, x ≤ e → n + bo ts e ≤ e → D ≤ e
  | 0, x, hk, hx, hp => ⟨x, Int.le_refl _, by
      have e : x = B := by omega
      subst e
      omega, fun e he _ => he⟩
  | k + 1, x, hk, hx, hp => by
    by_cases h : n + bo ts x = x
    · exact ⟨x, Int.le_refl _, h, fun e he _ => he⟩
    · have m : n + bo ts x ≤ B := by have := bo_mono g hx; omega
      have m2 := bo_mono g hp
      obtain ⟨D, d1, d2, d3⟩ := lp_ex g hB k (n + bo ts x) (by omega) m (by omega)
      refine ⟨D, by omega, d2, fun e he hp' => d3 e ?_ hp'⟩
      have := bo_mono g he
      omega
theorem tot_ex {ts : List Tr} (f : Fair ts) {n : Int} (hn : 0 ≤ n) : ∃ D, IsTot ts n D := by
  have b10 := bo_tenth f (d := 10 * n) (by omega)
  obtain ⟨D, d1, d2, d3⟩ := lp_ex f.1.2 (n := n) (B := 10 * n) (by omega) (10 * n - 0).toNat 0 (Nat.le_refl _) (by omega) (by rw [bo_zero]; omega)
  exact ⟨D, d2, d1, fun e he hp => d3 e he hp⟩
theorem drk_spec {ts : List Tr} (f : Fair ts) {n : Int} (hn : 0 ≤ n) : IsTot ts n (drk ts n) := by
  obtain ⟨D, h⟩ := tot_ex f hn
  rw [drk_eq h]
  exact h
theorem drk_ge {ts : List Tr} (f : Fair ts) {n : Int} (hn : 0 ≤ n) : n ≤ drk ts n := by
  have h := drk_spec f hn
  have := bo_nonneg f.1.2 h.nn
  have := h.fix
  omega
theorem drk_le {ts : List Tr} (f : Fair ts) {n : Int} (hn : 0 ≤ n) : drk ts n ≤ 10 * n := by
  have h := drk_spec f hn
  have := bo_tenth f h.nn
  have := h.fix
  omega
theorem drk_zero {ts : List Tr} (f : Fair ts) : drk ts 0 = 0 := by
  have a := drk_ge f (n := 0) (by omega)
  have b := drk_le f (n := 0) (by omega)
  omega
theorem drk_mono {ts : List Tr} (f : Fair ts) {a b : Int} (ha : 0 ≤ a) (h : a ≤ b) : drk ts a ≤ drk ts b := by
  have x := drk_spec f ha
  have y := drk_spec f (n := b) (by omega)
  refine x.least _ y.nn ?_
  have := y.fix
  omega
/-- together at least as many as each by itself -/
theorem drk_super {ts : List Tr} (f : Fair ts) {a b : Int} (ha : 0 ≤ a) (hb : 0 ≤ b) : drk ts a + drk ts b ≤ drk ts (a + b) := by
  have x := drk_spec f ha
  have y := drk_spec f hb
  have z := drk_spec f (n := a + b) (by omega)
  have m := drk_mono f hb (b := a + b) (by omega)
  have s := bo_super f.1.2 (drk ts (a + b) - drk ts b) (drk ts b)
  have l := x.least (drk ts (a + b) - drk ts b) (by omega) (by
    rw [show drk ts (a + b) - drk ts b + drk ts b = drk ts (a + b) by omega] at s
    have := y.fix
    have := z.fix
    omega)
  omega
end EB
namespace EB
open PySem L2
set_option maxHeartbeats 1000000
/-! ## multiples, the period -/
def gcdI (a b : Int) : Int := (Int.gcd a b : Int)
def lcmI (a b : Int) : Int := a / gcdI a b * b
def ndm (ts : List Tr) : Int := ts.foldl (fun f t => lcmI f t.2.2) 1
def pc (t : Tr) : Int := t.2.2 / gcdI t.2.1 t.2.2
def perd (ts : List Tr) : Int := ts.foldl (fun f t => lcmI f (pc t)) 1
theorem gcdI_pos {a b : Int} (hb : 0 < b) : 0 < gcdI a b := by
  unfold gcdI
  have : Int.gcd a b ≠ 0 := fun h => by
    rw [Int.gcd_eq_zero_iff] at h
    omega
  omega
theorem gcdI_le {a b : Int} (hb : 0 < b) : gcdI a b ≤ b := Int.le_of_dvd hb (Int.gcd_dvd_right ..)
theorem gcdI_dl {a b : Int} : gcdI a b ∣ a := Int.gcd_dvd_left ..
theorem gcdI_dr {a b : Int} : gcdI a b ∣ b := Int.gcd_dvd_right ..
theorem lcmI_eq {a b : Int} (ha : 0 < a) (hb : 0 < b) : lcmI a b = (Int.lcm a b : Int) := by
  unfold lcmI
  have h1 : gcdI a b * (Int.lcm a b : Int) = a * b := by
    unfold gcdI
    have := Int.gcd_mul_lcm a b
    have h2 : ((Int.gcd a b * Int.lcm a b : Nat) : Int) = a * b := by
      rw [this]
      have e1 : ((a.natAbs : Nat) : Int) = a := Int.natAbs_of_nonneg (by omega)
      have e2 : ((b.natAbs : Nat) : Int) = b := Int.natAbs_of_nonneg (by omega)
      rw [Int.natCast_mul, e1, e2]
    rw [← h2, Int.natCast_mul]
  have g := gcdI_pos (a := a) hb
  obtain ⟨c, hc⟩ := gcdI_dl (a := a) (b := b)
  have e : a / gcdI a b = c := by
    conv => lhs; lhs; rw [hc]
    exact Int.mul_ediv_cancel_left _ (by omega)
  rw [e]
  have h3 : gcdI a b * (Int.lcm a b : Int) = gcdI a b * (c * b) := by
    rw [h1]
    conv => lhs; lhs; rw [hc]
    rw [Int.mul_assoc]
  exact (Int.eq_of_mul_eq_mul_left (by omega) h3).symm
theorem lcmI_pos {a b : Int} (ha : 0 < a) (hb : 0 < b) : 0 < lcmI a b := by
  rw [lcmI_eq ha hb]
  have : Int.lcm a b ≠ 0 := fun h => by
    rw [Int.lcm_eq_zero_iff] at h
    omega
  omega
theorem lcmI_dl {a b : Int} (ha : 0 < a) (hb : 0 < b) : a ∣ lcmI a b := by
  rw [lcmI_eq ha hb]
  exact Int.dvd_lcm_left ..
theorem lcmI_dr {a b : Int} (ha : 0 < a) (hb : 0 < b) : b ∣ lcmI a b := by
  rw [lcmI_eq ha hb]
  exact Int.dvd_lcm_right ..
theorem lcmI_min {a b m : Int} (ha : 0 < a) (hb : 0 < b) (h1 : a ∣ m) (h2 : b ∣ m) : lcmI a b ∣ m := by
  rw [lcmI_eq ha hb]
  exact Int.coe_lcm_dvd h1 h2
/-- folds of least common multiples -/
theorem fold_lcm (f : Tr → Int) : ∀ (ts : List Tr) (x : Int), (∀ t ∈ ts, 0 < f t) → 0 < x →
    0 < ts.foldl (fun y t => lcmI y (f t)) x ∧ x ∣ ts.foldl (fun y t => lcmI y (f t)) x ∧ (∀ t ∈ ts, f t ∣ ts.foldl (fun y t => lcmI y (f t)) x) ∧
      ∀ m, x ∣ m → (∀ t ∈ ts, f t ∣ m) → ts.foldl (fun y t => lcmI y (f t)) x ∣ m
  | [], x, _, hx => ⟨hx, Int.dvd_refl _, fun _ h => by simp at h, fun _ h _ => h⟩
  | t :: ts, x, ht, hx => by
    have h1 := ht t List.mem_cons_self
    obtain ⟨a, b, c, d⟩ := fold_lcm f ts (lcmI x (f t)) (fun u hu => ht u (List.mem_cons_of_mem _ hu)) (lcmI_pos hx h1)
    refine ⟨a, Int.dvd_trans (lcmI_dl hx h1) b, fun u hu => ?_, fun m hm hf => ?_⟩
    · rcases List.mem_cons.mp hu with rfl | hu
      · exact Int.dvd_trans (lcmI_dr hx h1) b
      · exact c u hu
    · exact d m (lcmI_min hx h1 hm (hf t List.mem_cons_self)) fun u hu => hf u (List.mem_cons_of_mem _ hu)
theorem pc_pos {t : Tr} (g : Good t) : 0 < pc t := by
  obtain ⟨_, _, g3, _⟩ := g
  unfold pc
  have a := gcdI_pos (a := t.2.1) (b := t.2.2) (by omega)
  exact Int.ediv_pos_of_pos_of_dvd (by omega) (by omega) gcdI_dr
theorem pc_mul {t : Tr} : gcdI t.2.1 t.2.2 * pc t = t.2.2 := Int.mul_ediv_cancel' gcdI_dr
theorem pc_dvd {t : Tr} : pc t ∣ t.2.2 := ⟨gcdI t.2.1 t.2.2, by rw [Int.mul_comm]; exact pc_mul.symm⟩
/-- the needed pieces divide what d drinks leave, just if d is a multiple of pc -/
theorem pc_fit {t : Tr} {d : Int} (h : pc t ∣ d) : t.2.2 ∣ t.2.1 * d := by
  obtain ⟨c, rfl⟩ := h
  obtain ⟨q, hq⟩ := gcdI_dl (a := t.2.1) (b := t.2.2)
  refine ⟨q * c, ?_⟩
  have e := pc_mul (t := t)
  generalize gcdI t.2.1 t.2.2 = G at *
  rw [hq, ← e]
  simp only [Int.mul_assoc, Int.mul_left_comm]
theorem pc_of_fit {t : Tr} {d : Int} (g : Good t) (h : t.2.2 ∣ t.2.1 * d) : pc t ∣ d := by
  obtain ⟨_, _, g3, _⟩ := g
  have gp := gcdI_pos (a := t.2.1) (b := t.2.2) (by omega)
  obtain ⟨q, hq⟩ := gcdI_dl (a := t.2.1) (b := t.2.2)
  have e := pc_mul (t := t)
  have cop : Int.gcd q (pc t) = 1 := by
    have h1 : (Int.gcd t.2.1 t.2.2 : Int) = gcdI t.2.1 t.2.2 * (Int.gcd q (pc t) : Int) := by
      have h2 : Int.gcd (gcdI t.2.1 t.2.2 * q) (gcdI t.2.1 t.2.2 * pc t) = (gcdI t.2.1 t.2.2).natAbs * Int.gcd q (pc t) := Int.gcd_mul_left ..
      rw [← hq, e] at h2
      rw [h2, Int.natCast_mul, Int.natAbs_of_nonneg (by omega)]
    have h3 : gcdI t.2.1 t.2.2 * 1 = gcdI t.2.1 t.2.2 * (Int.gcd q (pc t) : Int) := by
      rw [Int.mul_one]
      exact h1
    have := Int.eq_of_mul_eq_mul_left (by omega) h3
    omega
  have h4 : pc t ∣ q * d := by
    obtain ⟨k, hk⟩ := h
    refine ⟨k, ?_⟩
    have h5 : gcdI t.2.1 t.2.2 * (q * d) = gcdI t.2.1 t.2.2 * (pc t * k) := by
      rw [← Int.mul_assoc, ← hq, hk, ← Int.mul_assoc, e]
    exact Int.eq_of_mul_eq_mul_left (by omega) h5
  have h6 : Nat.Coprime (pc t).natAbs q.natAbs := by
    show Nat.gcd (pc t).natAbs q.natAbs = 1
    rw [Nat.gcd_comm]
    exact cop
  rw [← Int.natAbs_dvd_natAbs] at h4 ⊢
  rw [Int.natAbs_mul] at h4
  exact Nat.Coprime.dvd_of_dvd_mul_left h6 h4
theorem perd_pos {ts : List Tr} (g : ∀ t ∈ ts, Good t) : 0 < perd ts := (fold_lcm pc ts 1 (fun t h => pc_pos (g t h)) (by decide)).1
theorem perd_fit {ts : List Tr} (g : ∀ t ∈ ts, Good t) : ∀ t ∈ ts, t.2.2 ∣ t.2.1 * perd ts := fun t h => pc_fit ((fold_lcm pc ts 1 (fun t h => pc_pos (g t h)) (by decide)).2.2.1 t h)
theorem perd_min {ts : List Tr} (g : ∀ t ∈ ts, Good t) {d : Int} (h : ∀ t ∈ ts, t.2.2 ∣ t.2.1 * d) : perd ts ∣ d :=
  (fold_lcm pc ts 1 (fun t h => pc_pos (g t h)) (by decide)).2.2.2 d (Int.one_dvd d) fun t ht => pc_of_fit (g t ht) (h t ht)
theorem perd_le {ts : List Tr} (g : ∀ t ∈ ts, Good t) : perd ts ≤ 27720 :=
  Int.le_of_dvd (by decide) ((fold_lcm pc ts 1 (fun t h => pc_pos (g t h)) (by decide)).2.2.2 27720 (Int.one_dvd _) fun t ht => Int.dvd_trans pc_dvd (need_dvd (g t ht).2.2.1 (g t ht).2.2.2))
theorem ndm_pos {ts : List Tr} (g : ∀ t ∈ ts, Good t) : 0 < ndm ts := (fold_lcm (fun t => t.2.2) ts 1 (fun t h => by have := (g t h).2.2.1; omega) (by decide)).1
theorem ndm_dvd {ts : List Tr} (g : ∀ t ∈ ts, Good t) : ∀ t ∈ ts, t.2.2 ∣ ndm ts := (fold_lcm (fun t => t.2.2) ts 1 (fun t h => by have := (g t h).2.2.1; omega) (by decide)).2.2.1
theorem ndm_le {ts : List Tr} (g : ∀ t ∈ ts, Good t) : ndm ts ≤ 27720 :=
  Int.le_of_dvd (by decide) ((fold_lcm (fun t => t.2.2) ts 1 (fun t h => by have := (g t h).2.2.1; omega) (by decide)).2.2.2 27720 (Int.one_dvd _) fun t ht => need_dvd (g t ht).2.2.1 (g t ht).2.2.2)
/-- what is bought exactly -/
theorem bo_exact {ts : List Tr} (g : ∀ t ∈ ts, Good t) {d : Int} (h : ∀ t ∈ ts, t.2.2 ∣ t.2.1 * d) : 27720 * bo ts d = d * bo ts 27720 := by
  induction ts with
  | nil => simp [bo]
  | cons t ts ih =>
    obtain ⟨_, _, g3, g4⟩ := g t List.mem_cons_self
    have i := ih (fun u hu => g u (List.mem_cons_of_mem _ hu)) fun u hu => h u (List.mem_cons_of_mem _ hu)
    rw [bo_cons, bo_cons, Int.mul_add, Int.mul_add, i]
    congr 1
    obtain ⟨c, hc⟩ := need_dvd g3 g4
    obtain ⟨q, hq⟩ := h t List.mem_cons_self
    have e : t.2.1 * 27720 / t.2.2 = t.2.1 * c := by rw [hc, show t.2.1 * (t.2.2 * c) = t.2.2 * (t.2.1 * c) by rw [← Int.mul_assoc, Int.mul_comm t.2.1, Int.mul_assoc], Int.mul_ediv_cancel_left _ (by omega)]
    have e2 : t.2.1 * d / t.2.2 = q := by rw [hq, Int.mul_ediv_cancel_left _ (by omega)]
    rw [e, e2, ← Int.mul_assoc d, Int.mul_comm d, hq, hc]
    simp only [Int.mul_assoc, Int.mul_left_comm, Int.mul_comm]
theorem bo_shift {ts : List Tr} (g : ∀ t ∈ ts, Good t) {p : Int} (h : ∀ t ∈ ts, t.2.2 ∣ t.2.1 * p) (d : Int) : bo ts (d + p) = bo ts d + bo ts p := by
  induction ts with
  | nil => simp [bo]
  | cons t ts ih =>
    obtain ⟨_, _, g3, g4⟩ := g t List.mem_cons_self
    have i := ih (fun u hu => g u (List.mem_cons_of_mem _ hu)) fun u hu => h u (List.mem_cons_of_mem _ hu)
    rw [bo_cons, bo_cons, bo_cons, i, Int.mul_add]
    obtain ⟨q, hq⟩ := h t List.mem_cons_self
    have e2 : (t.2.1 * d + t.2.1 * p) / t.2.2 = t.2.1 * d / t.2.2 + q := by rw [hq, Int.add_mul_ediv_left _ _ (by omega)]
    have e3 : t.2.1 * p / t.2.2 = q := by rw [hq, Int.mul_ediv_cancel_left _ (by omega)]
    rw [e2, e3]
    omega
def nd (ts : List Tr) : Int := perd ts - bo ts (perd ts)
theorem nd_pos {ts : List Tr} (f : Fair ts) : 0 < nd ts := by
  have p := perd_pos f.1.2
  have b := bo_tenth f (d := perd ts) (by omega)
  unfold nd
  omega
theorem nd_le {ts : List Tr} (f : Fair ts) : nd ts ≤ 27720 := by
  have p := perd_pos f.1.2
  have q := perd_le f.1.2
  have b := bo_nonneg f.1.2 (d := perd ts) (by omega)
  unfold nd
  omega
theorem nd_eq {ts : List Tr} (f : Fair ts) : 27720 * nd ts = perd ts * (27720 - bo ts 27720) := by
  have e := bo_exact f.1.2 (perd_fit f.1.2)
  unfold nd
  rw [Int.mul_sub, e, Int.mul_sub, Int.mul_comm 27720]
/-- where the search of total starts -/
def st0 (ts : List Tr) (n : Int) : Int := (n - 3) * perd ts / nd ts
theorem st0_le {ts : List Tr} (f : Fair ts) (h1 : 1 ≤ ts.length) {n e : Int} (hp : n + bo ts e ≤ e) : st0 ts n ≤ e := by
  have np := nd_pos f
  have pp := perd_pos f.1.2
  have l3 := f.1.1
  have b := bo_gt f.1.2 h1 e
  have k : 27720 * (n - 3) ≤ e * (27720 - bo ts 27720) := by
    have e9 : e * (27720 - bo ts 27720) = e * 27720 - e * bo ts 27720 := Int.mul_sub ..
    rw [e9]
    omega
  have k2 : perd ts * (27720 * (n - 3)) ≤ perd ts * (e * (27720 - bo ts 27720)) := Int.mul_le_mul_of_nonneg_left k (by omega)
  have k3 : 27720 * ((n - 3) * perd ts) ≤ 27720 * (e * nd ts) := by
    have e1 : 27720 * (e * nd ts) = e * (27720 * nd ts) := by rw [← Int.mul_assoc, Int.mul_comm 27720 e, Int.mul_assoc]
    have e2 : perd ts * (e * (27720 - bo ts 27720)) = e * (perd ts * (27720 - bo ts 27720)) := by rw [← Int.mul_assoc, Int.mul_comm (perd ts) e, Int.mul_assoc]
    have e3 : perd ts * (27720 * (n - 3)) = 27720 * ((n - 3) * perd ts) := by rw [Int.mul_comm (n - 3), ← Int.mul_assoc, Int.mul_comm (perd ts) 27720, Int.mul_assoc]
    rw [e1, nd_eq f, ← e2, ← e3]
    exact k2
  have k4 : (n - 3) * perd ts ≤ e * nd ts := by omega
  unfold st0
  have := Int.ediv_le_ediv np k4
  rwa [Int.mul_ediv_cancel _ (by omega)] at this
theorem st0_up {ts : List Tr} (f : Fair ts) (h1 : 1 ≤ ts.length) {n : Int} : st0 ts n ≤ n + bo ts (st0 ts n) := by
  have np := nd_pos f
  have pp := perd_pos f.1.2
  have l3 := f.1.1
  have b := bo_gt f.1.2 h1 (st0 ts n)
  have h : st0 ts n * nd ts ≤ (n - 3) * perd ts := Int.ediv_mul_le _ (by omega)
  have k3 : 27720 * (st0 ts n * nd ts) ≤ 27720 * ((n - 3) * perd ts) := by omega
  have e1 : 27720 * (st0 ts n * nd ts) = perd ts * (st0 ts n * (27720 - bo ts 27720)) := by
    rw [show 27720 * (st0 ts n * nd ts) = st0 ts n * (27720 * nd ts) by rw [← Int.mul_assoc, Int.mul_comm 27720, Int.mul_assoc], nd_eq f, ← Int.mul_assoc, Int.mul_comm (st0 ts n), Int.mul_assoc]
  have e3 : 27720 * ((n - 3) * perd ts) = perd ts * (27720 * (n - 3)) := by rw [Int.mul_comm (n - 3), ← Int.mul_assoc, Int.mul_comm 27720 (perd ts), Int.mul_assoc]
  rw [e1, e3] at k3
  have k4 := Int.le_of_mul_le_mul_left k3 pp
  rw [Int.mul_sub, Int.mul_sub] at k4
  have : (27720 * (ts.length : Int)) ≤ 27720 * 3 := by omega
  omega
end EB
namespace EB
/-! ## credit; the fewest bottles; from when on drinks repeat -/
/-- the greatest number of drinks with credit -/
structure IsCred (ts : List Tr) (n D : Int) : Prop where
  pos : 0 ≤ D
  fix : n + bo ts D = D
  top : ∀ e, D < e → n + bo ts e < e
theorem IsCred.unique {ts : List Tr} {n D D' : Int} (h : IsCred ts n D) (h' : IsCred ts n D') : D = D' := by
  rcases Int.lt_trichotomy D D' with l | l | l
  · have := h.top D' l
    have := h'.fix
    omega
  · exact l
  · have := h'.top D l
    have := h.fix
    omega
/-- where the search begins: no number that the pieces pay for lies above -/
theorem cred_start {ts : List Tr} (f : Fair ts) {W : Int} (w0 : 0 < W) (hw : ∀ t ∈ ts, t.2.2 ∣ t.2.1 * W) {n d : Int} (h : d ≤ n + bo ts d) : d ≤ n * W / (W - bo ts W) := by
  have e1 := bo_exact f.1.2 hw
  have e2 := bo_le f.1.2 d
  have e3 := bo_tenth f (d := W) (by omega)
  have p : 0 < W - bo ts W := by omega
  rw [Int.le_ediv_iff_mul_le p]
  have q : 27720 * (bo ts d * W) ≤ 27720 * (d * bo ts W) := by
    have := Int.mul_le_mul_of_nonneg_right e2 (show 0 ≤ W by omega)
    calc 27720 * (bo ts d * W) = 27720 * bo ts d * W := by rw [Int.mul_assoc]
      _ ≤ d * bo ts 27720 * W := this
      _ = d * (W * bo ts 27720) := by rw [Int.mul_assoc, Int.mul_comm (bo ts 27720)]
      _ = d * (27720 * bo ts W) := by rw [e1]
      _ = 27720 * (d * bo ts W) := by rw [← Int.mul_assoc, ← Int.mul_assoc, Int.mul_comm d]
  have q2 : bo ts d * W ≤ d * bo ts W := by omega
  have q3 : d * W ≤ (n + bo ts d) * W := Int.mul_le_mul_of_nonneg_right h (by omega)
  rw [Int.add_mul] at q3
  rw [Int.mul_sub]
  omega
/-- a number at which the pieces pay, above all such: it is the credit -/
theorem cred_of {ts : List Tr} (f : Fair ts) {n D : Int} (hn : 0 ≤ n) (h : D ≤ n + bo ts D) (up : ∀ e, e ≤ n + bo ts e → e ≤ D) : IsCred ts n D := by
  have z : (0 : Int) ≤ D := up 0 (by rw [bo_zero]; omega)
  refine ⟨z, ?_, fun e he => ?_⟩
  · have := up (n + bo ts D) (by
      have := bo_mono f.1.2 h
      omega)
    omega
  · by_cases q : e ≤ n + bo ts e
    · have := up e q
      omega
    · omega
theorem cred_ge {ts : List Tr} (f : Fair ts) {n D : Int} (hn : 0 ≤ n) (c : IsCred ts n D) : drk ts n ≤ D := by
  obtain ⟨h1, h2, h3⟩ := drk_spec f hn
  by_cases q : drk ts n ≤ D
  · exact q
  · have := c.top (drk ts n) (by omega)
    omega
theorem cred_le {ts : List Tr} (f : Fair ts) {n D : Int} (c : IsCred ts n D) : D ≤ 10 * n := by
  have := bo_tenth f c.pos
  have := c.fix
  omega
/-- there is one -/
theorem cred_ex {ts : List Tr} (f : Fair ts) {n : Int} (hn : 0 ≤ n) : ∃ D, IsCred ts n D := by
  have fin : ∀ (k : Nat) (y : Int), y.toNat ≤ k → (∀ e, e ≤ n + bo ts e → e ≤ y) → ∃ D, IsCred ts n D := by
    intro k
    induction k with
    | zero =>
      intro y hy up
      have z := up 0 (by rw [bo_zero]; omega)
      have e : y = 0 := by omega
      subst e
      exact ⟨0, cred_of f hn (by rw [bo_zero]; omega) up⟩
    | succ k ih =>
      intro y hy up
      by_cases h : y ≤ n + bo ts y
      · exact ⟨y, cred_of f hn h up⟩
      · have z := up 0 (by rw [bo_zero]; omega)
        have b0 := bo_nonneg f.1.2 z
        refine ih (n + bo ts y) (by omega) fun e he => ?_
        have := bo_mono f.1.2 (up e he)
        omega
  refine fin _ (10 * n) (Nat.le_refl _) fun e he => ?_
  by_cases e0 : 0 ≤ e
  · have := bo_tenth f e0
    omega
  · omega
end EB
namespace EB
/-! ## from when on drinks repeat -/
/-- no number below none would do with b bottles -/
def Std (ts : List Tr) (b : Int) : Prop := ∀ d, -(perd ts) ≤ d → d < 0 → d < b + bo ts d
structure IsStd (ts : List Tr) (s : Int) : Prop where
  pos : 0 ≤ s
  three : s ≤ 3
  std : Std ts s
  first : 0 < s → ¬ Std ts (s - 1)
theorem Std.mono {ts : List Tr} {a b : Int} (h : Std ts a) (ab : a ≤ b) : Std ts b := fun d d1 d2 => by
  have := h d d1 d2
  omega
theorem IsStd.unique {ts : List Tr} {s t : Int} (h : IsStd ts s) (k : IsStd ts t) : s = t := by
  have one : ∀ {s t : Int}, IsStd ts s → IsStd ts t → ¬ s < t := fun {s t} h k l =>
    k.first (by have := h.pos; omega) (h.std.mono (by omega))
  have a := one h k
  have b := one k h
  omega
theorem std_three {ts : List Tr} (f : Fair ts) (h1 : 1 ≤ ts.length) : Std ts 3 := fun d d1 d2 => by
  have g := bo_gt f.1.2 h1 d
  have len := f.1.1
  have w : d * (9 * 27720) ≤ d * (10 * bo ts 27720) := by
    have : (-d) * (10 * bo ts 27720) ≤ (-d) * (9 * 27720) := Int.mul_le_mul_of_nonneg_left f.2 (by omega)
    rw [Int.neg_mul, Int.neg_mul] at this
    omega
  have e : d * (10 * bo ts 27720) = 10 * (d * bo ts 27720) := by rw [← Int.mul_assoc, Int.mul_comm d 10, Int.mul_assoc]
  omega
theorem bo_per {ts : List Tr} (f : Fair ts) (d : Int) : bo ts (d + perd ts) = bo ts d + bo ts (perd ts) := bo_shift f.1.2 (perd_fit f.1.2) d
theorem std_shift {ts : List Tr} (f : Fair ts) {n : Int} (hn : 0 ≤ n) (s : Std ts n) : drk ts (n + nd ts) = drk ts n + perd ts := by
  have t := drk_spec f hn
  have p := perd_pos f.1.2
  have q := bo_per f (drk ts n)
  have fx := t.fix
  have nn := t.nn
  refine drk_eq ⟨?_, by omega, fun e he hq => ?_⟩
  · unfold nd
    omega
  · have q2 := bo_per f (e - perd ts)
    rw [Int.sub_add_cancel] at q2
    unfold nd at hq
    by_cases e0 : 0 ≤ e - perd ts
    · have := t.least (e - perd ts) e0 (by omega)
      omega
    · have := s (e - perd ts) (by omega) (by omega)
      omega
theorem std_not {ts : List Tr} (f : Fair ts) {n : Int} (hn : 0 ≤ n) (s : ¬ Std ts n) : drk ts (n + nd ts) ≠ drk ts n + perd ts := by
  have np := nd_pos f
  have t := drk_spec f (n := n + nd ts) (by omega)
  have ge := drk_ge f hn
  intro e
  refine s fun d d1 d2 => ?_
  by_cases q : d < n + bo ts d
  · exact q
  · have q2 := bo_per f d
    have := t.least (d + perd ts) (by omega) (by unfold nd; omega)
    omega
theorem std_many {ts : List Tr} (f : Fair ts) {n : Int} (hn : 0 ≤ n) (s : Std ts n) : ∀ k : Nat, drk ts (n + k * nd ts) = drk ts n + k * perd ts
  | 0 => by simp
  | k + 1 => by
    have np := nd_pos f
    have kn : (0 : Int) ≤ (k : Int) * nd ts := Int.mul_nonneg (by omega) (by omega)
    have ih := std_many f hn s k
    have sh := std_shift f (n := n + k * nd ts) (by omega) (s.mono (by omega))
    rw [show ((k + 1 : Nat) : Int) = (k : Int) + 1 by omega, Int.add_mul, Int.add_mul, Int.one_mul, Int.one_mul, ← Int.add_assoc, sh, ih]
    omega
/-- there is one -/
theorem std_ex {ts : List Tr} (f : Fair ts) (h1 : 1 ≤ ts.length) : ∃ s, IsStd ts s := by
  have h3 := std_three f h1
  by_cases a : Std ts 0
  · exact ⟨0, by decide, by decide, a, fun z => absurd z (by decide)⟩
  by_cases b : Std ts 1
  · exact ⟨1, by decide, by decide, b, fun _ => a⟩
  by_cases c : Std ts 2
  · exact ⟨2, by decide, by decide, c, fun _ => b⟩
  · exact ⟨3, by decide, by decide, h3, fun _ => c⟩
end EB
namespace EB
theorem lcmI_small {a b x y : Int} (ha : 0 < a) (hb : 0 < b) (hx : a ≤ x) (hy : b ≤ y) : lcmI a b ≤ x * y := by
  have d : lcmI a b ∣ a * b := lcmI_min ha hb (Int.dvd_mul_right ..) (Int.dvd_mul_left ..)
  have p : 0 < a * b := Int.mul_pos ha hb
  have l := Int.le_of_dvd p d
  have m : a * b ≤ x * y := Int.mul_le_mul hx hy (by omega) (by omega)
  omega
theorem fold3_small (f : Tr → Int) : ∀ {ts : List Tr}, ts.length ≤ 3 → (∀ t ∈ ts, 0 < f t ∧ f t ≤ 12) → ts.foldl (fun y t => lcmI y (f t)) 1 ≤ 1728
  | [], _, _ => by
    show (1 : Int) ≤ 1728
    decide
  | [a], _, h => by
    obtain ⟨a0, a1⟩ := h a (by simp)
    have := lcmI_small (a := 1) (b := f a) (x := 1) (y := 12) (by decide) a0 (by decide) a1
    show lcmI 1 (f a) ≤ 1728
    omega
  | [a, b], _, h => by
    obtain ⟨a0, a1⟩ := h a (by simp)
    obtain ⟨b0, b1⟩ := h b (by simp)
    have p := lcmI_small (a := 1) (b := f a) (x := 1) (y := 12) (by decide) a0 (by decide) a1
    have q := lcmI_small (b := f b) (x := 12) (y := 12) (lcmI_pos (a := 1) (by decide) a0) b0 (by omega) b1
    show lcmI (lcmI 1 (f a)) (f b) ≤ 1728
    omega
  | [a, b, c], _, h => by
    obtain ⟨a0, a1⟩ := h a (by simp)
    obtain ⟨b0, b1⟩ := h b (by simp)
    obtain ⟨c0, c1⟩ := h c (by simp)
    have p := lcmI_small (a := 1) (b := f a) (x := 1) (y := 12) (by decide) a0 (by decide) a1
    have p1 := lcmI_pos (a := 1) (b := f a) (by decide) a0
    have q := lcmI_small (b := f b) (x := 12) (y := 12) p1 b0 (by omega) b1
    have r := lcmI_small (b := f c) (x := 144) (y := 12) (lcmI_pos p1 b0) c0 (by omega) c1
    show lcmI (lcmI (lcmI 1 (f a)) (f b)) (f c) ≤ 1728
    omega
  | a :: b :: c :: d :: r, l, _ => by
    simp at l
theorem perd_small {ts : List Tr} (g : Goods ts) : perd ts ≤ 1728 := fold3_small pc g.1 fun t ht => by
  have gt := g.2 t ht
  refine ⟨pc_pos gt, ?_⟩
  have := Int.le_of_dvd (show 0 < t.2.2 by have := gt.2.2.1; omega) (pc_dvd (t := t))
  have := gt.2.2.2
  omega
theorem ndm_small {ts : List Tr} (g : Goods ts) : ndm ts ≤ 1728 := fold3_small (fun t => t.2.2) g.1 fun t ht => by
  obtain ⟨_, _, a, b⟩ := g.2 t ht
  exact ⟨by omega, b⟩
theorem nd_small {ts : List Tr} (f : Fair ts) : nd ts ≤ 1728 := by
  have a := perd_small f.1
  have b := bo_nonneg f.1.2 (d := perd ts) (by have := perd_pos f.1.2; omega)
  unfold nd
  omega
end EB
namespace EB
/-! ## the fewest bottles -/
structure IsFew (ts : List Tr) (d F : Int) : Prop where
  pos : 0 ≤ F
  enough : d ≤ drk ts F
  least : ∀ n, 0 ≤ n → n < F → drk ts n < d
theorem IsFew.unique {ts : List Tr} {d F G : Int} (h : IsFew ts d F) (k : IsFew ts d G) : F = G := by
  rcases Int.lt_trichotomy F G with l | l | l
  · have := k.least F h.pos l
    have := h.enough
    omega
  · exact l
  · have := h.least G k.pos l
    have := k.enough
    omega
/-- where the search begins -/
def few0 (ts : List Tr) (d : Int) : Int := 0 - (0 - d * nd ts) / perd ts
theorem few0_spec {ts : List Tr} (f : Fair ts) (d : Int) : d * nd ts ≤ few0 ts d * perd ts ∧ (few0 ts d - 1) * perd ts < d * nd ts := by
  have p := perd_pos f.1.2
  have e := Int.mul_ediv_add_emod (0 - d * nd ts) (perd ts)
  have m0 := Int.emod_nonneg (0 - d * nd ts) (show perd ts ≠ 0 by omega)
  have m1 := Int.emod_lt_of_pos (0 - d * nd ts) p
  have c : perd ts * ((0 - d * nd ts) / perd ts) = (0 - d * nd ts) / perd ts * perd ts := Int.mul_comm ..
  unfold few0
  rw [Int.sub_mul, Int.sub_mul, Int.sub_mul]
  omega
theorem few0_pos {ts : List Tr} (f : Fair ts) {d : Int} (h : 0 ≤ d) : 0 ≤ few0 ts d := by
  have p := perd_pos f.1.2
  have n := nd_pos f
  obtain ⟨a, _⟩ := few0_spec f d
  have b : 0 ≤ d * nd ts := Int.mul_nonneg h (by omega)
  by_cases q : 0 ≤ few0 ts d
  · exact q
  · have : few0 ts d * perd ts < 0 := Int.mul_neg_of_neg_of_pos (by omega) p
    omega
/-- fewer do not give so many -/
theorem few0_least {ts : List Tr} (f : Fair ts) {d n : Int} (hn : 0 ≤ n) (h : d ≤ drk ts n) : few0 ts d ≤ n := by
  have p := perd_pos f.1.2
  have np := nd_pos f
  have t := drk_spec f hn
  have e := nd_eq f
  have b := bo_le f.1.2 (drk ts n)
  have fx := t.fix
  obtain ⟨_, c⟩ := few0_spec f d
  have g1 : drk ts n * (27720 - bo ts 27720) ≤ n * 27720 := by
    rw [Int.mul_sub]
    omega
  have g2 : 27720 * (drk ts n * nd ts) ≤ 27720 * (n * perd ts) := by
    have := Int.mul_le_mul_of_nonneg_right g1 (show 0 ≤ perd ts by omega)
    have e1 : drk ts n * (27720 - bo ts 27720) * perd ts = 27720 * (drk ts n * nd ts) := by
      rw [Int.mul_assoc, Int.mul_comm (27720 - bo ts 27720), ← e, ← Int.mul_assoc, Int.mul_comm (drk ts n) 27720, Int.mul_assoc]
    have e2 : n * 27720 * perd ts = 27720 * (n * perd ts) := by rw [Int.mul_comm n, Int.mul_assoc]
    omega
  have g3 : d * nd ts ≤ drk ts n * nd ts := Int.mul_le_mul_of_nonneg_right h (by omega)
  have g4 : (few0 ts d - 1) * perd ts < n * perd ts := by omega
  have := Int.lt_of_mul_lt_mul_right g4 (by omega)
  omega
/-- three more do -/
theorem few0_three {ts : List Tr} (f : Fair ts) (h1 : 1 ≤ ts.length) {d : Int} (h : 0 ≤ d) : d ≤ drk ts (few0 ts d + 3) := by
  have p := perd_pos f.1.2
  have np := nd_pos f
  have z := few0_pos f h
  have t := drk_spec f (n := few0 ts d + 3) (by omega)
  have e := nd_eq f
  have b := bo_gt f.1.2 h1 (drk ts (few0 ts d + 3))
  have l3 := f.1.1
  have fx := t.fix
  obtain ⟨c, _⟩ := few0_spec f d
  have g1 : few0 ts d * 27720 ≤ drk ts (few0 ts d + 3) * (27720 - bo ts 27720) := by
    rw [Int.mul_sub]
    omega
  have g2 : 27720 * (few0 ts d * perd ts) ≤ 27720 * (drk ts (few0 ts d + 3) * nd ts) := by
    have := Int.mul_le_mul_of_nonneg_right g1 (show 0 ≤ perd ts by omega)
    have e1 : drk ts (few0 ts d + 3) * (27720 - bo ts 27720) * perd ts = 27720 * (drk ts (few0 ts d + 3) * nd ts) := by
      rw [Int.mul_assoc, Int.mul_comm (27720 - bo ts 27720), ← e, ← Int.mul_assoc, Int.mul_comm (drk ts (few0 ts d + 3)) 27720, Int.mul_assoc]
    have e2 : few0 ts d * 27720 * perd ts = 27720 * (few0 ts d * perd ts) := by rw [Int.mul_comm (few0 ts d), Int.mul_assoc]
    omega
  exact Int.le_of_mul_le_mul_right (by omega : d * nd ts ≤ drk ts (few0 ts d + 3) * nd ts) np
/-- the first of these that gives so many -/
theorem few_at {ts : List Tr} (f : Fair ts) {d : Int} {j : Int} (h : 0 ≤ d) (j0 : 0 ≤ j) (en : d ≤ drk ts (few0 ts d + j)) (no : ∀ i, 0 ≤ i → i < j → drk ts (few0 ts d + i) < d) : IsFew ts d (few0 ts d + j) := by
  have z := few0_pos f h
  refine ⟨by omega, en, fun n n0 n1 => ?_⟩
  by_cases q : d ≤ drk ts n
  · have := few0_least f n0 q
    have := no (n - few0 ts d) (by omega) (by omega)
    rw [show few0 ts d + (n - few0 ts d) = n by omega] at this
    exact this
  · omega
theorem few_le {ts : List Tr} (f : Fair ts) {d F : Int} (h : 0 ≤ d) (k : IsFew ts d F) : F ≤ d := by
  by_cases q : F ≤ d
  · exact q
  · have := k.least d h (by omega)
    have := drk_ge f h
    omega
/-- d comes about -/
def Com (ts : List Tr) (d : Int) : Prop := ∃ n, 0 ≤ n ∧ drk ts n = d
theorem com_few {ts : List Tr} (f : Fair ts) {d F : Int} (k : IsFew ts d F) : drk ts F = d ↔ Com ts d := by
  refine ⟨fun e => ⟨F, k.pos, e⟩, fun ⟨n, n0, e⟩ => ?_⟩
  have le : F ≤ n := by
    by_cases q : F ≤ n
    · exact q
    · have := k.least n n0 (by omega)
      omega
  have := drk_mono f k.pos le
  have := k.enough
  omega
theorem drk_lt {ts : List Tr} (f : Fair ts) {a b : Int} (ha : 0 ≤ a) (h : a < b) : drk ts a < drk ts b := by
  have s := drk_super f ha (b := b - a) (by omega)
  have g := drk_ge f (n := b - a) (by omega)
  rw [show a + (b - a) = b by omega] at s
  omega
/-- there are such, whatever the number is -/
theorem few_ex {ts : List Tr} (f : Fair ts) (h1 : 1 ≤ ts.length) {d : Int} (h : 0 ≤ d) : ∃ F, IsFew ts d F := by
  have t := few0_three f h1 h
  by_cases a : d ≤ drk ts (few0 ts d + 0)
  · exact ⟨_, few_at f h (Int.le_refl _) a fun i i0 i1 => by omega⟩
  by_cases b : d ≤ drk ts (few0 ts d + 1)
  · exact ⟨_, few_at f h (by decide) b fun i i0 i1 => by
      obtain rfl : i = 0 := by omega
      omega⟩
  by_cases c : d ≤ drk ts (few0 ts d + 2)
  · exact ⟨_, few_at f h (by decide) c fun i i0 i1 => by
      rcases (by omega : i = 0 ∨ i = 1) with rfl | rfl <;> omega⟩
  · exact ⟨_, few_at f h (by decide) t fun i i0 i1 => by
      rcases (by omega : i = 0 ∨ i = 1 ∨ i = 2) with rfl | rfl | rfl <;> omega⟩
end EB
namespace EB
/-! ## offers compared for ever -/
/-- from s on, L bottles more change the difference by g -/
structure Cmp (ts us : List Tr) (s L g : Int) : Prop where
  s0 : 0 ≤ s
  l0 : 0 < L
  step : ∀ n, s ≤ n → drk ts (n + L) - drk us (n + L) = drk ts n - drk us n + g
def gainI (ts us : List Tr) : Int := lcmI (nd ts) (nd us) / nd ts * perd ts - lcmI (nd ts) (nd us) / nd us * perd us
theorem cmp_of {ts us : List Tr} (f : Fair ts) (f' : Fair us) {a b : Int} (ha : IsStd ts a) (hb : IsStd us b) : Cmp ts us (if a > b then a else b) (lcmI (nd ts) (nd us)) (gainI ts us) := by
  have p1 := nd_pos f
  have p2 := nd_pos f'
  have a0 := ha.pos
  have b0 := hb.pos
  refine ⟨by split <;> omega, lcmI_pos p1 p2, fun n hn => ?_⟩
  obtain ⟨k, hk⟩ := lcmI_dl p1 p2
  obtain ⟨l, hl⟩ := lcmI_dr p1 p2
  have lp := lcmI_pos p1 p2
  have k0 : 0 ≤ k := by
    by_cases q : 0 ≤ k
    · exact q
    · have : nd ts * k < 0 := Int.mul_neg_of_pos_of_neg p1 (by omega)
      omega
  have l0 : 0 ≤ l := by
    by_cases q : 0 ≤ l
    · exact q
    · have : nd us * l < 0 := Int.mul_neg_of_pos_of_neg p2 (by omega)
      omega
  obtain ⟨k', rfl⟩ : ∃ k' : Nat, k = k' := ⟨k.toNat, by omega⟩
  obtain ⟨l', rfl⟩ : ∃ l' : Nat, l = l' := ⟨l.toNat, by omega⟩
  have na : a ≤ n := by split at hn <;> omega
  have nb : b ≤ n := by split at hn <;> omega
  have m1 := std_many f (n := n) (by omega) (ha.std.mono na) k'
  have m2 := std_many f' (n := n) (by omega) (hb.std.mono nb) l'
  have d1 : lcmI (nd ts) (nd us) / nd ts = k' := by
    rw [hk]
    exact Int.mul_ediv_cancel_left _ (by omega)
  have d2 : lcmI (nd ts) (nd us) / nd us = l' := by
    rw [hl]
    exact Int.mul_ediv_cancel_left _ (by omega)
  have e1 : n + lcmI (nd ts) (nd us) = n + k' * nd ts := by rw [hk, Int.mul_comm]
  have e2 : n + lcmI (nd ts) (nd us) = n + l' * nd us := by
    rw [Int.mul_comm, ← hl]
  unfold gainI
  rw [d1, d2]
  rw [e1, m1, ← e1, e2, m2]
  omega
section
variable {ts us : List Tr} {s L g : Int}
theorem Cmp.many (c : Cmp ts us s L g) {n : Int} (hn : s ≤ n) : ∀ k : Nat, drk ts (n + k * L) - drk us (n + k * L) = drk ts n - drk us n + k * g
  | 0 => by simp
  | k + 1 => by
    have l0 := c.l0
    have kl : (0 : Int) ≤ (k : Int) * L := Int.mul_nonneg (by omega) (by omega)
    have ih := c.many hn k
    have st := c.step (n + k * L) (by omega)
    rw [show ((k + 1 : Nat) : Int) = (k : Int) + 1 by omega, Int.add_mul, Int.add_mul, Int.one_mul, Int.one_mul, ← Int.add_assoc, st, ih]
    omega
/-- never more drinks than the other -/
def Never (ts us : List Tr) : Prop := ∀ n, 0 ≤ n → drk ts n ≤ drk us n
def Same (ts us : List Tr) : Prop := ∀ n, 0 ≤ n → drk ts n = drk us n
theorem Cmp.down (c : Cmp ts us s L g) {P : Int → Prop} (h : ∀ n, 0 ≤ n → n ≤ s + L → P n) (st : ∀ n, s ≤ n → P n → P (n + L)) : ∀ n, 0 ≤ n → P n := by
  have l0 := c.l0
  have s0 := c.s0
  have all : ∀ (k : Nat) (n : Int), 0 ≤ n → n.toNat ≤ k → P n := by
    intro k
    induction k with
    | zero => exact fun n n0 nk => h n n0 (by omega)
    | succ k ih =>
      intro n n0 nk
      by_cases q : n ≤ s + L
      · exact h n n0 q
      · have := st (n - L) (by omega) (ih (n - L) (by omega) (by omega))
        rwa [Int.sub_add_cancel] at this
  exact fun n n0 => all n.toNat n n0 (Nat.le_refl _)
theorem Cmp.never (c : Cmp ts us s L g) (hg : g ≤ 0) (h : ∀ n, 0 ≤ n → n ≤ s + L → drk ts n ≤ drk us n) : Never ts us := c.down h fun n hn p => by
  have := c.step n hn
  omega
theorem Cmp.more (c : Cmp ts us s L g) (hg : 0 < g) : ¬ Never ts us := fun h => by
  have s0 := c.s0
  have l0 := c.l0
  have m := c.many (n := s) (Int.le_refl _) ((drk us s - drk ts s).toNat + 1)
  have kl : (0 : Int) ≤ (((drk us s - drk ts s).toNat + 1 : Nat) : Int) * L := Int.mul_nonneg (by omega) (by omega)
  have p := h _ (show 0 ≤ s + (((drk us s - drk ts s).toNat + 1 : Nat) : Int) * L by omega)
  have kg : (((drk us s - drk ts s).toNat + 1 : Nat) : Int) * 1 ≤ (((drk us s - drk ts s).toNat + 1 : Nat) : Int) * g := Int.mul_le_mul_of_nonneg_left (by omega) (by omega)
  omega
theorem Cmp.same (c : Cmp ts us s L g) (h : ∀ n, 0 ≤ n → n ≤ s + L → drk ts n = drk us n) : Same ts us := by
  have l0 := c.l0
  have s0 := c.s0
  have z : g = 0 := by
    have a := c.step s (Int.le_refl _)
    have b := h s s0 (by omega)
    have d := h (s + L) (by omega) (Int.le_refl _)
    omega
  exact c.down h fun n hn p => by
    have := c.step n hn
    omega
end
end EB
namespace EB
/-! ## offers that buy the same -/
section
variable {ts us : List Tr}
theorem same_drk (f : Fair ts) (h : ∀ d, bo us d = bo ts d) {n : Int} (hn : 0 ≤ n) : drk us n = drk ts n := by
  have t := drk_spec f hn
  exact drk_eq ⟨by rw [h]; exact t.fix, t.nn, fun e e0 hp => t.least e e0 (by rw [← h]; exact hp)⟩
theorem same_cred (h : ∀ d, bo us d = bo ts d) {n D : Int} (c : IsCred us n D) : IsCred ts n D :=
  ⟨c.pos, by rw [← h]; exact c.fix, fun e he => by rw [← h]; exact c.top e he⟩
theorem same_perd (g : ∀ t ∈ ts, Good t) (g' : ∀ t ∈ us, Good t) (h : ∀ d : Int, (∀ t ∈ us, t.2.2 ∣ t.2.1 * d) ↔ ∀ t ∈ ts, t.2.2 ∣ t.2.1 * d) : perd us = perd ts := by
  have a := perd_min g' ((h _).mpr (perd_fit g))
  have b := perd_min g ((h _).mp (perd_fit g'))
  have p := perd_pos g
  have q := perd_pos g'
  have := Int.le_of_dvd p a
  have := Int.le_of_dvd q b
  omega
theorem less_drk (f : Fair ts) (f' : Fair us) (h : ∀ d, 0 ≤ d → bo us d ≤ bo ts d) {n : Int} (hn : 0 ≤ n) : drk us n ≤ drk ts n := by
  have t := drk_spec f hn
  refine (drk_spec f' hn).least _ t.nn ?_
  have := h _ t.nn
  have := t.fix
  omega
theorem bo_rev (d : Int) : bo ts.reverse d = bo ts d := by
  unfold bo
  rw [List.map_reverse]
  induction ts with
  | nil => rfl
  | cons t ts ih =>
    rw [List.map_cons, List.reverse_cons, List.sum_append, List.sum_cons, List.sum_cons, List.sum_nil, ih]
    omega
/-- twice as much of all -/
def dbl (t : Tr) : Tr := (t.1, 2 * t.2.1, 2 * t.2.2)
theorem bo_dbl (d : Int) : bo (ts.map dbl) d = bo ts d := by
  unfold bo
  rw [List.map_map]
  congr 1
  refine List.map_congr_left fun t _ => ?_
  show 2 * t.2.1 * d / (2 * t.2.2) = t.2.1 * d / t.2.2
  rw [Int.mul_assoc]
  exact Int.mul_ediv_mul_of_pos _ _ (by decide)
theorem bo_more {x : PySem.Str} {n d : Int} : bo (ts ++ [(x, 0, n)]) d = bo ts d := by
  simp [bo]
end
end EB
namespace EB
/-! ## from when on one offer is better -/
section
variable {ts us : List Tr} {s L g : Int}
/-- behind each number the first gives no more at some number -/
def Worse (ts us : List Tr) : Prop := ∀ N : Int, ∃ n, N ≤ n ∧ 0 ≤ n ∧ drk ts n ≤ drk us n
def rateI (ts us : List Tr) : Int := perd ts * nd us - perd us * nd ts
theorem Cmp.worse0 (c : Cmp ts us s L g) (hg : g ≤ 0) {n : Int} (hn : s ≤ n) (h : drk ts n ≤ drk us n) : Worse ts us := fun N => by
  have l0 := c.l0
  have s0 := c.s0
  have m := c.many hn (N - n).toNat
  have kl : ((N - n).toNat : Int) * 1 ≤ ((N - n).toNat : Int) * L := Int.mul_le_mul_of_nonneg_left (by omega) (by omega)
  have kg : ((N - n).toNat : Int) * g ≤ 0 := Int.mul_nonpos_of_nonneg_of_nonpos (by omega) hg
  exact ⟨n + ((N - n).toNat : Int) * L, by omega, by omega, by omega⟩
theorem Cmp.worse (c : Cmp ts us s L g) (hg : g < 0) : Worse ts us := by
  have l0 := c.l0
  have s0 := c.s0
  have m := c.many (n := s) (Int.le_refl _) (drk ts s - drk us s).toNat
  have kl : 0 ≤ ((drk ts s - drk us s).toNat : Int) * L := Int.mul_nonneg (by omega) (by omega)
  have kg : ((drk ts s - drk us s).toNat : Int) * g ≤ ((drk ts s - drk us s).toNat : Int) * (-1) := Int.mul_le_mul_of_nonneg_left (by omega) (by omega)
  exact c.worse0 (by omega) (n := s + ((drk ts s - drk us s).toNat : Int) * L) (by omega) (by omega)
/-- two views of the same change -/
theorem Cmp.cross {s' L' g' : Int} (c : Cmp ts us s L g) (d : Cmp ts us s' L' g') : L' * g = L * g' := by
  have l0 := c.l0
  have l1 := d.l0
  have e1 := c.many (n := s + s') (by have := d.s0; omega) L'.toNat
  have e2 := d.many (n := s + s') (by have := c.s0; omega) L.toNat
  rw [Int.toNat_of_nonneg (by omega)] at e1 e2
  rw [Int.mul_comm L' L] at e1
  omega
theorem Cmp.rate (c : Cmp ts us s L g) (f : Fair ts) (f' : Fair us) (h1 : 1 ≤ ts.length) (h2 : 1 ≤ us.length) : nd ts * nd us * g = L * rateI ts us := by
  obtain ⟨a, ha⟩ := std_ex f h1
  obtain ⟨b, hb⟩ := std_ex f' h2
  have x := c.cross (cmp_of f f' ha hb)
  have p1 := nd_pos f
  have p2 := nd_pos f'
  have lp := lcmI_pos p1 p2
  obtain ⟨k, hk⟩ := lcmI_dl p1 p2
  obtain ⟨l, hl⟩ := lcmI_dr p1 p2
  have d1 : lcmI (nd ts) (nd us) / nd ts = k := by
    rw [hk]
    exact Int.mul_ediv_cancel_left _ (by omega)
  have d2 : lcmI (nd ts) (nd us) / nd us = l := by
    rw [hl]
    exact Int.mul_ediv_cancel_left _ (by omega)
  unfold gainI at x
  rw [d1, d2] at x
  generalize lcmI (nd ts) (nd us) = M at x hk hl lp
  have y : M * (nd ts * nd us * g) = M * (L * rateI ts us) := by
    have q1 : M * (nd ts * nd us * g) = nd ts * nd us * (M * g) := by rw [← Int.mul_assoc, Int.mul_comm M, Int.mul_assoc]
    rw [q1, x]
    unfold rateI
    have q2 : nd ts * nd us * (L * (k * perd ts - l * perd us)) = L * ((nd ts * k) * (perd ts * nd us) - (nd us * l) * (perd us * nd ts)) := by
      simp only [Int.mul_sub, Int.mul_assoc, Int.mul_left_comm, Int.mul_comm]
    rw [q2, ← hk, ← hl, ← Int.mul_sub, ← Int.mul_assoc, Int.mul_comm L M, Int.mul_assoc]
  exact Int.eq_of_mul_eq_mul_left (by omega) y
theorem Cmp.sign (c : Cmp ts us s L g) (f : Fair ts) (f' : Fair us) (h1 : 1 ≤ ts.length) (h2 : 1 ≤ us.length) : (0 < g ↔ 0 < rateI ts us) ∧ (g < 0 ↔ rateI ts us < 0) := by
  have e := c.rate f f' h1 h2
  have p : 0 < nd ts * nd us := Int.mul_pos (nd_pos f) (nd_pos f')
  have l0 := c.l0
  have pos : ∀ {a x : Int}, 0 < a → (0 < a * x ↔ 0 < x) := fun {a x} ha => ⟨fun h => Int.pos_of_mul_pos_left (by rw [Int.mul_comm]; exact h) ha, fun h => Int.mul_pos ha h⟩
  have q1 := pos (x := g) p
  have q2 := pos (x := rateI ts us) l0
  have q3 := pos (x := -g) p
  have q4 := pos (x := -rateI ts us) l0
  rw [Int.mul_neg] at q3 q4
  rw [e] at q1 q3
  constructor
  · rw [← q1, q2]
  · constructor
    · intro h
      have := q4.mp (q3.mpr (by omega))
      omega
    · intro h
      have := q3.mp (q4.mpr (by omega))
      omega
/-- what is told of when one gets better -/
def IsBet (ts us : List Tr) (v : L2.V) : Prop := (v = .non ∧ (rateI ts us < 0 ∨ rateI ts us = 0 ∧ Worse ts us)) ∨
  ∃ F : Int, v = .int F ∧ 1 ≤ F ∧ F ≤ 1000000000000000 ∧ (∀ n, F ≤ n → drk us n < drk ts n) ∧ drk ts (F - 1) ≤ drk us (F - 1)
/-- ahead of the number i -/
structure Bt (ts us : List Tr) (s L : Int) (i F : Int) : Prop where
  pos : 0 ≤ F
  at_ : 0 < F → drk ts (F - 1) ≤ drk us (F - 1)
  le : F ≤ 1000000000000000
  early : ∀ c, 0 ≤ c → c < i → c < s → drk ts c ≤ drk us c → c < F
  late : ∀ c (k : Nat), c < i → s ≤ c → drk ts (c + k * L) ≤ drk us (c + k * L) → c + k * L < F
theorem Bt.start : Bt ts us s L 0 0 ∨ ¬ 0 ≤ s := by
  by_cases h : 0 ≤ s
  · exact .inl ⟨Int.le_refl _, fun h => absurd h (by decide), by decide, fun c c0 c1 => by omega, fun c k c1 c2 => by omega⟩
  · exact .inr h
theorem Bt.skip {i F : Int} (b : Bt ts us s L i F) (c : Cmp ts us s L g) (hg : 0 ≤ g) (h : drk us i < drk ts i) : Bt ts us s L (i + 1) F := by
  refine ⟨b.pos, b.at_, b.le, fun x x0 x1 x2 hx => ?_, fun x k x1 x2 hx => ?_⟩
  · by_cases e : x = i
    · subst e
      omega
    · exact b.early x x0 (by omega) x2 hx
  · by_cases e : x = i
    · subst e
      have m := c.many x2 k
      have kg : 0 ≤ (k : Int) * g := Int.mul_nonneg (by omega) hg
      omega
    · exact b.late x k (by omega) x2 hx
theorem Bt.take {i F z : Int} (b : Bt ts us s L i F) (i0 : 0 ≤ i) (hz : drk ts z ≤ drk us z) (z0 : i ≤ z) (z1 : z < 1000000000000000) (top : s ≤ i → ∀ k : Nat, drk ts (i + k * L) ≤ drk us (i + k * L) → i + k * L ≤ z) : Bt ts us s L (i + 1) (if z ≥ F then z + 1 else F) := by
  have b0 := b.pos
  have w : F ≤ (if z ≥ F then z + 1 else F) ∧ z < (if z ≥ F then z + 1 else F) := by split <;> omega
  refine ⟨by omega, fun h => ?_, ?_, fun x x0 x1 x2 hx => ?_, fun x k x1 x2 hx => ?_⟩
  · split
    · rw [Int.add_sub_cancel]
      exact hz
    · rename_i q
      exact b.at_ (by omega)
  · have := b.le
    split <;> omega
  · by_cases e : x = i
    · omega
    · have := b.early x x0 (by omega) x2 hx
      omega
  · by_cases e : x = i
    · subst e
      have := top x2 k hx
      omega
    · have := b.late x k (by omega) x2 hx
      omega
theorem Bt.fin {F : Int} (c : Cmp ts us s L g) (b : Bt ts us s L (s + L) F) (z : drk ts 0 ≤ drk us 0) : IsBet ts us (.int F) := by
  have s0 := c.s0
  have l0 := c.l0
  have one : 0 < F := by
    by_cases q : 0 < s
    · exact b.early 0 (Int.le_refl _) (by omega) q z
    · have e : s = 0 := by omega
      have := b.late 0 0 (by omega) (by omega) (by simpa using z)
      simpa using this
  refine .inr ⟨F, rfl, one, b.le, fun n hn => ?_, b.at_ one⟩
  by_cases q : drk us n < drk ts n
  · exact q
  · by_cases lt : n < s
    · have := b.early n (by omega) (by omega) lt (by omega)
      omega
    · have e := Int.mul_ediv_add_emod (n - s) L
      have m0 := Int.emod_nonneg (n - s) (show L ≠ 0 by omega)
      have m1 := Int.emod_lt_of_pos (n - s) l0
      have d0 : 0 ≤ (n - s) / L := Int.ediv_nonneg (by omega) (by omega)
      have en : s + (n - s) % L + (((n - s) / L).toNat : Int) * L = n := by
        rw [Int.toNat_of_nonneg d0, Int.mul_comm]
        omega
      have := b.late (s + (n - s) % L) ((n - s) / L).toNat (by omega) (by omega) (by rw [en]; omega)
      omega
/-- the last of one row at which the first is not better -/
theorem Cmp.turns {i : Int} (c : Cmp ts us s L g) (f : Fair ts) (f' : Fair us) (hg : 0 < g) (hs : s ≤ i) (h : drk ts i ≤ drk us i) (i1 : i ≤ 3000003) (l3 : L ≤ 3000000) :
    (0 - (drk ts i - drk us i)) / g * L ≤ 90000090000000 ∧ 0 ≤ (0 - (drk ts i - drk us i)) / g * L ∧ drk ts (i + (0 - (drk ts i - drk us i)) / g * L) ≤ drk us (i + (0 - (drk ts i - drk us i)) / g * L) ∧ ∀ k : Nat, drk ts (i + k * L) ≤ drk us (i + k * L) → i + k * L ≤ i + (0 - (drk ts i - drk us i)) / g * L := by
  have s0 := c.s0
  have l0 := c.l0
  have a1 := drk_ge f (n := i) (by omega)
  have a2 := drk_le f' (n := i) (by omega)
  have d0 : 0 ≤ (0 - (drk ts i - drk us i)) / g := Int.ediv_nonneg (by omega) (by omega)
  have d1 : (0 - (drk ts i - drk us i)) / g ≤ 0 - (drk ts i - drk us i) := Int.ediv_le_self _ (by omega)
  have d2 : (0 - (drk ts i - drk us i)) / g * g ≤ 0 - (drk ts i - drk us i) := Int.ediv_mul_le _ (by omega)
  have b : (0 - (drk ts i - drk us i)) / g * L ≤ 30000030 * 3000000 := Int.mul_le_mul (by omega) l3 (by omega) (by decide)
  refine ⟨by omega, Int.mul_nonneg d0 (by omega), ?_, fun k hk => ?_⟩
  · have m := c.many hs ((0 - (drk ts i - drk us i)) / g).toNat
    rw [Int.toNat_of_nonneg d0] at m
    omega
  · have m := c.many hs k
    have kg : (k : Int) * g ≤ 0 - (drk ts i - drk us i) := by omega
    have kd : (k : Int) ≤ (0 - (drk ts i - drk us i)) / g := (Int.le_ediv_iff_mul_le hg).mpr kg
    have := Int.mul_le_mul_of_nonneg_right kd (show 0 ≤ L by omega)
    omega
end
end EB
namespace EB
open PySem PySem.Spec L2 StX ClX
set_option maxHeartbeats 1000000
/-! ## trades in the heap -/
/-- x is the trade t: a tuple of its kind and its two numbers -/
def TrAt (H : Hp) (x : V) (t : Tr) : Prop := ∃ p, x = .ref p ∧ H p = some (.tup [.str t.1, .int t.2.1, .int t.2.2])
/-- a tuple of trades stands at a -/
def Trs (H : Hp) (a : Addr) (ts : List Tr) : Prop := ∃ xs, H a = some (.tup xs) ∧ Paired (TrAt H) xs ts
theorem TrAt.up {H H' : Hp} {x : V} {t : Tr} (e : Ex H H') (h : TrAt H x t) : TrAt H' x t := by
  obtain ⟨p, rfl, hp⟩ := h
  exact ⟨p, rfl, e _ _ hp⟩
theorem trsUp {H H' : Hp} : ∀ {xs : List V} {ts : List Tr}, Ex H H' → Paired (TrAt H) xs ts → Paired (TrAt H') xs ts
  | _, _, _, .nil => .nil
  | _, _, e, .cons a r => .cons (a.up e) (trsUp e r)
theorem Trs.up {H H' : Hp} {a : Addr} {ts : List Tr} (e : Ex H H') (h : Trs H a ts) : Trs H' a ts := by
  obtain ⟨xs, h1, h2⟩ := h
  exact ⟨xs, e _ _ h1, trsUp e h2⟩
theorem pairedGet {α β : Type} {F : α → β → Prop} : ∀ {xs : List α} {ys : List β} {i : Nat} {x : α}, Paired F xs ys → xs[i]? = some x → ∃ y, ys[i]? = some y ∧ F x y
  | _, _, _, _, .nil, h => by simp at h
  | _, _, 0, _, .cons a _, h => by
    simp at h
    subst h
    exact ⟨_, rfl, a⟩
  | _, _, i + 1, x, .cons _ r, h => by
    obtain ⟨y, h1, h2⟩ := pairedGet (i := i) (x := x) r (by simpa using h)
    exact ⟨y, by simpa using h1, h2⟩
theorem pairedMem {α β : Type} {F : α → β → Prop} : ∀ {xs : List α} {ys : List β} {x : α}, Paired F xs ys → x ∈ xs → ∃ y, y ∈ ys ∧ F x y
  | _, _, _, .nil, h => by simp at h
  | _, _, x, .cons a r, h => by
    rcases List.mem_cons.mp h with rfl | h
    · exact ⟨_, List.mem_cons_self, a⟩
    · obtain ⟨y, h1, h2⟩ := pairedMem r h
      exact ⟨y, List.mem_cons_of_mem _ h1, h2⟩
theorem pairedMap {α β γ : Type} {F : α → β → Prop} {f : α → γ} {g : β → γ} : ∀ {xs : List α} {ys : List β}, Paired F xs ys → (∀ x y, F x y → f x = g y) → xs.map f = ys.map g
  | _, _, .nil, _ => rfl
  | _, _, .cons a r, h => by
    rw [List.map_cons, List.map_cons, h _ _ a, pairedMap r h]
theorem pairedLen {α β : Type} {F : α → β → Prop} {xs : List α} {ys : List β} (h : Paired F xs ys) : xs.length = ys.length := Paired.length h

/-! ## promises of the plain defs -/
def sp_common_divisor (_ : PySem.W.Frag) : Sp := fun vs H Q _ => ∃ a b : Int, vs = [.int a, .int b] ∧ 0 ≤ a ∧ 0 ≤ b ∧ ∀ H', Ex H H' → Q (.int (gcdI a b)) H'
theorem len_common_divisor {K} : ∀ vs H Q E, sp_common_divisor K vs H Q E → vs.length = 2 := by rintro _ _ _ _ ⟨_, _, rfl, _⟩; rfl
theorem ap_common_divisor {K : PySem.W.Frag} {H : Hp} {Q : VK} {E : XK} {a b : Int} (h1 : 0 ≤ a) (h2 : 0 ≤ b) (k : ∀ H', Ex H H' → Q (.int (gcdI a b)) H') : sp_common_divisor K [.int a, .int b] H Q E := ⟨a, b, rfl, h1, h2, k⟩
def sp_common_multiple (_ : PySem.W.Frag) : Sp := fun vs H Q _ => ∃ a b : Int, vs = [.int a, .int b] ∧ 0 < a ∧ 0 < b ∧ b < 1000000 ∧ ∀ H', Ex H H' → Q (.int (lcmI a b)) H'
theorem len_common_multiple {K} : ∀ vs H Q E, sp_common_multiple K vs H Q E → vs.length = 2 := by rintro _ _ _ _ ⟨_, _, rfl, _⟩; rfl
theorem ap_common_multiple {K : PySem.W.Frag} {H : Hp} {Q : VK} {E : XK} {a b : Int} (h1 : 0 < a) (h2 : 0 < b) (h3 : b < 1000000) (k : ∀ H', Ex H H' → Q (.int (lcmI a b)) H') : sp_common_multiple K [.int a, .int b] H Q E := ⟨a, b, rfl, h1, h2, h3, k⟩
def sp_bought (_ : PySem.W.Frag) : Sp := fun vs H Q _ => ∃ a ts d, vs = [.ref a, .int d] ∧ Trs H a ts ∧ Goods ts ∧ ∀ H', Ex H H' → Q (.int (bo ts d)) H'
theorem len_bought {K} : ∀ vs H Q E, sp_bought K vs H Q E → vs.length = 2 := by rintro _ _ _ _ ⟨_, _, _, rfl, _⟩; rfl
theorem ap_bought {K : PySem.W.Frag} {H : Hp} {Q : VK} {E : XK} {a : Addr} {ts : List Tr} {d : Int} (h : Trs H a ts) (g : Goods ts) (k : ∀ H', Ex H H' → Q (.int (bo ts d)) H') : sp_bought K [.ref a, .int d] H Q E := ⟨a, ts, d, rfl, h, g, k⟩
def sp_least_point (_ : PySem.W.Frag) : Sp := fun vs H Q _ => ∃ a ts n x, vs = [.ref a, .int n, .int x] ∧ Trs H a ts ∧ Goods ts ∧ x ≤ n + bo ts x ∧ (∃ B, x ≤ B ∧ n + bo ts B ≤ B) ∧
  ∀ D H', x ≤ D → n + bo ts D = D → (∀ e, x ≤ e → n + bo ts e ≤ e → D ≤ e) → Ex H H' → Q (.int D) H'
theorem len_least_point {K} : ∀ vs H Q E, sp_least_point K vs H Q E → vs.length = 3 := by rintro _ _ _ _ ⟨_, _, _, _, rfl, _⟩; rfl
def sp_needed_multiple (_ : PySem.W.Frag) : Sp := fun vs H Q _ => ∃ a ts, vs = [.ref a] ∧ Trs H a ts ∧ Goods ts ∧ ∀ H', Ex H H' → Q (.int (ndm ts)) H'
theorem len_needed_multiple {K} : ∀ vs H Q E, sp_needed_multiple K vs H Q E → vs.length = 1 := by rintro _ _ _ _ ⟨_, _, rfl, _⟩; rfl
theorem ap_needed_multiple {K : PySem.W.Frag} {H : Hp} {Q : VK} {E : XK} {a : Addr} {ts : List Tr} (h : Trs H a ts) (g : Goods ts) (k : ∀ H', Ex H H' → Q (.int (ndm ts)) H') : sp_needed_multiple K [.ref a] H Q E := ⟨a, ts, rfl, h, g, k⟩
def sp_period_of (_ : PySem.W.Frag) : Sp := fun vs H Q _ => ∃ a ts, vs = [.ref a] ∧ Trs H a ts ∧ Goods ts ∧ ∀ p H', H p = none → Ex H H' → H' p = some (.tup [.int (nd ts), .int (perd ts)]) → Q (.ref p) H'
theorem len_period_of {K} : ∀ vs H Q E, sp_period_of K vs H Q E → vs.length = 1 := by rintro _ _ _ _ ⟨_, _, rfl, _⟩; rfl
theorem ap_period_of {K : PySem.W.Frag} {H : Hp} {Q : VK} {E : XK} {a : Addr} {ts : List Tr} (h : Trs H a ts) (g : Goods ts) (k : ∀ p H', H p = none → Ex H H' → H' p = some (.tup [.int (nd ts), .int (perd ts)]) → Q (.ref p) H') : sp_period_of K [.ref a] H Q E := ⟨a, ts, rfl, h, g, k⟩
def sp_total (_ : PySem.W.Frag) : Sp := fun vs H Q _ => ∃ a ts n, vs = [.ref a, .int n] ∧ Trs H a ts ∧ Fair ts ∧ 1 ≤ ts.length ∧ 0 ≤ n ∧ ∀ H', Ex H H' → Q (.int (drk ts n)) H'
theorem len_total {K} : ∀ vs H Q E, sp_total K vs H Q E → vs.length = 2 := by rintro _ _ _ _ ⟨_, _, _, rfl, _⟩; rfl
theorem ap_total {K : PySem.W.Frag} {H : Hp} {Q : VK} {E : XK} {a : Addr} {ts : List Tr} {n : Int} (h : Trs H a ts) (g : Fair ts) (h1 : 1 ≤ ts.length) (hn : 0 ≤ n) (k : ∀ H', Ex H H' → Q (.int (drk ts n)) H') : sp_total K [.ref a, .int n] H Q E := ⟨a, ts, n, rfl, h, g, h1, hn, k⟩
end EB
namespace EB
open PySem PySem.Spec L2 StX ClX
set_option maxHeartbeats 1000000
/-! ## offers -/
def LET : Str := "abcdefghijklmnopqrstuvwxyz"
def isKind (z : Str) : Bool := (decide ((1 : Int) ≤ z.length) && decide ((z.length : Int) ≤ 8)) && z.cps.toList.all fun c => decide (c ∈ LET.cps.toList)
def isTK (z : Str) : Bool := isKind z && !decide (z = "drink")
def isTr (t : Tr) : Bool := isTK t.1 && ((decide (0 ≤ t.2.1) && decide (t.2.1 ≤ 12)) && (decide (1 ≤ t.2.2) && decide (t.2.2 ≤ 12)))
/-- trades that make an offer -/
structure OfferOk (ts : List Tr) : Prop where
  fair : Fair ts
  one : 1 ≤ ts.length
  kinds : ∀ t ∈ ts, isTK t.1 = true ∧ t.1.length ≤ 8
  nodup : (ts.map (·.1)).Nodup
/-- the class Offer as the walk asks it -/
structure OfK (K : PySem.W.Frag) : Prop where
  cls : Cls K (He.ga K "Offer")
  np : NoAttr K (He.ga K "Offer") "parts"
  cr : CRead K (He.ga K "Offer") metaT
  mn : ∃ u, CVal K (He.ga K "Offer") metaT "MAX_NEEDED" (.int 12) u
  mt : ∃ u, CVal K (He.ga K "Offer") metaT "MAX_TRADES" (.int 3) u
/-- an offer stands at o -/
def OfferAt (K : PySem.W.Frag) (H : Hp) (o : Addr) (ts : List Tr) : Prop := ∃ dx a, H o = some (.ins (He.ga K "Offer") dx [("parts", .ref a)]) ∧ Trs H a ts
theorem OfferAt.up {K : PySem.W.Frag} {H H' : Hp} {o : Addr} {ts : List Tr} (e : Ex H H') (h : OfferAt K H o ts) : OfferAt K H' o ts := by
  obtain ⟨dx, a, h1, h2⟩ := h
  exact ⟨dx, a, e _ _ h1, h2.up e⟩
def sp_is_kind (_ : PySem.W.Frag) : Sp := fun vs H Q _ => ∃ z : Str, vs = [.str z] ∧ z.length ≤ sizeLine ∧ ∀ H', Ex H H' → Q (.bl (isKind z)) H'
theorem len_is_kind {K} : ∀ vs H Q E, sp_is_kind K vs H Q E → vs.length = 1 := by rintro _ _ _ _ ⟨_, rfl, _⟩; rfl
def sp_is_trade_kind (_ : PySem.W.Frag) : Sp := fun vs H Q _ => ∃ z : Str, vs = [.str z] ∧ z.length ≤ sizeLine ∧ ∀ H', Ex H H' → Q (.bl (isTK z)) H'
theorem len_is_trade_kind {K} : ∀ vs H Q E, sp_is_trade_kind K vs H Q E → vs.length = 1 := by rintro _ _ _ _ ⟨_, rfl, _⟩; rfl
def sp_is_trade (_ : PySem.W.Frag) : Sp := fun vs H Q _ => ∃ (p : Addr) (t : Tr), vs = [.ref p] ∧ H p = some (.tup [.str t.1, .int t.2.1, .int t.2.2]) ∧ t.1.length ≤ sizeLine ∧ ∀ H', Ex H H' → Q (.bl (isTr t)) H'
theorem len_is_trade {K} : ∀ vs H Q E, sp_is_trade K vs H Q E → vs.length = 1 := by rintro _ _ _ _ ⟨_, _, rfl, _⟩; rfl
def sp_validate_number (_ : PySem.W.Frag) : Sp := fun vs H Q _ => ∃ n lo hi : Int, vs = [.int n, .int lo, .int hi] ∧ lo ≤ n ∧ n ≤ hi ∧ ∀ H', Ex H H' → Q .non H'
theorem len_validate_number {K} : ∀ vs H Q E, sp_validate_number K vs H Q E → vs.length = 3 := by rintro _ _ _ _ ⟨_, _, _, rfl, _⟩; rfl
theorem ap_validate_number {K : PySem.W.Frag} {H : Hp} {Q : VK} {E : XK} {n lo hi : Int} (h1 : lo ≤ n) (h2 : n ≤ hi) (k : ∀ H', Ex H H' → Q .non H') : sp_validate_number K [.int n, .int lo, .int hi] H Q E := ⟨n, lo, hi, rfl, h1, h2, k⟩
def spi_Offer_init (K : PySem.W.Frag) : Sp := fun vs H Q _ => ∃ x dx a ts, vs = [.ref x, .ref a] ∧ H x = some (.ins (He.ga K "Offer") dx []) ∧ Trs H a ts ∧ OfferOk ts ∧
  ∀ H', ExB x H H' → H' x = some (.ins (He.ga K "Offer") dx [("parts", .ref a)]) → Q .non H'
def sp_Offer_init (K : PySem.W.Frag) : Sp := fun vs H Q _ => ∃ x dx xs ts, vs = .ref x :: xs ∧ H x = some (.ins (He.ga K "Offer") dx []) ∧ Paired (TrAt H) xs ts ∧ OfferOk ts ∧
  ∀ a H', ExB x H H' → H' x = some (.ins (He.ga K "Offer") dx [("parts", .ref a)]) → Trs H' a ts → Q .non H'
theorem TrAt.upB {H H' : Hp} {l : Addr} {o : HO} {x : V} {t : Tr} (hl : H l = some o) (nt : ∀ zs, o ≠ .tup zs) (e : ExB l H H') (h : TrAt H x t) : TrAt H' x t := by
  obtain ⟨p, rfl, hp⟩ := h
  exact ⟨p, rfl, e _ _ (ne_of hp hl (fun z => nt _ z.symm)) hp⟩
theorem trsUpB {H H' : Hp} {l : Addr} {o : HO} (hl : H l = some o) (nt : ∀ zs, o ≠ .tup zs) (e : ExB l H H') : ∀ {xs : List V} {ts : List Tr}, Paired (TrAt H) xs ts → Paired (TrAt H') xs ts
  | _, _, .nil => .nil
  | _, _, .cons a r => .cons (a.upB hl nt e) (trsUpB hl nt e r)
theorem Trs.upB {H H' : Hp} {l : Addr} {o : HO} {a : Addr} {ts : List Tr} (hl : H l = some o) (nt : ∀ zs, o ≠ .tup zs) (e : ExB l H H') (h : Trs H a ts) : Trs H' a ts := by
  obtain ⟨xs, h1, h2⟩ := h
  exact ⟨xs, e _ _ (ne_of h1 hl (fun z => nt _ z.symm)) h1, trsUpB hl nt e h2⟩
theorem out_Offer_init (K : PySem.W.Frag) : ∀ vs H Q E, sp_Offer_init K vs H Q E → ∃ ws rest, vs = ws ++ rest ∧ ws.length = 1 ∧ rest.length ≤ sizeLine ∧ ∀ p, H p = none → spi_Offer_init K (ws ++ [V.ref p]) (upd H p (.tup rest)) Q E := by
  rintro vs H Q E ⟨x, dx, xs, ts, rfl, hx, hp, ok, k⟩
  refine ⟨[.ref x], xs, rfl, rfl, ?_, fun p np => ?_⟩
  · rw [pairedLen hp]
    exact Nat.le_trans ok.fair.1.1 (by decide)
  · have e : Ex H (upd H p (.tup xs)) := Evl.Ex.new np
    refine ⟨x, dx, p, ts, rfl, e _ _ hx, ⟨xs, upd_same, trsUp e hp⟩, ok, fun H' eb h1 => ?_⟩
    refine k p H' (fun b o nb hb => eb b o nb (e b o hb)) h1 ?_
    exact Trs.upB (e _ _ hx) (fun _ z => nomatch z) eb ⟨xs, upd_same, trsUp e hp⟩
def sp_Offer_call (K : PySem.W.Frag) : Sp := fun vs H Q _ => ∃ o ts n, vs = [.ref o, .int n] ∧ OfferAt K H o ts ∧ OfferOk ts ∧ 0 ≤ n ∧ n ≤ 1000000000000000000 ∧ ∀ H', Ex H H' → Q (.int (drk ts n)) H'
theorem len_Offer_call {K} : ∀ vs H Q E, sp_Offer_call K vs H Q E → vs.length = 2 := by rintro _ _ _ _ ⟨_, _, _, rfl, _⟩; rfl
theorem ap_Offer_call {K : PySem.W.Frag} {H : Hp} {Q : VK} {E : XK} {o : Addr} {ts : List Tr} {n : Int} (h : OfferAt K H o ts) (ok : OfferOk ts) (h1 : 0 ≤ n) (h2 : n ≤ 1000000000000000000) (k : ∀ H', Ex H H' → Q (.int (drk ts n)) H') : sp_Offer_call K [.ref o, .int n] H Q E := ⟨o, ts, n, rfl, h, ok, h1, h2, k⟩
theorem len_Offer_init {K} : ∀ vs H Q E, spi_Offer_init K vs H Q E → vs.length = 2 := by rintro _ _ _ _ ⟨_, _, _, _, rfl, _⟩; rfl
/-- the drinks of each by itself -/
noncomputable def drks (ts : List Tr) (ns : List Int) : Int := (ns.map (drk ts)).sum
def spi_Offer_pooled (K : PySem.W.Frag) : Sp := fun vs H Q _ => ∃ o ts a ns, vs = [.ref o, .ref a] ∧ OfferAt K H o ts ∧ OfferOk ts ∧ H a = some (.tup (ns.map V.int)) ∧ ns.length ≤ 100 ∧ (∀ n ∈ ns, 0 ≤ n) ∧ ns.sum ≤ 1000000000000000000 ∧
  ∀ H', Ex H H' → Q (.int (drk ts ns.sum - drks ts ns)) H'
def sp_Offer_pooled (K : PySem.W.Frag) : Sp := fun vs H Q _ => ∃ o ts ns, vs = .ref o :: ns.map V.int ∧ OfferAt K H o ts ∧ OfferOk ts ∧ ns.length ≤ 100 ∧ (∀ n ∈ ns, 0 ≤ n) ∧ ns.sum ≤ 1000000000000000000 ∧
  ∀ H', Ex H H' → Q (.int (drk ts ns.sum - drks ts ns)) H'
theorem out_Offer_pooled (K : PySem.W.Frag) : ∀ vs H Q E, sp_Offer_pooled K vs H Q E → ∃ ws rest, vs = ws ++ rest ∧ ws.length = 1 ∧ rest.length ≤ sizeLine ∧ ∀ p, H p = none → spi_Offer_pooled K (ws ++ [V.ref p]) (upd H p (.tup rest)) Q E := by
  rintro vs H Q E ⟨o, ts, ns, rfl, ho, ok, hl, h0, hs, k⟩
  refine ⟨[.ref o], ns.map V.int, rfl, rfl, ?_, fun p np => ?_⟩
  · rw [List.length_map]
    exact Nat.le_trans hl (by decide)
  · have e : Ex H (upd H p (.tup (ns.map V.int))) := Evl.Ex.new np
    exact ⟨o, ts, p, ns, rfl, ho.up e, ok, upd_same, hl, h0, hs, fun H' e' => k H' (Evl.Ex.trans e e')⟩
end EB
namespace EB
open PySem PySem.Spec L2 StX ClX
set_option maxHeartbeats 1000000
/-! ## the laws' source of draws -/
/-- a source at h: a number, the cells at c, an index -/
structure Src (H : Hp) (h c : Addr) : Prop where
  ex : ∃ (m k : Int) (ns : List Int), H h = some (.lst [.int m, .ref c, .int k]) ∧ H c = some (.lst (ns.map V.int)) ∧ ns.length ≤ 63 ∧ 0 ≤ m ∧ 0 ≤ k
theorem Src.ne {H : Hp} {h c : Addr} (s : Src H h c) : h ≠ c := by
  obtain ⟨m, k, ns, h1, h2, _⟩ := s.ex
  intro e
  rw [e, h2] at h1
  have e2 : ns.map V.int = [.int m, .ref c, .int k] := HO.lst.inj (Option.some.inj h1)
  have e3 : (ns.map V.int)[1]? = some (.ref c) := by rw [e2]; rfl
  rw [List.getElem?_map] at e3
  cases q : ns[1]? with
  | none => rw [q] at e3; cases e3
  | some i => rw [q] at e3; cases e3
/-- behind a draw: the source stands, and all but it as it was -/
structure SrcUp (h c : Addr) (H H' : Hp) : Prop where
  src : Src H' h c
  keep : ∀ a o, a ≠ h → a ≠ c → H a = some o → H' a = some o
theorem Src.up {H H' : Hp} {h c : Addr} (s : Src H h c) (e : Ex H H') : Src H' h c := by
  obtain ⟨m, k, ns, h1, h2, r⟩ := s.ex
  exact ⟨m, k, ns, e _ _ h1, e _ _ h2, r⟩
theorem SrcUp.of {H H' : Hp} {h c : Addr} (s : Src H h c) (e : Ex H H') : SrcUp h c H H' := ⟨s.up e, fun a o _ _ q => e a o q⟩
theorem SrcUp.trans {H H1 H2 : Hp} {h c : Addr} (a : SrcUp h c H H1) (b : SrcUp h c H1 H2) : SrcUp h c H H2 := ⟨b.src, fun x o n1 n2 q => b.keep x o n1 n2 (a.keep x o n1 n2 q)⟩
theorem SrcUp.andEx {H H1 H2 : Hp} {h c : Addr} (a : SrcUp h c H H1) (e : Ex H1 H2) : SrcUp h c H H2 := a.trans (SrcUp.of a.src e)
theorem Src.there {H : Hp} {h c : Addr} (s : Src H h c) : (∃ o, H h = some o) ∧ ∃ o, H c = some o := by
  obtain ⟨m, k, ns, h1, h2, _⟩ := s.ex
  exact ⟨⟨_, h1⟩, _, h2⟩
/-- what is new behind a draw was not there ahead -/
theorem SrcUp.free {H H' : Hp} {h c p : Addr} (u : SrcUp h c H H') (n : H' p = none) : H p = none ∧ p ≠ h ∧ p ≠ c := by
  obtain ⟨⟨o1, h1⟩, o2, h2⟩ := u.src.there
  have n1 : p ≠ h := fun e => by rw [e, h1] at n; cases n
  have n2 : p ≠ c := fun e => by rw [e, h2] at n; cases n
  refine ⟨?_, n1, n2⟩
  cases q : H p with
  | none => rfl
  | some o =>
    rw [u.keep p o n1 n2 q] at n
    cases n
/-- objects that are no lists stand -/
theorem SrcUp.at {H H' : Hp} {h c a : Addr} {o : HO} (s : Src H h c) (u : SrcUp h c H H') (q : H a = some o) (nl : ∀ zs, o ≠ .lst zs) : H' a = some o := by
  obtain ⟨m, k, ns, h1, h2, _⟩ := s.ex
  exact u.keep a o (ne_of q h1 (nl _)) (ne_of q h2 (nl _)) q
theorem TrAt.upS {H H' : Hp} {h c : Addr} {x : V} {t : Tr} (s : Src H h c) (u : SrcUp h c H H') (q : TrAt H x t) : TrAt H' x t := by
  obtain ⟨p, rfl, hp⟩ := q
  exact ⟨p, rfl, u.at s hp (fun _ z => nomatch z)⟩
theorem trsUpS {H H' : Hp} {h c : Addr} (s : Src H h c) (u : SrcUp h c H H') : ∀ {xs : List V} {ts : List Tr}, Paired (TrAt H) xs ts → Paired (TrAt H') xs ts
  | _, _, .nil => .nil
  | _, _, .cons a r => .cons (a.upS s u) (trsUpS s u r)
theorem Trs.upS {H H' : Hp} {h c a : Addr} {ts : List Tr} (s : Src H h c) (u : SrcUp h c H H') (q : Trs H a ts) : Trs H' a ts := by
  obtain ⟨xs, h1, h2⟩ := q
  exact ⟨xs, u.at s h1 (fun _ z => nomatch z), trsUpS s u h2⟩
theorem OfferAt.upS {K : PySem.W.Frag} {H H' : Hp} {h c o : Addr} {ts : List Tr} (s : Src H h c) (u : SrcUp h c H H') (q : OfferAt K H o ts) : OfferAt K H' o ts := by
  obtain ⟨dx, a, h1, h2⟩ := q
  exact ⟨dx, a, u.at s h1 (fun _ z => nomatch z), h2.upS s u⟩
def sp__law_mix (K : PySem.W.Frag) : Sp := fun vs H Q _ => ∃ (a : Addr) (ns : List Int) (s : Int), vs = [.ref a, .int s] ∧ SqL K H a (ns.map V.int) ∧ ns.length ≤ 63 ∧ 0 ≤ s ∧
  ∀ h c H', H h = none → H c = none → Ex H H' → Src H' h c → Q (.ref h) H'
theorem len__law_mix {K} : ∀ vs H Q E, sp__law_mix K vs H Q E → vs.length = 2 := by rintro _ _ _ _ ⟨_, _, _, rfl, _⟩; rfl
def sp__law_next (_ : PySem.W.Frag) : Sp := fun vs H Q _ => ∃ (h c : Addr) (n : Int), vs = [.ref h, .int n] ∧ Src H h c ∧ 1 ≤ n ∧ n ≤ 1000000000000000000000 ∧ ∀ r H', 0 ≤ r → r < n → SrcUp h c H H' → Q (.int r) H'
theorem len__law_next {K} : ∀ vs H Q E, sp__law_next K vs H Q E → vs.length = 2 := by rintro _ _ _ _ ⟨_, _, _, rfl, _⟩; rfl
theorem ap__law_next {K : PySem.W.Frag} {H : Hp} {Q : VK} {E : XK} {h c : Addr} {n : Int} (s : Src H h c) (h1 : 1 ≤ n) (h2 : n ≤ 1000000000000000000000) (k : ∀ r H', 0 ≤ r → r < n → SrcUp h c H H' → Q (.int r) H') : sp__law_next K [.ref h, .int n] H Q E := ⟨h, c, n, rfl, s, h1, h2, k⟩
def lawKinds : List Str := ["empty", "cap", "label"]
/-- what _law_trades draws -/
structure LawTr (most largest : Int) (ts : List Tr) : Prop where
  ok : OfferOk ts
  kinds : ts.map (·.1) = lawKinds.take ts.length
  len : (ts.length : Int) ≤ most
  small : ∀ t ∈ ts, t.2.1 ≤ t.2.2 ∧ t.2.2 ≤ largest
def sp__law_trades (_ : PySem.W.Frag) : Sp := fun vs H Q _ => ∃ (h c : Addr) (m l : Int), vs = [.ref h, .int m, .int l] ∧ Src H h c ∧ 1 ≤ m ∧ m ≤ 3 ∧ 1 ≤ l ∧ l ≤ 12 ∧
  ∀ p ts H', H p = none → SrcUp h c H H' → Trs H' p ts → LawTr m l ts → Q (.ref p) H'
theorem len__law_trades {K} : ∀ vs H Q E, sp__law_trades K vs H Q E → vs.length = 3 := by rintro _ _ _ _ ⟨_, _, _, _, rfl, _⟩; rfl
def sp__law_offer (K : PySem.W.Frag) : Sp := fun vs H Q _ => ∃ (a : Addr) (ts : List Tr), vs = [.ref a] ∧ Trs H a ts ∧ OfferOk ts ∧ ∀ o H', H o = none → Ex H H' → OfferAt K H' o ts → Q (.ref o) H'
theorem len__law_offer {K} : ∀ vs H Q E, sp__law_offer K vs H Q E → vs.length = 1 := by rintro _ _ _ _ ⟨_, _, rfl, _⟩; rfl
theorem ap__law_offer {K : PySem.W.Frag} {H : Hp} {Q : VK} {E : XK} {a : Addr} {ts : List Tr} (h : Trs H a ts) (ok : OfferOk ts) (k : ∀ o H', H o = none → Ex H H' → OfferAt K H' o ts → Q (.ref o) H') : sp__law_offer K [.ref a] H Q E := ⟨a, ts, rfl, h, ok, k⟩
/-- a new offer -/
theorem ap_make {K : PySem.W.Frag} {H H2 : Hp} {Q : VK} {E : XK} {x : Addr} {xs : List V} {ts : List Tr} {dx : Addr} (hx : H x = none) (e : Ex H H2) (h2 : H2 x = some (.ins (He.ga K "Offer") dx [])) (hp : Paired (TrAt H) xs ts) (ok : OfferOk ts)
    (k : ∀ H', Ex H H' → OfferAt K H' x ts → Q (.ref x) H') : sp_Offer_init K (.ref x :: xs) H2 (fun v H3 => v = .non ∧ Q (.ref x) H3) E :=
  ⟨x, dx, xs, ts, rfl, h2, trsUp e hp, ok, fun a H' eb h1 hT => ⟨rfl, k H' (ExB.ex e hx eb) ⟨dx, a, h1, hT⟩⟩⟩
end EB
namespace EB
open PySem PySem.Spec L2 StX ClX
set_option maxHeartbeats 1000000
/-! ## data that the laws compare -/
/-- a dict of texts to numbers: as the walk tracks it, as data -/
def dKv (kvs : List (Str × Int)) : List (Key × V) := kvs.map fun p => (.inr p.1, .int p.2)
def dicD (kvs : List (Str × Int)) : PyData := .dict (kvs.map fun p => (.str p.1, .int p.2))
mutual
/-- data at any depth, of objects that the walk tracks -/
inductive Dq (H : Hp) : V → PyData → Prop
  | non : Dq H .non .none
  | bl (b : Bool) : Dq H (.bl b) (.bool b)
  | int (i : Int) : Dq H (.int i) (.int i)
  | str (x : Str) : Dq H (.str x) (.str x)
  | lst {a : Addr} {xs : List V} {ds : List PyData} : H a = some (.lst xs) → DqAll H xs ds → Dq H (.ref a) (.list ds)
  | tup {a : Addr} {xs : List V} {ds : List PyData} : H a = some (.tup xs) → DqAll H xs ds → Dq H (.ref a) (.tuple ds)
  | dic {a : Addr} {kvs : List (Str × Int)} : H a = some (.dK (dKv kvs)) → Dq H (.ref a) (dicD kvs)
inductive DqAll (H : Hp) : List V → List PyData → Prop
  | nil : DqAll H [] []
  | cons {v : V} {vs : List V} {d : PyData} {ds : List PyData} : Dq H v d → DqAll H vs ds → DqAll H (v :: vs) (d :: ds)
end
mutual
theorem Dq.up {H H' : Hp} (e : Ex H H') : ∀ (d : PyData) (v : V), Dq H v d → Dq H' v d
  | .none, _, h => by cases h; exact .non
  | .bool b, _, h => by cases h; exact .bl b
  | .int i, _, h => by cases h; exact .int i
  | .str x, _, h => by cases h; exact .str x
  | .list ds, _, h => by
    cases h with
    | lst h1 h2 => exact .lst (e _ _ h1) (DqAll.up e ds _ h2)
  | .tuple ds, _, h => by
    cases h with
    | tup h1 h2 => exact .tup (e _ _ h1) (DqAll.up e ds _ h2)
  | .dict _, _, h => by
    cases h with
    | dic h1 => exact .dic (e _ _ h1)
theorem DqAll.up {H H' : Hp} (e : Ex H H') : ∀ (ds : List PyData) (vs : List V), DqAll H vs ds → DqAll H' vs ds
  | [], _, h => by cases h; exact .nil
  | d :: ds, _, h => by
    cases h with
    | cons h1 h2 => exact .cons (Dq.up e d _ h1) (DqAll.up e ds _ h2)
end
mutual
/-- no dict within -/
def noDic : PyData → Bool
  | .list ds => noDics ds
  | .tuple ds => noDics ds
  | .dict _ => false
  | _ => true
def noDics : List PyData → Bool
  | [] => true
  | d :: ds => noDic d && noDics ds
end
mutual
theorem Dq.dp {K : PySem.W.Frag} {H : Hp} : ∀ (d : PyData) (v : V), noDic d = true → Dq H v d → Dp K H v d
  | .none, _, _, h => by cases h; exact .non
  | .bool b, _, _, h => by cases h; exact .bl b
  | .int i, _, _, h => by cases h; exact .int i
  | .str x, _, _, h => by cases h; exact .str x
  | .list ds, _, n, h => by
    cases h with
    | lst h1 h2 => exact .lst (Evl.sq_of h1) (DqAll.dp ds _ n h2)
  | .tuple ds, _, n, h => by
    cases h with
    | tup h1 h2 => exact .tup (Evl.st_of h1) (DqAll.dp ds _ n h2)
  | .dict _, _, n, _ => by cases n
theorem DqAll.dp {K : PySem.W.Frag} {H : Hp} : ∀ (ds : List PyData) (vs : List V), noDics ds = true → DqAll H vs ds → DpAll K H vs ds
  | [], _, _, h => by cases h; exact .nil
  | d :: ds, _, n, h => by
    cases h with
    | cons h1 h2 =>
      obtain ⟨n1, n2⟩ := Bool.and_eq_true_iff.mp n
      exact .cons (Dq.dp d _ n1 h1) (DqAll.dp ds _ n2 h2)
end
theorem DqAll.len {H : Hp} : ∀ {vs : List V} {ds : List PyData}, DqAll H vs ds → vs.length = ds.length
  | _, _, .nil => rfl
  | _, _, .cons _ t => by rw [List.length_cons, List.length_cons, t.len]
theorem DqAll.get {H : Hp} : ∀ {vs : List V} {ds : List PyData} {i : Nat} {d : PyData}, DqAll H vs ds → ds[i]? = some d → ∃ v, vs[i]? = some v ∧ Dq H v d
  | _, _, _, _, .nil, h => by simp at h
  | _, _, 0, _, .cons a _, h => by
    simp at h
    subst h
    exact ⟨_, rfl, a⟩
  | _, _, i + 1, _, .cons _ r, h => by
    obtain ⟨v, h1, h2⟩ := r.get (i := i) (by simpa using h)
    exact ⟨v, by simpa using h1, h2⟩
/-- a key's text -/
def keyS : PyData → Str
  | .str x => x
  | _ => ""
/-- what may be compared: shaped, at most n deep, no list longer than 6000 -/
def okD : Nat → PyData → Bool
  | 0, _ => false
  | _ + 1, .none => true
  | _ + 1, .bool _ => true
  | _ + 1, .int _ => true
  | _ + 1, .str x => PyData.strOk x
  | n + 1, .list ds => decide (ds.length ≤ 6000) && ds.all (okD n)
  | n + 1, .tuple ds => decide (ds.length ≤ 1000) && ds.all (okD n)
  | n + 1, .dict kvs => decide (2 ≤ n) && (decide (kvs.length ≤ 1000) && (decide ((kvs.map fun p => keyS p.1).Nodup) && kvs.all fun p => PyData.strOk (keyS p.1)))
theorem okD_can : ∀ n d, okD n d = true → noDic d = true → d.canLay0 = true ∧ d.depth ≤ n
  | 0, d, h, _ => by cases h
  | n + 1, .none, _, _ => ⟨rfl, Nat.zero_le _⟩
  | n + 1, .bool _, _, _ => ⟨rfl, Nat.zero_le _⟩
  | n + 1, .int _, _, _ => ⟨rfl, Nat.zero_le _⟩
  | n + 1, .str x, h, _ => ⟨h, Nat.zero_le _⟩
  | n + 1, .list ds, h, nd => by
    obtain ⟨_, h2⟩ := Bool.and_eq_true_iff.mp h
    have all := all n ds (okD_can n) h2 nd
    exact ⟨all.1, Nat.succ_le_succ all.2⟩
  | n + 1, .tuple ds, h, nd => by
    obtain ⟨_, h2⟩ := Bool.and_eq_true_iff.mp h
    have all := all n ds (okD_can n) h2 nd
    exact ⟨all.1, Nat.succ_le_succ all.2⟩
  | n + 1, .dict _, _, nd => by cases nd
where
  all (n : Nat) (ds : List PyData) (ih : ∀ d, okD n d = true → noDic d = true → d.canLay0 = true ∧ d.depth ≤ n) (h : ds.all (okD n) = true) (nd : noDics ds = true) : PyData.canLayAll0 ds = true ∧ PyData.depthAll ds ≤ n := by
    induction ds with
    | nil => exact ⟨rfl, Nat.zero_le _⟩
    | cons d ds ih2 =>
      rw [List.all_cons] at h
      obtain ⟨a, b⟩ := Bool.and_eq_true_iff.mp h
      obtain ⟨n1, n2⟩ := Bool.and_eq_true_iff.mp nd
      obtain ⟨c1, c2⟩ := ih d a n1
      obtain ⟨e1, e2⟩ := ih2 b n2
      simp only [PyData.canLayAll0, PyData.depthAll, c1, e1, Bool.and_self, true_and]
      omega
theorem okD_shaped {n : Nat} {d : PyData} (h : okD n d = true) (nd : noDic d = true) (hn : n ≤ 64) : SeqAt.shaped d = true := by
  obtain ⟨a, b⟩ := okD_can n d h nd
  unfold SeqAt.shaped
  rw [a, Bool.true_and]
  exact decide_eq_true (by omega)
mutual
theorem eqv_same : ∀ (d : PyData), noDic d = true → PyData.eqv d d = true
  | .none, _ => rfl
  | .bool b, _ => by cases b <;> rfl
  | .int i, _ => by simp [PyData.eqv]
  | .str x, _ => by simp [PyData.eqv]
  | .list ds, n => by simpa [PyData.eqv] using eqv_sames ds n
  | .tuple ds, n => by simpa [PyData.eqv] using eqv_sames ds n
  | .dict _, n => by cases n
theorem eqv_sames : ∀ (ds : List PyData), noDics ds = true → PyData.eqvAll ds ds = true
  | [], _ => rfl
  | d :: ds, n => by
    obtain ⟨n1, n2⟩ := Bool.and_eq_true_iff.mp n
    simp only [PyData.eqvAll, eqv_same d n1, eqv_sames ds n2, Bool.and_self]
end
/-! ## isinstance -/
section
variable {K : PySem.W.Frag} {H : Hp} {Q : VK}
def tyD : PyData → String
  | .none => "NoneType"
  | .bool _ => "bool"
  | .int _ => "int"
  | .str _ => "str"
  | .list _ => "list"
  | .tuple _ => "tuple"
  | .dict _ => "dict"
theorem Dq.ty {x : V} {d : PyData} (h : Dq H x d) : TyX K H x (.type (tyD d)) := by
  cases h with
  | non => exact .base .non
  | bl b => exact .base (.bl b)
  | int i => exact .base (.int i)
  | str z => exact .base (.str z)
  | lst h1 _ => exact .base (.lst h1)
  | tup h1 _ => exact .base (.tup h1)
  | dic h1 => exact .base (.dK h1)
theorem w_isi {x : V} {t c : String} {b : Bool} (h : TyX K H x (.type t)) (hb : kitB t c = some b) (q : Q (.bl b) H) : rIsi K [x, .ty c] H Q := ⟨x, .ty c, _, _, b, rfl, .ty c, h, kit_ty hb, q⟩
theorem w_isiT {x : V} {t c1 c2 : String} {b b1 b2 : Bool} {p : Addr} (hp : H p = some (.tup [.ty c1, .ty c2])) (h : TyX K H x (.type t)) (h1 : kitB t c1 = some b1) (h2 : kitB t c2 = some b2) (e : (b1 || b2) = b) (q : Q (.bl b) H) : rIsiT K [x, .ref p] H Q :=
  ⟨x, p, _, _, _, b, rfl, hp, .cons (.ty c1) (.cons (.ty c2) .nil), h, kitAny_cons (kit_ty h1) (fun z => kitAny_cons (kit_ty h2) (fun z2 => by subst z z2 e; exact kitAny_nil) (fun z2 => by subst z z2 e; rfl)) (fun z => by subst z e; rfl), q⟩
/-- x == y, data or dicts of flat values -/
def rEqX (K : PySem.W.Frag) : R2 := fun x y H Q => rEqD K x y H Q ∨ rEqDA x y H Q
theorem op_eqX {X : Cx} (hu : X.A.units + 64 < cLine) : OpR X (compareOp .Eq) (rEqX X.K) := by
  intro pins s σ H x y v u Q I rx ry h
  rcases h with h | h
  · exact op_eqD hu pins s σ H x y v u Q I rx ry h
  · exact op_eq_dictA (by omega) pins s σ H x y v u Q I rx ry h
theorem w_eqX {x y : V} {n : Nat} {d : PyData} (h1 : Dq H x d) (h2 : Dq H y d) (ok : okD n d = true) (hn : n ≤ 64) (nd : noDic d = true) (q : Q (.bl true) H) : rEqX K x y H Q :=
  .inl ⟨d, d, Dq.dp d _ nd h1, Dq.dp d _ nd h2, okD_shaped ok nd hn, okD_shaped ok nd hn, by rw [eqv_same d nd]; exact q⟩
/-- of distinct keys each is found -/
theorem valV_mem : ∀ {kvs : List (Str × Int)}, (kvs.map (·.1)).Nodup → ∀ p ∈ kvs, valV (dKv kvs) (.inr p.1) = some (.int p.2)
  | [], _, p, hp => by cases hp
  | q :: kvs, nd, p, hp => by
    rw [List.map_cons, List.nodup_cons] at nd
    rcases List.mem_cons.mp hp with rfl | hp
    · unfold dKv valV
      simp
    · have ne : ¬ q.1 = p.1 := fun e => nd.1 (e ▸ List.mem_map.mpr ⟨p, hp, rfl⟩)
      have ih := valV_mem nd.2 p hp
      unfold dKv valV at ih ⊢
      rw [List.map_cons, List.find?_cons]
      have e : decide ((Sum.inr q.1 : Key) = .inr p.1) = false := decide_eq_false fun z => ne (Sum.inr.inj z)
      simp only [e]
      exact ih
theorem w_eqDic {a b : Addr} {kvs : List (Str × Int)} (h1 : H a = some (.dK (dKv kvs))) (h2 : H b = some (.dK (dKv kvs))) (nd : (kvs.map (·.1)).Nodup) (q : Q (.bl true) H) : rEqX K (.ref a) (.ref b) H Q := by
  refine .inr ⟨a, b, _, _, rfl, rfl, h1, h2, rfl, fun p hp => ?_, q⟩
  obtain ⟨r, hr, rfl⟩ := List.mem_map.mp hp
  exact ⟨valV_mem nd r hr, rfl⟩
theorem w_listD {a : Addr} {kvs : List (Str × Int)} (h : H a = some (.dK (dKv kvs))) (q : ∀ p H2, H p = none → Ex H H2 → H2 p = some (.lst (kvs.map fun p => .str p.1)) → Q (.ref p) H2) : rListD [.ref a] H Q := by
  refine ⟨a, _, rfl, h, fun p hp => q p _ hp (Evl.Ex.new hp) ?_⟩
  rw [upd_same]
  unfold dKv
  rw [List.map_map]
  rfl
/-- x[i], x a list or a tuple -/
def rIxA (K : PySem.W.Frag) : R2 := fun x y H Q => rIxL K x y H Q ∨ rIxT K x y H Q
theorem ix_any {X : Cx} : IxR X (rIxA X.K) := by
  intro value slice pins s σ H x y v u Q I rx ry h hs
  rcases h with h | h
  · exact ix_list value slice pins s σ H x y v u Q I rx ry h hs
  · exact ix_tup value slice pins s σ H x y v u Q I rx ry h hs
/-- [.. for k in range(n) if test], no test true -/
theorem w_lcR0 {vs : List Nat} {σ : St} {n : Nat} {g : TG} {tt : TT} {te : TE} {ts : TA} (hn : n ≤ 1000000) (ht : ∀ R : List V → Hp → Prop, R [.int (n : Int)] H → ts σ H R)
    (hb : ∀ (i : Nat) H1, i < n → Ex H H1 → ∀ (R : VK) (N : Hp → Prop), (∀ H2, Ex H1 H2 → N H2) → g (.int i) (wipe σ vs) H1 fun σ2 H2 => wipe σ2 vs = wipe σ vs ∧ tt σ2 H2 fun b H3 => if b = true then te σ2 H3 R else N H3)
    (q : ∀ p H2, H p = none → Ex H H2 → H2 p = some (.lst []) → Q (.ref p) H2) : tLc (iRng1 ts) g tt te vs σ H Q := by
  refine ht _ ⟨n, rfl, by omega, by omega, fun D hD => ?_⟩
  have e0 : ((n : Int)).toNat = n := by omega
  rw [e0]
  refine lc_range (lo := 0) (n := n) (fun _ H' => Ex H H' ∧ H' D = some (.lst [])) ⟨Evl.Ex.new hD, upd_same⟩ (fun i H1 hi p => ?_) (fun H2 p => q D H2 hD p.1 p.2)
  have e : (0 : Int) + (i : Int) = i := Int.zero_add _
  rw [e]
  exact hb i H1 hi p.1 _ _ fun H2 e2 => ⟨Evl.Ex.trans p.1 e2, e2 _ _ p.2⟩
end
/-! ## _law_alike: of the same data at the same depth it says True -/
def sp_alike : Nat → Sp
  | 0 => fun _ _ _ _ => False
  | n + 1 => fun vs H Q _ => ∃ x y d, vs = [x, y] ∧ Dq H x d ∧ Dq H y d ∧ okD (n + 1) d = true ∧ ∀ H', Ex H H' → Q (.bl true) H'
theorem len_alike : ∀ n vs H Q E, sp_alike n vs H Q E → vs.length = 2
  | 0, _, _, _, _, h => nomatch h
  | _ + 1, _, _, _, _, ⟨_, _, _, rfl, _⟩ => rfl
theorem ap_alike {n : Nat} {H : Hp} {Q : VK} {E : XK} {x y : V} {d : PyData} (h1 : Dq H x d) (h2 : Dq H y d) (ok : okD (n + 1) d = true) (k : ∀ H', Ex H H' → Q (.bl true) H') : sp_alike (n + 1) [x, y] H Q E := ⟨x, y, d, rfl, h1, h2, ok, k⟩
end EB
namespace EB
open PySem PySem.Spec L2 StX ClX
/-! ## the law itself -/
def sp_law (K : PySem.W.Frag) : Sp := fun vs H Q _ => ∃ (a : Addr) (ns : List Int), vs = [.ref a] ∧ SqL K H a (ns.map V.int) ∧ ns.length ≤ 63 ∧ ∀ H', Q (.bl true) H'
theorem len_law {K} : ∀ vs H Q E, sp_law K vs H Q E → vs.length = 1 := by rintro _ _ _ _ ⟨_, _, rfl, _⟩; rfl
section
variable {K : PySem.W.Frag} {σ : St} {H : Hp} {Q : VK} {E : XK}
theorem ap__law_mix {a : Addr} {ns : List Int} {s : Int} (h1 : SqL K H a (ns.map V.int)) (h2 : ns.length ≤ 63) (h3 : 0 ≤ s) (k : ∀ h c H', H h = none → H c = none → Ex H H' → Src H' h c → Q (.ref h) H') : sp__law_mix K [.ref a, .int s] H Q E := ⟨a, ns, s, rfl, h1, h2, h3, k⟩
theorem ap__law_trades {h c : Addr} {m l : Int} (s : Src H h c) (m1 : 1 ≤ m) (m3 : m ≤ 3) (l1 : 1 ≤ l) (l2 : l ≤ 12) (k : ∀ p ts H', H p = none → SrcUp h c H H' → Trs H' p ts → LawTr m l ts → Q (.ref p) H') : sp__law_trades K [.ref h, .int m, .int l] H Q E :=
  ⟨h, c, m, l, rfl, s, m1, m3, l1, l2, k⟩
theorem ap_Offer_pooled {o : Addr} {ts : List Tr} {ns : List Int} {vs : List V} (ev : vs = ns.map V.int) (h : OfferAt K H o ts) (ok : OfferOk ts) (hl : ns.length ≤ 100) (h0 : ∀ n ∈ ns, 0 ≤ n) (hs : ns.sum ≤ 1000000000000000000)
    (k : ∀ H', Ex H H' → Q (.int (drk ts ns.sum - drks ts ns)) H') : sp_Offer_pooled K (.ref o :: vs) H Q E := ⟨o, ts, ns, by rw [ev], h, ok, hl, h0, hs, k⟩
theorem w_gUnl {g : TGs} {P : St → Hp → Prop} {a : Addr} {xs : List V} {n : Nat} (h : SqL K H a xs) (hl : xs.length = n) (q : g xs σ H P) : gUnl K n g (.ref a) σ H P := ⟨a, xs, rfl, h, hl, q⟩
/-- an instance at o, asked for a call or a method -/
theorem OfferAt.isC {o : Addr} {ts : List Tr} {B : Prop} (h : OfferAt K H o ts) (q : B) : ((∃ dx vs, SlX.Slt H o (He.ga K "Offer") dx vs) ∨ ∃ dx fs, H o = some (.ins (He.ga K "Offer") dx fs)) ∧ B := by
  obtain ⟨dx, a, h1, _⟩ := h
  exact w_isC h1 q
theorem OfferAt.meth {o : Addr} {ts : List Tr} {m : Str} {P : Prop} (h : OfferAt K H o ts) (hm : (m == "parts") = false) (q : P) : ∃ a' dx' fs', V.ref o = .ref a' ∧ H a' = some (.ins (He.ga K "Offer") dx' fs') ∧ fs'.lookup m = none ∧ P := by
  obtain ⟨dx, a, h1, _⟩ := h
  refine w_methR2 h1 ?_ q
  show (match m == "parts" with | true => some (V.ref a) | false => List.lookup m []) = none
  rw [hm]
  rfl
theorem OfferAt.upB {H H' : Hp} {l o : Addr} {x : HO} {ts : List Tr} (h : OfferAt K H o ts) (hl : H l = some x) (nt : ∀ zs, x ≠ .tup zs) (ni : ∀ a b c, x ≠ .ins a b c) (e : ExB l H H') : OfferAt K H' o ts := by
  obtain ⟨dx, a, h1, h2⟩ := h
  exact ⟨dx, a, e _ _ (ne_of h1 hl fun z => ni _ _ _ z.symm) h1, h2.upB hl nt e⟩
theorem OfferAt.upE {H H' : Hp} {o : Addr} {ts : List Tr} (h : OfferAt K H o ts) (e : Ex H H') : OfferAt K H' o ts := h.up e
theorem Trs.upE {H H' : Hp} {a : Addr} {ts : List Tr} (h : Trs H a ts) (e : Ex H H') : Trs H' a ts := h.up e
theorem OfferAt.andEx {o : Addr} {ts : List Tr} {H' : Hp} (e : Ex H H') (h : OfferAt K H o ts) : OfferAt K H' o ts := h.up e
/-- what an offer gives is walked with its trades: call -/
theorem w_offer {o : Addr} {ts : List Tr} {n : Int} (h : OfferAt K H o ts) (ok : OfferOk ts) (h1 : 0 ≤ n) (h2 : n ≤ 1000000000000000000) (k : ∀ H', Ex H H' → Q (.int (drk ts n)) H') :
    ((∃ dx vs, SlX.Slt H o (He.ga K "Offer") dx vs) ∨ ∃ dx fs, H o = some (.ins (He.ga K "Offer") dx fs)) ∧ sp_Offer_call K (V.ref o :: [.int n]) H Q E := h.isC (ap_Offer_call h ok h1 h2 k)
theorem Src.apart {H0 : Hp} {h c p : Addr} (s : Src H0 h c) (n : H0 p = none) : p ≠ h ∧ p ≠ c := by
  obtain ⟨⟨o1, q1⟩, o2, q2⟩ := s.there
  refine ⟨fun z => ?_, fun z => ?_⟩
  · rw [z, q1] at n
    cases n
  · rw [z, q2] at n
    cases n
theorem SrcUp.updD {H0 H7 : Hp} {h c D : Addr} {o : HO} (s : Src H0 h c) (hD : H0 D = none) (u : SrcUp h c H0 H7) : SrcUp h c H0 (upd H7 D o) := by
  obtain ⟨⟨o1, q1⟩, o2, q2⟩ := s.there
  have dh : h ≠ D := fun z => by
    rw [← z, q1] at hD
    cases hD
  have dc : c ≠ D := fun z => by
    rw [← z, q2] at hD
    cases hD
  obtain ⟨M, N, ns, a1, a2, a3⟩ := u.src.ex
  refine ⟨⟨M, N, ns, by rw [upd_ne dh]; exact a1, by rw [upd_ne dc]; exact a2, a3⟩, fun a x ah ac hx => ?_⟩
  have ad : a ≠ D := ne_of_none hx hD
  rw [upd_ne ad]
  exact u.keep a x ah ac hx
/-- [.. for k in range(n)], each element a number that is drawn -/
theorem w_lcDraws {g : TG} {te : TE} {ts : TA} {vs : List Nat} {h c : Addr} {n : Nat} (P : Int → Prop) (hn : n ≤ 1000) (s : Src H h c) (ht : ∀ R : List V → Hp → Prop, R [.int (n : Int)] H → ts σ H R)
    (hb : ∀ (i : Nat) H1, i < n → SrcUp h c H H1 → ∀ R : VK, (∀ v H2, P v → SrcUp h c H1 H2 → R (.int v) H2) → g (.int i) (wipe σ vs) H1 fun σ2 H2 => wipe σ2 vs = wipe σ vs ∧ te σ2 H2 R)
    (q : ∀ D H2 (acc : List Int), H D = none → acc.length = n → (∀ x ∈ acc, P x) → H2 D = some (.lst (acc.map V.int)) → SrcUp h c H H2 → Q (.ref D) H2) : tLc (iRng1 ts) g tYes te vs σ H Q := by
  refine w_lcR (n := n) (fun D i H' => ∃ acc : List Int, acc.length = i ∧ (∀ x ∈ acc, P x) ∧ H' D = some (.lst (acc.map V.int)) ∧ SrcUp h c H H') hn ht (fun D hD => ⟨[], rfl, by simp, upd_same, SrcUp.of s (Evl.Ex.new hD)⟩) (fun D hD j H1 hj z => ?_) fun D hD H2 ⟨acc, a1, a2, a3, a4⟩ => q D H2 acc hD a1 a2 a3 a4
  obtain ⟨acc, al, ab, hacc, u⟩ := z
  obtain ⟨⟨o1, q1⟩, o2, q2⟩ := s.there
  have dh : D ≠ h := fun z => by
    rw [z, q1] at hD
    cases hD
  have dc : D ≠ c := fun z => by
    rw [z, q2] at hD
    cases hD
  refine hb j H1 hj u _ fun v H2 pv u2 => ?_
  have h2 := u2.keep D _ dh dc hacc
  refine ⟨_, h2, ?_, acc ++ [v], by simp [al], fun x hx => ?_, by rw [upd_same, List.map_append]; rfl, (u.trans u2).updD s hD⟩
  · rw [List.length_map, al]
    exact Nat.lt_of_lt_of_le hj (Nat.le_trans hn (by decide))
  · rcases List.mem_append.mp hx with hx | hx
    · exact ab x hx
    · rw [List.mem_singleton.mp hx]
      exact pv
end
end EB
namespace EB
open PySem PySem.Spec L2 StX ClX
/-! ## periods, pieces that are left -/
def sp_steady_begin (_ : PySem.W.Frag) : Sp := fun vs H Q _ => ∃ (a : Addr) (ts : List Tr), vs = [.ref a] ∧ Trs H a ts ∧ Fair ts ∧ 1 ≤ ts.length ∧ ∀ s H', IsStd ts s → Ex H H' → Q (.int s) H'
theorem len_steady_begin {K} : ∀ vs H Q E, sp_steady_begin K vs H Q E → vs.length = 1 := by rintro _ _ _ _ ⟨_, _, rfl, _⟩; rfl
theorem ap_steady_begin {K : PySem.W.Frag} {H : Hp} {Q : VK} {E : XK} {a : Addr} {ts : List Tr} (h : Trs H a ts) (f : Fair ts) (l : 1 ≤ ts.length) (k : ∀ s H', IsStd ts s → Ex H H' → Q (.int s) H') : sp_steady_begin K [.ref a] H Q E := ⟨a, ts, rfl, h, f, l, k⟩
def sp_Offer_period (K : PySem.W.Frag) : Sp := fun vs H Q _ => ∃ (o : Addr) (ts : List Tr), vs = [.ref o] ∧ OfferAt K H o ts ∧ OfferOk ts ∧ ∀ p H', H p = none → Ex H H' → H' p = some (.tup [.int (nd ts), .int (perd ts)]) → Q (.ref p) H'
theorem len_Offer_period {K} : ∀ vs H Q E, sp_Offer_period K vs H Q E → vs.length = 1 := by rintro _ _ _ _ ⟨_, _, rfl, _⟩; rfl
theorem ap_Offer_period {K : PySem.W.Frag} {H : Hp} {Q : VK} {E : XK} {o : Addr} {ts : List Tr} (h : OfferAt K H o ts) (ok : OfferOk ts) (k : ∀ p H', H p = none → Ex H H' → H' p = some (.tup [.int (nd ts), .int (perd ts)]) → Q (.ref p) H') : sp_Offer_period K [.ref o] H Q E := ⟨o, ts, rfl, h, ok, k⟩
def sp_Offer_steady_from (K : PySem.W.Frag) : Sp := fun vs H Q _ => ∃ (o : Addr) (ts : List Tr), vs = [.ref o] ∧ OfferAt K H o ts ∧ OfferOk ts ∧ ∀ s H', IsStd ts s → Ex H H' → Q (.int s) H'
theorem len_Offer_steady_from {K} : ∀ vs H Q E, sp_Offer_steady_from K vs H Q E → vs.length = 1 := by rintro _ _ _ _ ⟨_, _, rfl, _⟩; rfl
theorem ap_Offer_steady_from {K : PySem.W.Frag} {H : Hp} {Q : VK} {E : XK} {o : Addr} {ts : List Tr} (h : OfferAt K H o ts) (ok : OfferOk ts) (k : ∀ s H', IsStd ts s → Ex H H' → Q (.int s) H') : sp_Offer_steady_from K [.ref o] H Q E := ⟨o, ts, rfl, h, ok, k⟩
/-- a property read at an offer -/
theorem OfferAt.prop {K : PySem.W.Frag} {H : Hp} {o : Addr} {ts : List Tr} {P : Addr → Prop} (h : OfferAt K H o ts) (q : P o) : ∃ a dx fs, V.ref o = .ref a ∧ H a = some (.ins (He.ga K "Offer") dx fs) ∧ P a := by
  obtain ⟨dx, a, h1, _⟩ := h
  exact ⟨o, dx, _, rfl, h1, q⟩
theorem w_tProp {σ : St} {H : Hp} {Q : VK} {C : Addr} {sp : Sp} {E : XK} {ta : TE} (q : ta σ H fun x H1 => ∃ a dx fs, x = .ref a ∧ H1 a = some (.ins C dx fs) ∧ sp [.ref a] H1 Q E) : tProp C sp [] E ta σ H Q := q
def rMn2 : List V → Hp → VK → Prop := fun xs H Q => ∃ i j, xs = [.int i, .int j] ∧ Q (.int (if j < i then j else i)) H
theorem c_mn2 {X : Cx} (hc : X.calm = true) : CallR X (.builtin "min") rMn2 := call_min2 hc
theorem w_mn2 {H : Hp} {Q : VK} {i j : Int} (q : Q (.int (if j < i then j else i)) H) : rMn2 [.int i, .int j] H Q := ⟨i, j, rfl, q⟩
/-- what is counted of each kind -/
def kindsOf (ts : List Tr) (f : Tr → Int) : List (Str × Int) := ts.map fun t => (t.1, f t)
noncomputable def made (ts : List Tr) (n : Int) : List (Str × Int) := kindsOf ts fun t => t.2.1 * drk ts n / t.2.2
noncomputable def left (ts : List Tr) (n : Int) : List (Str × Int) := kindsOf ts fun t => t.2.1 * drk ts n % t.2.2
def sp_Offer_trades_made (K : PySem.W.Frag) : Sp := fun vs H Q _ => ∃ (o : Addr) (ts : List Tr) (n : Int), vs = [.ref o, .int n] ∧ OfferAt K H o ts ∧ OfferOk ts ∧ 0 ≤ n ∧ n ≤ 1000000000000000000 ∧ ∀ p H', H p = none → Ex H H' → H' p = some (.dK (dKv (made ts n))) → Q (.ref p) H'
theorem len_Offer_trades_made {K} : ∀ vs H Q E, sp_Offer_trades_made K vs H Q E → vs.length = 2 := by rintro _ _ _ _ ⟨_, _, _, rfl, _⟩; rfl
theorem ap_Offer_trades_made {K : PySem.W.Frag} {H : Hp} {Q : VK} {E : XK} {o : Addr} {ts : List Tr} {n : Int} (h : OfferAt K H o ts) (ok : OfferOk ts) (h1 : 0 ≤ n) (h2 : n ≤ 1000000000000000000) (k : ∀ p H', H p = none → Ex H H' → H' p = some (.dK (dKv (made ts n))) → Q (.ref p) H') : sp_Offer_trades_made K [.ref o, .int n] H Q E := ⟨o, ts, n, rfl, h, ok, h1, h2, k⟩
def sp_Offer_left_over (K : PySem.W.Frag) : Sp := fun vs H Q _ => ∃ (o : Addr) (ts : List Tr) (n : Int), vs = [.ref o, .int n] ∧ OfferAt K H o ts ∧ OfferOk ts ∧ 0 ≤ n ∧ n ≤ 1000000000000000000 ∧ ∀ p H', H p = none → Ex H H' → H' p = some (.dK (dKv (left ts n))) → Q (.ref p) H'
theorem len_Offer_left_over {K} : ∀ vs H Q E, sp_Offer_left_over K vs H Q E → vs.length = 2 := by rintro _ _ _ _ ⟨_, _, _, rfl, _⟩; rfl
theorem ap_Offer_left_over {K : PySem.W.Frag} {H : Hp} {Q : VK} {E : XK} {o : Addr} {ts : List Tr} {n : Int} (h : OfferAt K H o ts) (ok : OfferOk ts) (h1 : 0 ≤ n) (h2 : n ≤ 1000000000000000000) (k : ∀ p H', H p = none → Ex H H' → H' p = some (.dK (dKv (left ts n))) → Q (.ref p) H') : sp_Offer_left_over K [.ref o, .int n] H Q E := ⟨o, ts, n, rfl, h, ok, h1, h2, k⟩
/-! ### {k: v for target in t} -/
section
variable {K : PySem.W.Frag} {σ : St} {H : Hp} {Q : VK} {g : TG} {tk tv tl : TE} {vs : List Nat} {a : Addr} {xs : List V}
theorem putK_new {kvs : List (Key × V)} {k : Key} {v : V} (h : ∀ p ∈ kvs, p.1 ≠ k) : putK kvs k v = kvs ++ [(k, v)] := by
  unfold putK
  rw [if_neg]
  intro e
  obtain ⟨p, hp, e2⟩ := List.any_eq_true.mp e
  exact h p hp (of_decide_eq_true e2)
def dcTT (K : PySem.W.Frag) (g : TG) (tt : TT) (tk tv : TE) (vs : List Nat) (σ : St) (Q : VK) : VK := fun x H1 => ∃ a, x = .ref a ∧ (∃ xs, SqT K H1 a xs) ∧ ∀ D, H1 D = none → ∃ W : Nat → Nat → Hp → Prop, (∃ m, W 0 m (upd H1 D (.dK []))) ∧ ∀ i m H, W i m H →
  ((Itt K a).stop i H ∧ Q (.ref D) H) ∨ ((Itt K a).go i H ∧ ∃ Nx : Hp → Prop, (∀ H', Nx H' → ∃ m', m' < m ∧ W (i + 1) m' H') ∧ ∀ x H', (Itt K a).yld i H x H' → g x (wipe σ vs) H' fun σ2 H2 => wipe σ2 vs = wipe σ vs ∧ tt σ2 H2 fun b H3 =>
    if b = true then tk σ2 H3 fun y H4 => tv σ2 H4 fun z H5 => ∃ kvs k, y = kV k ∧ H5 D = some (.dK kvs) ∧ kvs.length < sizeLine ∧ Nx (upd H5 D (.dK (putK kvs k z))) else Nx H3)
theorem w_dcTs {tt : TT} (q : tl σ H (dcTT K g tt tk tv vs σ Q)) : tDc (iTup K tl) g tt tk tv vs σ H Q := q
/-- over a tuple, the keys distinct texts, the values numbers -/
theorem w_dcTa (kvs : List (Str × Int)) (nd : (kvs.map (·.1)).Nodup) (hx : SqT K H a xs) (hz : xs.length ≤ 1000) (hy : kvs.length = xs.length)
    (hb : ∀ (i : Nat) x p, xs[i]? = some x → kvs[i]? = some p → ∀ H1, Ex H H1 → ∀ R : V → V → Hp → Prop, (∀ H2, Ex H1 H2 → R (.str p.1) (.int p.2) H2) → g x (wipe σ vs) H1 fun σ2 H2 => wipe σ2 vs = wipe σ vs ∧ tk σ2 H2 fun y H3 => tv σ2 H3 fun z H4 => R y z H4)
    (q : ∀ p H2, H p = none → Ex H H2 → H2 p = some (.dK (dKv kvs)) → Q (.ref p) H2) : dcTT K g tYes tk tv vs σ Q (.ref a) H := by
  refine ⟨a, rfl, ⟨_, hx⟩, fun D hD => ?_⟩
  refine dc_tup (K := K) (a := a) (xs := xs) (fun i H' => Ex H H' ∧ H' D = some (.dK (dKv (kvs.take i)))) ⟨Evl.Ex.new hD, by simpa [dKv] using upd_same⟩ (fun i H' _ ⟨e, _⟩ => ex_sqT e hx) ?_ ?_
  · rintro i x H' hi ⟨e, hd⟩
    have lt := (List.getElem?_eq_some_iff.mp hi).1
    have hyi : kvs[i]? = some kvs[i] := List.getElem?_eq_getElem (by omega)
    refine hb i x kvs[i] hi hyi H' e (fun y z H5 => ∃ kvs' k, y = kV k ∧ H5 D = some (.dK kvs') ∧ kvs'.length < sizeLine ∧ Ex H (upd H5 D (.dK (putK kvs' k z))) ∧ (upd H5 D (.dK (putK kvs' k z))) D = some (.dK (dKv (kvs.take (i + 1))))) fun H2 e2 => ?_
    refine ⟨_, .inr kvs[i].1, rfl, e2 D _ hd, ?_, ExB.ex (Evl.Ex.trans e e2) hD ExB.upd, ?_⟩
    · unfold dKv
      rw [List.length_map, List.length_take]
      exact Nat.lt_of_le_of_lt (Nat.min_le_right _ _) (Nat.lt_of_le_of_lt (by omega : kvs.length ≤ 1000) (by decide))
    · have nw : ∀ p ∈ dKv (kvs.take i), p.1 ≠ Sum.inr kvs[i].1 := by
        intro p hp z
        obtain ⟨r, hr, rfl⟩ := List.mem_map.mp hp
        have e1 : kvs.map (·.1) = (kvs.take i).map (·.1) ++ (kvs.drop i).map (·.1) := by rw [← List.map_append, List.take_append_drop]
        rw [e1, List.nodup_append] at nd
        refine nd.2.2 r.1 (List.mem_map.mpr ⟨r, hr, rfl⟩) r.1 ?_ rfl
        refine List.mem_map.mpr ⟨kvs[i], ?_, (Sum.inr.inj z).symm⟩
        rw [List.mem_iff_getElem?]
        exact ⟨0, by rw [List.getElem?_drop]; simpa using hyi⟩
      rw [upd_same, putK_new nw, List.take_succ, hyi]
      unfold dKv
      rw [List.map_append]
      rfl
  · rintro H' ⟨e, hd⟩
    rw [← hy, List.take_length] at hd
    exact q D H' hD e hd
end
/-- what is counted of each kind may be compared -/
theorem okD_kinds {ts : List Tr} {f : Tr → Int} (ok : OfferOk ts) (so : ∀ t ∈ ts, PyData.strOk t.1 = true) (n : Nat) : okD (n + 3) (dicD (kindsOf ts f)) = true := by
  have e : ((kindsOf ts f).map fun p => (PyData.str p.1, PyData.int p.2)).map (fun p => keyS p.1) = ts.map (·.1) := by
    unfold kindsOf
    rw [List.map_map, List.map_map]
    rfl
  have l3 := ok.fair.1.1
  refine Bool.and_eq_true_iff.mpr ⟨decide_eq_true (by omega), Bool.and_eq_true_iff.mpr ⟨decide_eq_true ?_, Bool.and_eq_true_iff.mpr ⟨decide_eq_true ?_, List.all_eq_true.mpr fun p hp => ?_⟩⟩⟩
  · unfold kindsOf
    rw [List.length_map, List.length_map]
    omega
  · rw [e]
    exact ok.nodup
  · obtain ⟨q, hq, rfl⟩ := List.mem_map.mp hp
    unfold kindsOf at hq
    obtain ⟨t, ht, rfl⟩ := List.mem_map.mp hq
    exact so t ht
theorem left_many {ts : List Tr} (f : Fair ts) {n : Int} (hn : 0 ≤ n) (s : Std ts n) (k : Nat) : left ts (n + k * nd ts) = left ts n := by
  unfold left kindsOf
  refine List.map_congr_left fun t ht => ?_
  rw [std_many f hn s k]
  obtain ⟨c, hc⟩ := perd_fit f.1.2 t ht
  have e : t.2.1 * (drk ts n + k * perd ts) = t.2.1 * drk ts n + k * c * t.2.2 := by
    rw [Int.mul_add, ← Int.mul_assoc, Int.mul_comm t.2.1 (k : Int), Int.mul_assoc, hc, ← Int.mul_assoc, Int.mul_right_comm, Int.mul_comm (k : Int)]
  show (t.1, t.2.1 * (drk ts n + k * perd ts) % t.2.2) = (t.1, t.2.1 * drk ts n % t.2.2)
  rw [e, Int.add_mul_emod_self_right]
end EB
namespace EB
open PySem PySem.Spec L2 StX ClX PyProof.Rows
set_option maxHeartbeats 2000000
/-! ## a class in a variable; classmethods; what is true of an instance -/
section
variable {X : Cx} {CX : CXT} {k : Nat} {C f g : Addr} {sp : Sp} {E : XK} {x : PySem.Str} {np pos : Pos} {e : Expr} {es : List Expr} {tf te : TE} {t : TA}
def tMakeV (C : Addr) (sp : Sp) (E : XK) (tf : TE) (t : TA) : TE := fun σ H Q => tf σ H fun c H1 => c = .ref C ∧ tMakeR C sp E t σ H1 Q
theorem pe_makeV (M : Mk X.K C f) (F : FnR X.prog X.w X.K X.mg X.base CX k f sp) (hr : Room (k + 1) X.A) (hx : Passes CX X E) (hf : PE X (.Name x np) tf) (ha : PA X (e :: es) t)
    (he : starEach (e :: es) X.env = (false, eval e X.env) :: starEach es X.env := by rfl) (hpl : (backTo pos (starEach es X.env)).any (·.1) = false := by rfl) : PE X (.Call (.Name x np) (e :: es) [] pos) (tMakeV C sp E tf t) := by
  constructor
  intro pins s σ H Q I h
  refine wpAny_Call_Name_kw (thn (hf.run pins s σ H _ I h) fun u s1 z => ?_)
  obtain ⟨c, H1, I1, rc, rfl, q1⟩ := z
  obtain rfl : u = Value.ref C := rc
  refine PySem.W.callWith_K (h₀ := X.base) I1.ok.mod.kin M.kp (thn (ha.run pos pins s1 σ H1 _ I1 q1) fun us s2 z => ?_) he hpl
  obtain ⟨vs, H2, I2, r, q⟩ := z
  exact ⟨I2.kIn, run_makeR M F hr hx I2 r q⟩
/-- an instance as a test -/
def tTruO (C : Addr) (sp : Sp) (E : XK) (te : TE) : TT := fun σ H R => te σ H fun x H1 => ∃ a, x = .ref a ∧ (∃ dx fs, H1 a = some (.ins C dx fs)) ∧ sp [.ref a] H1 (fun r H' => ∃ b, r = .bl b ∧ R b H') E
theorem truthy_own {pins : List (Addr × Obj)} {σ : L2.St} {H : Hp} {s : Shared} {Q : Bool → Hp → Prop} {R : Bool → Shared → Prop} {a : Addr} (c : OwnM X.K C "__bool__" g) (F : FnR X.prog X.w X.K X.mg X.base CX k g sp) (hr : Room k X.A) (hx : Passes CX X E)
    (I : Inv X pins σ H s) (hi : ∃ dx fs, H a = some (.ins C dx fs)) (h : sp [.ref a] H (fun r H' => ∃ b, r = .bl b ∧ Q b H') E) (fin : ∀ b s' H', Inv X pins σ H' s' → Q b H' → R b s') : wpAny (model X.prog X.w) X.A (truthy (.ref a)) R X.xe s := by
  obtain ⟨ox, od, J, _⟩ := insC_at (X := X) I (.inr hi)
  unfold truthy
  refine wpAny_bind (m := callSpecial? (.ref a) (Str.ofString "__bool__")) (PySem.W.special_fn I.kIn J c.here (beq_iff_eq.mp c.isf) (wpAny_mono (run_own (us := [.ref a]) (vs := [.ref a]) F hr hx I (.cons rfl .nil) h) (fun r s' z => ?_) fun _ _ z => z))
  obtain ⟨y, H', I', ry, b, rfl, q⟩ := z
  cases ry
  exact wpAny_pure (fin b s' H' I' q)
theorem pt_own (he : PE X e te) (c : OwnM X.K C "__bool__" g) (F : FnR X.prog X.w X.K X.mg X.base CX k g sp) (hr : Room k X.A) (hx : Passes CX X E) (hw : ∀ whole, isTrue e X.env whole = (do let v ← whole; standAt e.pos; holding [v] (truthy v)) := by intro _; rfl) : PT X e (tTruO C sp E te) := by
  constructor
  intro pins s σ H Q I h
  refine isTrue_plain (thn (he.run pins s σ H _ I h) fun v s1 z => ?_) (hw _)
  obtain ⟨x, H1, I1, r1, a, rfl, hi, q⟩ := z
  cases r1
  exact truthy_own c F hr hx I1 hi q fun b s' H' I' z => ⟨H', I', z⟩
end
/-! ## x *= y -/
def ipM : TIp := fun x y H Q => ∃ i j, x = .int i ∧ y = .int j ∧ CMul i j ∧ Q (.int (i * j)) H
theorem ip_mul {X : Cx} : PIp X .Mult ipM := by
  intro pins s σ H x y v u Q I r1 r2 h
  obtain ⟨i, j, rfl, rfl, c, q⟩ := h
  obtain ⟨t, rfl⟩ := r1
  obtain ⟨t', rfl⟩ := r2
  exact imul_int ⟨.int _, H, I.tok _, ⟨_, rfl⟩, q⟩ c.ok
theorem w_ipM {i j : Int} {Q : VK} {H : Hp} (c : CMul i j) (q : Q (.int (i * j)) H) : ipM (.int i) (.int j) H Q := ⟨i, j, rfl, rfl, c, q⟩
/-! ## f() -/
theorem pe_callR0 {X : Cx} {CX : CXT} {k : Nat} {f : Addr} {sp : Sp} {E : XK} {x : PySem.Str} {p pos : Pos} (F : FnR X.prog X.w X.K X.mg X.base CX k f sp) (hr : Room k X.A) (hk : PySem.W.keepIn X.K (.ref f) = true) (hg : Gl X x) (hm : X.mg x = some (.ref f)) (hx : Passes CX X E) (nodb : (x == ("__debug__" : Str)) = false := by decide) :
    PE X (.Call (.Name x p) [] [] pos) (tCallR sp E tNil) := by
  constructor
  intro pins s σ H Q I h
  exact wpAny_Call_Name_kw (ld_glob I hg hm (PySem.W.callWith_K0 I.kIn hk (wpAny_call (run_fnR (us := []) (vs := []) F hr hx I .nil h))) nodb)
end EB
namespace EB
open PySem PySem.Spec PyProof.Rows L2
set_option maxHeartbeats 2000000
/-! ## list(zip(a, b)): two lists, the first one of texts -/
theorem zipNoLen : typeLookup (.type "zip") "__len__" = pure none := am_miss_of_fast (by decide +kernel)
theorem zipNoHint : typeLookup (.type "zip") "__length_hint__" = pure none := am_miss_of_fast (by decide +kernel)
section
variable {prog : Program} {w : World} {A : Around} {s : Shared} {xs ys : Array Value} {z TI TO i1 i2 l1 l2 S : Addr}
/-- a zip ahead of its pair i, while the list at S is filled -/
structure ZL (xs ys : Array Value) (z TI TO i1 i2 l1 l2 S : Addr) (i : Nat) (h : Heap) : Prop where
  ti : IsPair h TI (.ref i1) (.ref i2)
  a1 : h.IsListIter i1 l1 i
  a2 : h.IsListIter i2 l2 i
  b1 : h.IsList l1 xs
  b2 : h.IsList l2 ys
  st : (IsZip h z TI TO .none ∧ ∃ a b, IsPair h TO a b) ∨ ∃ T f oT, IsZipHeld h z TI TO T f ∧ h.get? T = some oT ∧ T ≠ z ∧ T ≠ i1 ∧ T ≠ i2 ∧ T ≠ S
/-- all its places lie below the list's -/
structure ZB (z TI TO i1 i2 l1 l2 S : Addr) : Prop where
  D : ZipApart z TI TO i1 i2 l1 l2
  lz : z < S
  lTI : TI < S
  lTO : TO < S
  li1 : i1 < S
  li2 : i2 < S
  ll1 : l1 < S
  ll2 : l2 < S
theorem ZL.frame {i : Nat} {h h' : Heap} (B : ZB z TI TO i1 i2 l1 l2 S) (q : ZL xs ys z TI TO i1 i2 l1 l2 S i h) (k : ∀ b o, b ≠ S → h.get? b = some o → h'.get? b = some o) : ZL xs ys z TI TO i1 i2 l1 l2 S i h' := by
  refine ⟨k _ _ (Nat.ne_of_lt B.lTI) q.ti, q.a1.at fun o e => k _ o (Nat.ne_of_lt B.li1) e, q.a2.at fun o e => k _ o (Nat.ne_of_lt B.li2) e, q.b1.at fun o e => k _ o (Nat.ne_of_lt B.ll1) e, q.b2.at fun o e => k _ o (Nat.ne_of_lt B.ll2) e, ?_⟩
  rcases q.st with ⟨y, a, b, t⟩ | ⟨T, f, oT, y, t, r1, r2, r3, r4⟩
  · exact .inl ⟨k _ _ (Nat.ne_of_lt B.lz) y, a, b, k _ _ (Nat.ne_of_lt B.lTO) t⟩
  · exact .inr ⟨T, f, oT, k _ _ (Nat.ne_of_lt B.lz) y, k _ _ r4 t, r1, r2, r3, r4⟩
/-- what is no part of the zip stands -/
def ZKeep (z TO i1 i2 : Addr) (h h' : Heap) : Prop := ∀ c o, c ≠ z → c ≠ TO → c ≠ i1 → c ≠ i2 → h.get? c = some o → h'.get? c = some o
theorem zl_item {i : Nat} {x y : Value} {E : Value → Shared → Prop} {Q : Option Value → Shared → Prop} (B : ZB z TI TO i1 i2 l1 l2 S) (q : ZL xs ys z TI TO i1 i2 l1 l2 S i s.heap) (hS : S < s.heap.objs.size) (ex : xs[i]? = some x) (ey : ys[i]? = some y)
    (hQ : ∀ h', ZL xs ys z TI TO i1 i2 l1 l2 S (i + 1) h' → IsPair h' s.heap.objs.size x y → h'.objs.size = s.heap.objs.size + 1 → ZKeep z TO i1 i2 s.heap h' → Q (some (.ref s.heap.objs.size)) { s with heap := h' }) :
    wpAny (model prog w) A (pyNext (.ref z)) Q E s := by
  have D := B.D
  have nz : s.heap.objs.size ≠ z := Nat.ne_of_gt (Nat.lt_trans B.lz hS)
  have n1 : s.heap.objs.size ≠ i1 := Nat.ne_of_gt (Nat.lt_trans B.li1 hS)
  have n2 : s.heap.objs.size ≠ i2 := Nat.ne_of_gt (Nat.lt_trans B.li2 hS)
  rcases q.st with ⟨hz, a, b, hTO⟩ | ⟨T, f, oT, hz, hT, r1, r2, r3, r4⟩
  · refine wpAny_pyNext_zip_item D hz q.ti hTO q.a1 q.a2 q.b1 q.b2 ex ey fun h' c1 c2 c3 c4 c5 c6 hk => hQ h' ?_ c5 c6 hk
    exact ⟨hk _ _ D.TIz D.TITO D.TIi1 D.TIi2 q.ti, c3, c4, q.b1.at fun o e => hk _ o D.l1z D.l1TO D.l1i1 D.l1i2 e, q.b2.at fun o e => hk _ o D.l2z D.l2TO D.l2i1 D.l2i2 e, .inr ⟨_, false, _, c1, c5, nz, n1, n2, Nat.ne_of_gt hS⟩⟩
  · refine wpAny_pyNext_zip_item_held D hz hT q.ti q.a1 q.a2 q.b1 q.b2 ex ey fun h' c1 c3 c4 c5 c6 hk => hQ h' ?_ c5 c6 fun c o k1 _ k3 k4 e => hk c o k1 k3 k4 e
    exact ⟨hk _ _ D.TIz D.TIi1 D.TIi2 q.ti, c3, c4, q.b1.at fun o e => hk _ o D.l1z D.l1i1 D.l1i2 e, q.b2.at fun o e => hk _ o D.l2z D.l2i1 D.l2i2 e, .inr ⟨T, true, oT, c1, hk _ _ r1 r2 r3 hT, r1, r2, r3, r4⟩⟩
theorem zl_done {i : Nat} {E : Value → Shared → Prop} {Q : Option Value → Shared → Prop} (hh : A.handled = none) (B : ZB z TI TO i1 i2 l1 l2 S) (q : ZL xs ys z TI TO i1 i2 l1 l2 S i s.heap) (ex : xs[i]? = none)
    (hQ : ∀ h', ZKeep z TO i1 i2 s.heap h' → Q none { s with heap := h' }) : wpAny (model prog w) A (pyNext (.ref z)) Q E s := by
  rcases q.st with ⟨hz, a, b, hTO⟩ | ⟨T, f, oT, hz, hT, r1, r2, r3, r4⟩
  · exact wpAny_pyNext_zip_end hh B.D hz q.ti hTO q.a1 q.a2 q.b1 q.b2 (.inl ex) fun h' hk => hQ h' hk
  · exact wpAny_pyNext_zip_end_held hh B.D hz hT q.ti q.a1 q.a2 q.b1 q.b2 (.inl ex) fun h' hk => hQ h' fun c o k1 _ k3 k4 e => hk c o k1 k3 k4 e
/-- the pairs so far, at as -/
structure ZG (xs ys : Array Value) (lo : Addr) (h : Heap) (as : List Addr) : Prop where
  rise : as.Pairwise (· < ·)
  above : ∀ a ∈ as, lo < a
  pairs : ∀ (j : Nat) (a : Addr), as[j]? = some a → ∃ x y, xs[j]? = some x ∧ ys[j]? = some y ∧ IsPair h a x y
theorem ZG.there {lo : Addr} {h : Heap} {as : List Addr} (g : ZG xs ys lo h as) {a : Addr} (ha : a ∈ as) : a < h.objs.size := by
  obtain ⟨j, hj⟩ := List.mem_iff_getElem?.mp ha
  obtain ⟨_, _, _, _, e⟩ := g.pairs j a hj
  exact Heap.lt_size e
/-- what the list's filling leads to -/
def ZEnd (xs ys : Array Value) (z TO i1 i2 S : Addr) (s : Shared) (res : Value) (h0 : Heap) (R : Result → Shared → Prop) : Prop := ∀ h' tk acc c as, (∀ b o, b ≠ S → b ≠ z → b ≠ TO → b ≠ i1 → b ≠ i2 → h0.get? b = some o → h'.get? b = some o) →
  h'.get? S = some { cls := .type "list", dict := none, data := .seq acc c, slots := #[] } → as.length = xs.size → ZG xs ys S h' as → acc.toList = as.map Value.ref → R (.ok (.ret res)) { s with heap := h', toks := tk }
theorem zl_loop {R : Result → Shared → Prop} {h0 : Heap} (hh : A.handled = none) (B : ZB z TI TO i1 i2 l1 l2 S) (len : ys.size = xs.size) (hn : xs.size ≤ sizeLine) (res : Value) (hR : ZEnd xs ys z TO i1 i2 S s res h0 R) :
    ∀ (k i : Nat) (h : Heap) (tk c : Nat) (acc : Array Value) (as : List Addr), xs.size - i = k → i ≤ xs.size → ZL xs ys z TI TO i1 i2 l1 l2 S i h → (∀ b o, b ≠ S → b ≠ z → b ≠ TO → b ≠ i1 → b ≠ i2 → h0.get? b = some o → h.get? b = some o) →
      h.get? S = some { cls := .type "list", dict := none, data := .seq acc c, slots := #[] } → acc.toList = as.map Value.ref → as.length = i → ZG xs ys S h as →
      codeAny (model prog w) A (.builtin "list.extend.loop" ⟨[.ref S, .ref z, res], []⟩) R { s with heap := h, toks := tk } := by
  intro k
  have nSz : S ≠ z := Nat.ne_of_gt B.lz
  have nSTO : S ≠ TO := Nat.ne_of_gt B.lTO
  have nS1 : S ≠ i1 := Nat.ne_of_gt B.li1
  have nS2 : S ≠ i2 := Nat.ne_of_gt B.li2
  have off : ∀ {a : Addr}, S < a → a ≠ S ∧ a ≠ z ∧ a ≠ TO ∧ a ≠ i1 ∧ a ≠ i2 := fun l => ⟨Nat.ne_of_gt l, Nat.ne_of_gt (Nat.lt_trans B.lz l), Nat.ne_of_gt (Nat.lt_trans B.lTO l), Nat.ne_of_gt (Nat.lt_trans B.li1 l), Nat.ne_of_gt (Nat.lt_trans B.li2 l)⟩
  induction k with
  | zero =>
    intro i h tk c acc as hk hi q keep hS hacc hal hG
    refine codeAny_builtin PySem.F.entry_extend_loop ?_ ; rw [Around.under_plainId PySem.F.plain_extend_loop _]
    show wpAny _ A.in1 (pyNext (.ref z) >>= _) _ _ _
    refine wpAny_bind (zl_done (s := { s with heap := h, toks := tk }) (A := A.in1) hh B q (Array.getElem?_eq_none (by omega)) fun h' he => wpAny_pure (hR h' tk acc c as (fun b o e1 e2 e3 e4 e5 e => he b o e2 e3 e4 e5 (keep b o e1 e2 e3 e4 e5 e)) (he S _ nSz nSTO nS1 nS2 hS) (by omega) ⟨hG.rise, hG.above, fun j a hj => ?_⟩ hacc))
    obtain ⟨x, y, e1, e2, e3⟩ := hG.pairs j a hj
    obtain ⟨o1, o2, o3, o4, o5⟩ := off (hG.above a (List.mem_of_getElem? hj))
    exact ⟨x, y, e1, e2, he a _ o2 o3 o4 o5 e3⟩
  | succ k ih =>
    intro i h tk c acc as hk hi q keep hS hacc hal hG
    have lt : i < xs.size := by omega
    have ex : xs[i]? = some xs[i] := Array.getElem?_eq_getElem lt
    have ey : ys[i]? = some ys[i] := Array.getElem?_eq_getElem (by omega)
    have hsz : acc.size = i := by rw [← Array.length_toList, hacc, List.length_map, hal]
    have hSl : S < h.objs.size := Heap.lt_size hS
    refine codeAny_builtin PySem.F.entry_extend_loop ?_ ; rw [Around.under_plainId PySem.F.plain_extend_loop _]
    show wpAny _ A.in1 (pyNext (.ref z) >>= _) _ _ _
    refine wpAny_bind (zl_item (s := { s with heap := h, toks := tk }) B q hSl ex ey fun h' q' hp hz hk' => ?_)
    dsimp only at hp hz hk' ⊢
    have hS' := hk' S _ nSz nSTO nS1 nS2 hS
    have up : ∀ b o, b ≠ S → h'.get? b = some o → (h'.update S (Obj.mapSeq (·.push (Value.ref h.objs.size)))).get? b = some o := fun b o hb e => (Heap.get?_update_other _ _ (Ne.symm hb)).trans e
    have ep := up _ _ (Nat.ne_of_gt hSl) hp
    show wpAny _ A.in1 (updateSeq S (·.push (Value.ref h.objs.size)) >>= _) _ _ _
    refine wpAny_bind (wpAny_updateSeq hS' rfl (wpAny_pure ⟨plainId_quiet PySem.F.plain_extend_loop _, ih (i + 1) _ tk _ (acc.push (Value.ref h.objs.size)) (as ++ [h.objs.size]) (by omega) lt (q'.frame B up)
      (fun b o e1 e2 e3 e4 e5 e => up b o e1 (hk' b o e2 e3 e4 e5 (keep b o e1 e2 e3 e4 e5 e))) (Heap.get?_update_self _ hS' rfl) (by rw [Array.toList_push, hacc, List.map_append]; rfl) (by rw [List.length_append, hal]; rfl) ⟨?_, ?_, ?_⟩⟩) (by rw [hsz]; omega) (by show (acc.push (Value.ref h.objs.size)).size ≤ sizeLine + 1; rw [Array.size_push, hsz]; omega))
    · exact List.pairwise_append.mpr ⟨hG.rise, List.pairwise_singleton _ _, fun a ha b hb => by rw [List.mem_singleton.mp hb]; exact hG.there ha⟩
    · intro a ha
      rcases List.mem_append.mp ha with ha | ha
      · exact hG.above a ha
      · rw [List.mem_singleton.mp ha]; exact hSl
    · intro j b hj
      by_cases l : j < as.length
      · rw [List.getElem?_append_left l] at hj
        obtain ⟨x, y, e1, e2, e3⟩ := hG.pairs j b hj
        obtain ⟨o1, o2, o3, o4, o5⟩ := off (hG.above b (List.mem_of_getElem? hj))
        exact ⟨x, y, e1, e2, up b _ o1 (hk' b _ o2 o3 o4 o5 e3)⟩
      · rw [List.getElem?_append_right (by omega)] at hj
        have j0 : j - as.length = 0 := by
          have := (List.getElem?_eq_some_iff.mp hj).1
          simp at this
          omega
        rw [j0] at hj
        have eb : h.objs.size = b := by simpa using hj
        subst eb
        have ji : j = i := by omega
        subst ji
        exact ⟨_, _, ex, ey, ep⟩
/-- list(z), z a new zip -/
theorem zl_call {Q : Value → Shared → Prop} {E : Value → Shared → Prop} (hh : A.handled = none) (len : ys.size = xs.size) (hn : xs.size ≤ sizeLine) (q : ∀ S, ZL xs ys z TI TO i1 i2 l1 l2 S 0 s.heap) (hzt : s.TypeIs (.ref z) "zip") (hz0 : ∃ f0, IsZip s.heap z TI TO f0) (B : ZB z TI TO i1 i2 l1 l2 s.heap.objs.size)
    (hQ : ∀ h' tk acc c as, (∀ b o, b ≠ z → b ≠ TO → b ≠ i1 → b ≠ i2 → s.heap.get? b = some o → h'.get? b = some o) → h'.get? s.heap.objs.size = some { cls := .type "list", dict := none, data := .seq acc c, slots := #[] } → as.length = xs.size → ZG xs ys s.heap.objs.size h' as →
      acc.toList = as.map Value.ref → Q (.ref s.heap.objs.size) { s with heap := h', toks := tk }) :
    wpAny (model prog w) A (call (.type "list") [.ref z]) Q E s := by
  generalize eS : s.heap.objs.size = S at B hQ
  refine callType_codes (Q₁ := fun obj s₁ => obj = .ref S ∧ s₁ = { s with heap := s.heap.push { cls := .type "list", data := .seq #[] } }) PySem.F.called_list (PySem.F.typeCall_list_1 _) PySem.F.entry_list_init (code_list_new _ ⟨by rw [eS], rfl⟩) fun obj s₁ h₁ => ?_
  obtain ⟨rfl, rfl⟩ := h₁
  have hS : (s.heap.push { cls := .type "list", data := .seq #[] }).get? S = some { cls := .type "list", data := .seq #[] } := by rw [← eS]; exact Heap.get?_push_size _ rfl
  have q1 : ZL xs ys z TI TO i1 i2 l1 l2 S 0 (s.heap.push { cls := .type "list", data := .seq #[] }) := (q S).frame B fun b o _ e => Heap.get?_push_of_some _ e
  obtain ⟨f0, hz⟩ := hz0
  have hz1 : IsZip (s.heap.push { cls := .type "list", data := .seq #[] }) z TI TO f0 := Heap.get?_push_of_some _ hz
  refine ⟨⟨_, hS, rfl⟩, PySem.F.args_list_init_2 _ _, ?_⟩
  show wpAny _ _ (do let old ← Builtin.List.listItems (.ref S) ; Builtin.List.listUpdate (.ref S) (fun _ => #[]) ; letGo old.toList.reverse ; Builtin.List.listExtendWith (.ref S) (.ref z) .none) _ _ _
  refine wpAny_bind ?_ ; unfold Builtin.List.listItems
  refine wpAny_bind (wpAny_seqItems hS rfl (wpAny_pure ?_))
  show wpAny _ _ (updateSeq S (fun _ => #[]) >>= fun _ => letGo (#[] : Array Value).toList.reverse >>= fun _ => Builtin.List.listExtendWith (.ref S) (.ref z) .none) _ _ _
  refine wpAny_bind (wpAny_updateSeq hS rfl (wpAny_bind (wpAny_letGo ?_)))
  have hS2 := Heap.get?_update_self (Obj.mapSeq (fun _ => (#[] : Array Value))) hS rfl
  generalize hh2 : (s.heap.push { cls := .type "list", data := .seq #[] }).update S (Obj.mapSeq fun _ => #[]) = h2 at hS2
  have oth2 : ∀ b o, b ≠ S → (s.heap.push { cls := .type "list", data := .seq #[] }).get? b = some o → h2.get? b = some o := fun b o hb e => by rw [← hh2]; exact (Heap.get?_update_other _ _ (Ne.symm hb)).trans e
  have q2 := q1.frame B oth2
  have hz2 := oth2 _ _ (Nat.ne_of_lt B.lz) hz1
  have kp2 : ∀ b o, s.heap.get? b = some o → h2.get? b = some o := fun b o e => oth2 b o (by rw [← eS]; exact Nat.ne_of_lt (Heap.lt_size e)) (Heap.get?_push_of_some _ e)
  have hT2 : Shared.TypeIs { s with heap := h2 } (.ref z) "zip" := ⟨_, hz2, rfl⟩
  unfold Builtin.List.listExtendWith
  refine wpAny_bind (wpAny_typeOf hT2 ?_)
  have h1 : Builtin.List.listSameRef (.ref S) (.ref z) = false := by simp [Builtin.List.listSameRef, Nat.ne_of_gt B.lz]
  rw [h1, show (Value.type "zip" == Value.type "list") = false by decide, show (Value.type "zip" == Value.type "tuple") = false by decide]
  simp only [Bool.or_false, Bool.false_eq_true, if_false]
  refine wpAny_bind (wpAny_pyIter_zip hz2 ?_)
  refine wpAny_bind (wpAny_holding ?_) ; unfold Builtin.List.listLengthHint
  refine wpAny_bind (wpAny_specialOf hT2 zipNoLen ?_)
  show wpAny _ _ (specialOf (Value.ref z) (Str.ofString "__length_hint__") >>= _) _ _ _
  refine wpAny_bind (wpAny_specialOf hT2 zipNoHint (wpAny_pure ?_))
  show wpAny _ _ (rule "list.extend.makes-room" >>= fun _ => Builtin.List.listTouch (.ref S) >>= fun _ => again (.builtin "list.extend.loop" ⟨[.ref S, .ref z, .none], []⟩)) _ _ _
  refine wpAny_bind (wpAny_rule (wpAny_bind ?_))
  show wpAny _ _ (updateSeq S (·.push .none) >>= fun _ => updateSeq S (·.pop)) _ _ _
  refine wpAny_bind (wpAny_updateSeq hS2 rfl ?_)
  have hS3 := Heap.get?_update_self (Obj.mapSeq (·.push Value.none)) hS2 rfl
  refine wpAny_updateSeq (hz := by seq_fits) hS3 rfl ?_
  have hS4 := Heap.get?_update_self (Obj.mapSeq (·.pop)) hS3 rfl
  have oth4 : ∀ b o, b ≠ S → h2.get? b = some o → ((h2.update S (Obj.mapSeq (·.push Value.none))).update S (Obj.mapSeq (·.pop))).get? b = some o := fun b o hb e => (Heap.get?_update_other _ _ (Ne.symm hb)).trans ((Heap.get?_update_other _ _ (Ne.symm hb)).trans e)
  refine wpAny_pure ⟨plainId_quiet PySem.F.plain_extend_loop _, zl_loop (s := s) (A := A.in1) (h0 := h2) hh B len hn .none (fun h' tk acc c as hk hS' hl hG ha => ?_) xs.size 0 _ s.toks _ #[] [] (Nat.sub_zero _) (Nat.zero_le _) (q2.frame B oth4) (fun b o e1 _ _ _ _ e => oth4 b o e1 e) hS4 rfl rfl ⟨List.Pairwise.nil, (fun _ h => nomatch h), (fun j a hj => by simp at hj)⟩⟩
  exact ⟨rfl, hQ h' tk acc c as (fun b o e2 e3 e4 e5 e => hk b o (by rw [← eS]; exact Nat.ne_of_lt (Heap.lt_size e)) e2 e3 e4 e5 (kp2 b o e)) hS' hl hG ha⟩
end
section
variable {X : Cx} {pins : List (Addr × Obj)} {σ : L2.St} {H : Hp} {s : Shared}
/-- several new objects, tracked at once -/
theorem laidMany {H' : Hp} {h' : Heap} {tk : Nat} (I : Inv X pins σ H s) (hk : ∀ b o, s.heap.get? b = some o → h'.get? b = some o) (kp : ∀ b u, H b = some u → H' b = some u) (new : ∀ b u, H' b = some u → H b = some u ∨ (s.heap.objs.size ≤ b ∧ ObjOk X.prog X.w H' h' b u)) :
    Inv X pins σ H' { s with heap := h', toks := tk } := by
  refine I.call' (ch := []) rfl ⟨fun b o q _ _ _ => hk b o q, fun b o q _ _ _ => ⟨o.slots, hk b o q⟩, fun b o q n _ => ?_, fun b o q _ => ⟨o, hk b o q⟩, fun b xs q => kp b _ q, fun b o u q => kp b _ q, fun b ps q => ⟨#[], by rw [kp b _ q]; simp⟩⟩ (fun b u q => ?_) I.bare (fun b z => by simp at z)
  · cases r : H' b with
    | none => rfl
    | some u =>
      rcases new b u r with z | ⟨z, _⟩
      · rw [n] at z
        cases z
      · exact absurd (Heap.lt_size q) (Nat.not_lt.mpr z)
  · rcases new b u q with z | ⟨_, z⟩
    · exact (I.hok b u z).stay (fun d v _ y => hk d v y) (fun d y => kp d _ y) (fun d xs y => kp d _ y)
    · exact z
end
section
variable {X : Cx} {e1 e2 : Expr} {ta : TA} {p p2 pos pos2 : Pos}
/-- a, b: two lists of one length, the first one of keys -/
def rZipL (K : PySem.W.Frag) : List V → Hp → VK → Prop := fun vs H Q => ∃ (a b : Addr) (kvs : List (Key × V)), vs = [.ref a, .ref b] ∧ SqL K H a (kvs.map fun q => kV q.1) ∧ SqL K H b (kvs.map (·.2)) ∧
  ∀ (H' : Hp) (p : Addr) (ts : List Addr), (∀ b o, H b = some o → H' b = some o) → H p = none → H' p = some (.lst (ts.map V.ref)) → Paired (fun (t : Addr) (q : Key × V) => H' t = some (.tup [kV q.1, q.2])) ts kvs → Q (.ref p) H'
def tListZip (K : PySem.W.Frag) (ta : TA) : TE := fun σ H Q => ta σ H fun vs H1 => rZipL K vs H1 Q
theorem kIsOf {k : Key} {v : Value} (h : RelV (kV k) v) : keyIs k v = true := by
  cases k with
  | inl i =>
    obtain ⟨t, rfl⟩ := h
    exact keyIs_int i t
  | inr x =>
    obtain ⟨t, rfl⟩ := h
    exact keyIs_str x t
theorem valsAt {vs : List V} {us : List Value} (h : Vals vs us) {j : Nat} {u : Value} (hj : us[j]? = some u) : ∃ v, vs[j]? = some v ∧ RelV v u := by
  induction h generalizing j with
  | nil => simp at hj
  | cons r _ ih =>
    cases j with
    | zero =>
      simp at hj
      subst hj
      exact ⟨_, rfl, r⟩
    | succ j =>
      obtain ⟨v, a, b⟩ := ih (j := j) (by simpa using hj)
      exact ⟨v, by simpa using a, b⟩
theorem zb_new (n a b : Nat) (la : a < n) (lb : b < n) : ZB (n + 4) (n + 2) (n + 3) n (n + 1) a b (n + 5) :=
  ⟨PySem.W.ktu_apart n a b la lb, by show n + 4 < n + 5; omega, by show n + 2 < n + 5; omega, by show n + 3 < n + 5; omega, by show n < n + 5; omega, by show n + 1 < n + 5; omega, by show a < n + 5; omega, by show b < n + 5; omega⟩
theorem zb_off (n b : Nat) (l : b < n) : b ≠ n + 4 ∧ b ≠ n + 3 ∧ b ≠ n ∧ b ≠ n + 1 ∧ b ≠ n + 5 := by omega
theorem zb_ge (n d : Nat) (l : n + 5 < d) : n ≤ d ∧ ¬ d < n := by omega
/-- list(zip(e1, e2)) -/
theorem pe_listZip (hc : X.calm = true) (ha : PA X [e1, e2] ta) (hg : Gl X "list") (hm : X.mg "list" = none) (hv : bootBuiltins "list" = some (.type "list")) (hgz : Gl X "zip") (hmz : X.mg "zip" = none)
    (hs : starEach [.Call (.Name "zip" p2) [e1, e2] [] pos2] X.env = (false, eval (.Call (.Name "zip" p2) [e1, e2] [] pos2) X.env) :: starEach [] X.env := by rfl)
    (hs2 : starEach [e1, e2] X.env = (false, eval e1 X.env) :: starEach [e2] X.env := by rfl) (hpl : (backTo pos2 (starEach [e2] X.env)).any (·.1) = false := by rfl) :
    PE X (.Call (.Name "list" p) [.Call (.Name "zip" p2) [e1, e2] [] pos2] [] pos) (tListZip X.K ta) := by
  refine ⟨fun pins s σ H Q I hq => wpAny_Call_Name_kw (ld_blt I hg hm hv (PyProof.Rows.callWith_type1 ?_ hs rfl))⟩
  rw [hs] ; show wpAny _ _ (spliced ((false, eval (.Call (.Name "zip" p2) [e1, e2] [] pos2) X.env) :: backTo pos (starEach [] X.env))) _ _ s
  refine Calls.spliced_cons (Call_ (ld_blt I hgz hmz PyProof.Rows.boot_zip (PyProof.Rows.callWith_type1 (thn (ha.run pos2 pins s σ H _ I hq) fun us s1 ⟨vs, H1, I1, r1, q1⟩ => ?_) hs2 hpl)))
  obtain ⟨a, b, kvs, ex, hqx, hqy, q⟩ := q1
  subst ex
  cases r1 with
  | cons r rr =>
    cases rr with
    | cons r' rr =>
      cases rr
      cases r
      cases r'
      obtain ⟨its, rv, p1, z1⟩ := I1.list hqx
      obtain ⟨its2, rv2, p3, z2⟩ := I1.list hqy
      have la : a < s1.heap.objs.size := p1.lt
      have lb : b < s1.heap.objs.size := p3.lt
      have n1 := rv.length
      have n2 := rv2.length
      rw [List.length_map] at n1 n2 z1
      refine call_zip_2 p1.isList p3.isList fun h' hz hTI hTO h1 h2 hsz hk => Calls.spliced_nil ?_
      generalize eN : s1.heap.objs.size = N at *
      have B := zb_new N a b la lb
      have q0 : ∀ S, ZL its.toArray its2.toArray (N + 4) (N + 2) (N + 3) N (N + 1) a b S 0 h' := fun S => ⟨hTI, h1, h2, p1.isList.at fun o e => hk _ o e, p3.isList.at fun o e => hk _ o e, .inl ⟨hz, _, _, hTO⟩⟩
      refine zl_call (s := { s1 with heap := h' }) (I1.ok.hd hc) (by simp; omega) (by simp; omega) q0 ⟨_, hz, rfl⟩ ⟨_, hz⟩ (by show ZB _ _ _ _ _ _ _ h'.objs.size; rw [hsz]; exact B) fun h2 tk acc c as hk2 hS hl hG hacc => ?_
      dsimp only at hS hl hG hk2 ⊢
      rw [hsz] at hS hG ⊢
      have low : ∀ b o, s1.heap.get? b = some o → h2.get? b = some o := fun b o e => by
        obtain ⟨o1, o2, o3, o4, _⟩ := zb_off N b (by rw [← eN]; exact Heap.lt_size e)
        exact hk2 b o o1 o2 o3 o4 (hk b o e)
      have fresh : ∀ b, N ≤ b → H1 b = none := fun b l => I1.hok.fresh (by rw [eN]; exact l)
      have nd : as.Nodup := List.Pairwise.imp (fun {a b} (h : a < b) => Nat.ne_of_lt h) hG.rise
      have nS : N + 5 ∉ as := fun z => Nat.lt_irrefl _ (hG.above _ z)
      have lk : as.length = kvs.length := by rw [hl]; simp; omega
      have atP := LiI.putT_at as kvs (upd H1 (N + 5) (.lst (as.map V.ref))) lk nd
      have off : ∀ b, b ∉ as → b ≠ N + 5 → LiI.putT (upd H1 (N + 5) (.lst (as.map V.ref))) as kvs b = H1 b := fun b x y => by rw [LiI.putT_off as kvs _ x, upd_ne y]
      have kp : ∀ b u, H1 b = some u → LiI.putT (upd H1 (N + 5) (.lst (as.map V.ref))) as kvs b = some u := fun b u e => by
        have l : b < N := Nat.lt_of_not_le fun l => by rw [fresh b l] at e; cases e
        rw [off b (fun z => (zb_ge N b (hG.above b z)).2 l) (zb_off N b l).2.2.2.2]
        exact e
      have eS : LiI.putT (upd H1 (N + 5) (.lst (as.map V.ref))) as kvs (N + 5) = some (.lst (as.map V.ref)) := by rw [LiI.putT_off as kvs _ nS, upd_same]
      have J : Inv X pins σ (LiI.putT (upd H1 (N + 5) (.lst (as.map V.ref))) as kvs) { s1 with heap := h2, toks := tk } := by
        refine laidMany I1 low kp fun d u e => ?_
        by_cases hb : d ∈ as
        · refine .inr ⟨by rw [eN]; exact (zb_ge N d (hG.above d hb)).1, ?_⟩
          obtain ⟨j, pk, f1, f2, f3⟩ := LiI.paired_ix atP hb
          rw [f3] at e
          cases e
          obtain ⟨x, y, g1, g2, g3⟩ := hG.pairs j d f1
          obtain ⟨v1, v2, v3⟩ := valsAt rv (j := j) (by simpa using g1)
          obtain ⟨w1, w2, w3⟩ := valsAt rv2 (j := j) (by simpa using g2)
          rw [List.getElem?_map, f2] at v2 w2
          cases v2
          cases w2
          exact ⟨by show 2 ≤ sizeLine; decide, [x, y], .cons v3 (.cons w3 .nil), ⟨_, g3, rfl, _, rfl⟩⟩
        · by_cases hb2 : d = N + 5
          · subst hb2
            refine .inr ⟨by rw [eN]; exact Nat.le_add_right _ _, ?_⟩
            rw [eS] at e
            cases e
            refine ⟨by rw [List.length_map]; omega, acc.toList, c, by rw [hacc]; exact LiI.vals_refs as, ?_⟩
            rw [Array.toArray_toList]
            exact hS
          · exact .inl (by rw [← off d hb hb2]; exact e)
      exact ⟨.ref (N + 5), _, J, rfl, q _ _ as kp (fresh _ (Nat.le_add_right _ _)) eS atP⟩
end
end EB
namespace EB
open PySem PySem.Spec L2 StX ClX PyProof.Rows
set_option maxHeartbeats 2000000
/-! ## bool(o), o an instance with its own __bool__ -/
section
variable {X : Cx} {CX : CXT} {k : Nat} {C g : Addr} {sp : Sp} {E : XK} {A : Around}
/-- g called by values, further in -/
theorem run_in {pins : List (Addr × Obj)} {σ : L2.St} {H : Hp} {s : Shared} {Q : VK} {vs : List V} {us : List Value} (F : FnR X.prog X.w X.K X.mg X.base CX k g sp) (hr : Room k A) (hA : A.frames = some X.stack) (hx : Passes CX X E) (I : Inv X pins σ H s) (r : Vals vs us) (h : sp vs H Q E) :
    wpAny (model X.prog X.w) A (call (.ref g) us) (EP X pins σ Q) X.xe s := by
  have e0 := I.env0
  refine wpAny_call (codeAny_mono (F A X.stack s H us vs Q E hr ⟨hA, e0.mod, e0.bs, e0.bsz, e0.funs, e0.frf, e0.hok, e0.bare⟩ r h) fun r s' hq => ?_)
  cases r with
  | error e => exact hx pins σ H s e s' I hq
  | ok fl =>
    cases fl with
    | ret u => exact I.after hq
    | next => exact False.elim hq
    | brk => exact False.elim hq
    | cont => exact False.elim hq
theorem truthy_in {pins : List (Addr × Obj)} {σ : L2.St} {H : Hp} {s : Shared} {Q : Bool → Hp → Prop} {R : Bool → Shared → Prop} {a : Addr} (c : OwnM X.K C "__bool__" g) (F : FnR X.prog X.w X.K X.mg X.base CX k g sp) (hr : Room k A) (hA : A.frames = some X.stack) (hx : Passes CX X E)
    (I : Inv X pins σ H s) (hi : ∃ dx fs, H a = some (.ins C dx fs)) (h : sp [.ref a] H (fun r H' => ∃ b, r = .bl b ∧ Q b H') E) (fin : ∀ b s' H', Inv X pins σ H' s' → Q b H' → R b s') : wpAny (model X.prog X.w) A (truthy (.ref a)) R X.xe s := by
  obtain ⟨ox, od, J, _⟩ := insC_at (X := X) I (.inr hi)
  unfold truthy
  refine wpAny_bind (m := callSpecial? (.ref a) (Str.ofString "__bool__")) (PySem.W.special_fn I.kIn J c.here (beq_iff_eq.mp c.isf) (wpAny_mono (run_in (us := [.ref a]) (vs := [.ref a]) F hr hA hx I (.cons rfl .nil) h) (fun r s' z => ?_) fun _ _ z => z))
  obtain ⟨y, H', I', ry, b, rfl, q⟩ := z
  cases ry
  exact wpAny_pure (fin b s' H' I' q)
theorem call_boolO {pins : List (Addr × Obj)} {σ : L2.St} {H : Hp} {s : Shared} {Q : VK} {a : Addr} (c : OwnM X.K C "__bool__" g) (F : FnR X.prog X.w X.K X.mg X.base CX k g sp) (hr : Room k A.in1.in1) (hA : A.frames = some X.stack) (hx : Passes CX X E)
    (I : Inv X pins σ H s) (hi : ∃ dx fs, H a = some (.ins C dx fs)) (h : sp [.ref a] H (fun r H' => ∃ b, r = .bl b ∧ Q (.bl b) H') E) : wpAny (model X.prog X.w) A (call (.type "bool") [.ref a]) (EP X pins σ Q) X.xe s := by
  refine callType_codes (T := "bool") (Bi := Builtin.«object.__init__») (Q₁ := fun r s₁ => ∃ b, r = .bool b ∧ EP X pins σ Q r s₁) PySem.F.called_bool (PySem.F.typeCall_bool_1 _) PySem.F.entry_object_init ?_ ?_
  · refine codeAny_of_tree ?_
    show wpAny _ A.in1.in1 (do checkBuiltinCall "bool.__new__" ⟨[.type "bool", .ref a], []⟩; again (.builtin "bool.__new__" ⟨[.type "bool", .ref a], []⟩)) _ _ s
    refine wpAny_bind (wpAny_of_eq (PySem.F.newCall_bool_1 _) (wpAny_pure ⟨plainId_quiet PySem.F.called_bool.plain _, codeAny_builtin PySem.F.entry_bool_new ?_⟩))
    rw [Around.under_plainId PySem.F.called_bool.plain _]
    unfold Builtin.«bool.__new__»
    have f1 := PySem.F.conv_sub_bool
    repeat (any_goals (first | assumption | (with_reducible refine truthy_in c F hr hA hx I hi h ?_) | wp_step))
    exact fun b s' H' I' q => wpAny_pure ⟨b, rfl, .bl b, H', I', rfl, q⟩
  · rintro obj s₁ ⟨b, rfl, hq⟩
    exact ⟨rfl, PySem.F.args_object_init_2 _ _, object_init_meets PySem.F.called_bool.init.lookup PySem.F.called_bool.made (by decide) _ _ A.in1 _ s₁ ⟨rfl, rfl, hq⟩⟩
def tBoolO (C : Addr) (sp : Sp) (E : XK) (te : TE) : TE := fun σ H Q => te σ H fun x H1 => ∃ a, x = .ref a ∧ (∃ dx fs, H1 a = some (.ins C dx fs)) ∧ sp [.ref a] H1 (fun r H' => ∃ b, r = .bl b ∧ Q (.bl b) H') E
theorem pe_boolO {e : Expr} {te : TE} {p pos : Pos} (he : PE X e te) (c : OwnM X.K C "__bool__" g) (F : FnR X.prog X.w X.K X.mg X.base CX k g sp) (hr : Room k X.A.in1.in1) (hx : Passes CX X E) (hg : Gl X "bool") (hm : X.mg "bool" = none)
    (hv : bootBuiltins "bool" = some (.type "bool") := by rfl) (hs : starEach [e] X.env = (false, eval e X.env) :: starEach [] X.env := by rfl) : PE X (.Call (.Name "bool" p) [e] [] pos) (tBoolO C sp E te) := by
  refine ⟨fun pins s σ H Q I hq => wpAny_Call_Name_kw (ld_blt I hg hm hv (PyProof.Rows.callWith_type1 ?_ hs rfl))⟩
  rw [hs] ; show wpAny _ _ (spliced ((false, eval e X.env) :: backTo pos (starEach [] X.env))) _ _ s
  refine Calls.spliced_cons (thn (he.run pins s σ H _ I hq) fun v s1 z => ?_)
  obtain ⟨x, H1, I1, r1, a, rfl, hi, q⟩ := z
  cases r1
  exact Calls.spliced_nil (call_boolO c F hr I1.env0.frames hx I1 hi q)
end
end EB
namespace EB
open PySem PySem.Spec L2 StX ClX
/-- the laws' own count of what pieces buy -/
def sp__law_buys (K : PySem.W.Frag) : Sp := sp_bought K
theorem len__law_buys {K} : ∀ vs H Q E, sp__law_buys K vs H Q E → vs.length = 2 := len_bought
theorem ap__law_buys {K : PySem.W.Frag} {H : Hp} {Q : VK} {E : XK} {a : Addr} {ts : List Tr} {d : Int} (h : Trs H a ts) (g : Goods ts) (k : ∀ H', Ex H H' → Q (.int (bo ts d)) H') : sp__law_buys K [.ref a, .int d] H Q E := ap_bought h g k
end EB
namespace EB
open PySem PySem.Spec L2 StX ClX
/-! ## credit -/
def sp_with_credit (_ : PySem.W.Frag) : Sp := fun vs H Q _ => ∃ (a : Addr) (ts : List Tr) (n : Int), vs = [.ref a, .int n] ∧ Trs H a ts ∧ Fair ts ∧ 0 ≤ n ∧ n ≤ 1000000000000000000 ∧ ∀ D H', IsCred ts n D → Ex H H' → Q (.int D) H'
theorem len_with_credit {K} : ∀ vs H Q E, sp_with_credit K vs H Q E → vs.length = 2 := by rintro _ _ _ _ ⟨_, _, _, rfl, _⟩; rfl
def sp_Offer_credit (K : PySem.W.Frag) : Sp := fun vs H Q _ => ∃ (o : Addr) (ts : List Tr) (n : Int), vs = [.ref o, .int n] ∧ OfferAt K H o ts ∧ OfferOk ts ∧ 0 ≤ n ∧ n ≤ 1000000000000000000 ∧ ∀ D H', IsCred ts n D → Ex H H' → Q (.int D) H'
theorem len_Offer_credit {K} : ∀ vs H Q E, sp_Offer_credit K vs H Q E → vs.length = 2 := by rintro _ _ _ _ ⟨_, _, _, rfl, _⟩; rfl
section
variable {K : PySem.W.Frag} {H : Hp} {Q : VK} {E : XK}
theorem ap_Offer_credit {o : Addr} {ts : List Tr} {n : Int} (h : OfferAt K H o ts) (ok : OfferOk ts) (h1 : 0 ≤ n) (h2 : n ≤ 1000000000000000000) (k : ∀ D H', IsCred ts n D → Ex H H' → Q (.int D) H') : sp_Offer_credit K [.ref o, .int n] H Q E := ⟨o, ts, n, rfl, h, ok, h1, h2, k⟩
end
end EB
namespace EB
open PySem PySem.Spec PyProof.Rows L2
set_option maxHeartbeats 2000000
/-! ## a generator's if and for -/
section
variable {X : Cx}
def tGIf (c : TT) (ta tb : TGn) : TGn := fun D ys σ H => c σ H fun b H1 => if b = true then ta D ys σ H1 else tb D ys σ H1
theorem gs_if {test : Expr} {body orelse : List Stmt} {pos : Pos} {tc : TT} {ta tb : TGn} (hc : PT X test tc) (ha : GSs X body ta) (hb : GSs X orelse tb) : GS X (.If test body orelse pos) (tGIf tc ta tb) := by
  constructor
  intro A S ip R n ys s₀ c fs K J gd lv s σ H D g hn k hI ht
  obtain ⟨acc, cc, r, I⟩ := hI
  rw [exec_If]
  refine seg_at ?_
  show Seg _ A R _ n s₀ c ((isTrue test X.env (eval test X.env) >>= fun b => if b = true then execs body X.env else execs orelse X.env).wrap K J gd lv) fs s
  rw [Sem.bind_eq_wrap', Sem.wrap_wrap]
  refine seg_wrap ?_
  rw [g.over]
  refine wpAny_mono (hc.run _ s σ H _ I ht) (fun b s' hb' => ?_) fun x s' hx => k.exc n s₀ x s' hx
  obtain ⟨H2, I2, q2⟩ := hb'
  cases b with
  | true => exact ha.run A S ip R n ys s₀ c fs K J gd lv s' σ H2 D g hn k ⟨acc, cc, r, I2⟩ q2
  | false => exact hb.run A S ip R n ys s₀ c fs K J gd lv s' σ H2 D g hn k ⟨acc, cc, r, I2⟩ q2
end
section
variable {prog : Program} {w : World} {A : Around} {R : GenEnd} {Y : Protocol} {n : Nat} {s₀ : Shared} {fs : List Frame} {s : Shared} {env : Env} {target : Expr} {it : Value} {body : List Stmt}
/-- what a turn does with an exception -/
def forGone (env : Env) (x : Value) : Sem PySem.Fin := (do noteFrame x env; theTreesLotGoes x : Sem Unit).wrap (fun _ => .raise x) .raise id id
/-- what a turn does with how its body ended -/
def forWent (target : Expr) (it : Value) (body : List Stmt) (env : Env) (f : Flow) : Sem PySem.Fin := match f with
  | .next | .cont => .pure (.again (.forLoop target it body [] env))
  | .brk => .pure (.done .next)
  | .ret v => .pure (.done (.ret v))
theorem seg_forTurn (h : wpAny (model prog w) (A.over (.forLoop target it body [] env) fs) (pyNext it) (fun r s' => match r with
      | none => Seg (model prog w) A R Y n s₀ (.forLoop target it body [] env) (.pure (.again (.block [] env))) fs s'
      | some v => wpAny (model prog w) (A.over (.forLoop target it body [] env) fs) (letOwnedTupleGo target it v) (fun _ s1 => wpAny (model prog w) (A.over (.forLoop target it body [] env) fs) (assign target env v)
          (fun _ s2 => Seg (model prog w) A R Y n s₀ (.forLoop target it body [] env) ((execs body env).wrap (forWent target it body env) (forGone env) id id) fs s2) (fun x s2 => Seg (model prog w) A R Y n s₀ (.forLoop target it body [] env) (forGone env x) fs s2) s1)
          (fun x s1 => Seg (model prog w) A R Y n s₀ (.forLoop target it body [] env) (forGone env x) fs s1) s')
      (fun x s' => Seg (model prog w) A R Y n s₀ (.forLoop target it body [] env) (forGone env x) fs s') s) :
    Seg (model prog w) A R Y n s₀ (.forLoop target it body [] env) ((model prog w).den (.forLoop target it body [] env)) fs s := by
  have gone : ∀ {x : Value} {s' : Shared}, Seg (model prog w) A R Y n s₀ (.forLoop target it body [] env) (forGone env x) fs s' → Seg (model prog w) A R Y n s₀ (.forLoop target it body [] env) ((do noteFrame x env; theTreesLotGoes x : Sem Unit).bind fun _ => .raise x) fs s' := fun {x s'} hx => by
    rw [Sem.bind_eq_wrap]
    exact hx
  show Seg _ A R Y n s₀ _ ((forTurn target it body [] env).onRaise (fun x => do noteFrame x env; theTreesLotGoes x)) fs s
  simp only [forTurn]
  rw [Sem.onRaise_eq_wrap]
  refine seg_at ?_
  show Seg _ A R Y n s₀ _ (Sem.wrap Sem.pure _ id id (((pyNext it).onRaise _) >>= _)) fs s
  rw [Sem.bind_eq_wrap', Sem.wrap_wrap]
  refine seg_wrap (wpAny_onRaise (wpAny_mono h (fun r s' hr => ?_) fun x s' hx => wpAny_standAt (gone hx)))
  cases r with
  | none => exact hr
  | some v =>
    show Seg _ A R Y n s₀ _ (Sem.wrap _ _ _ _ (letOwnedTupleGo target it v >>= fun _ => assign target env v >>= fun _ => execs body env >>= _)) fs s'
    rw [Sem.bind_eq_wrap', Sem.wrap_wrap]
    refine seg_wrap (wpAny_mono hr (fun _ s1 h1 => ?_) fun x s1 hx => gone hx)
    rw [Sem.bind_eq_wrap', Sem.wrap_wrap]
    refine seg_wrap (wpAny_mono h1 (fun _ s2 h2 => ?_) fun x s2 hx => gone hx)
    rw [Sem.bind_eq_wrap', Sem.wrap_wrap]
    rw [Sem.wrap_congr (execs body env) _ _ (K' := forWent target it body env) (H' := forGone env) (fun f => by cases f <;> rfl) (fun e => by first | exact Sem.bind_eq_wrap _ _ | (show (do noteFrame e env; theTreesLotGoes e : Sem Unit).bind (fun _ => .raise e) = _; rw [Sem.bind_eq_wrap]; rfl))]
    exact h2
end
section
variable {X : Cx}
def tGFor (wi : TI) (g : TG) (tb : TGn) : TGn := fun D ys σ H => wi σ H fun J H1 => ∃ W : Nat → Nat → List V → L2.St → Hp → Prop, (∃ m, W 0 m ys σ H1) ∧ ∀ i m ys σ H, W i m ys σ H →
  (J.stop i H ∧ D.nx ys σ H) ∨ (J.go i H ∧ ∃ N : List V → L2.St → Hp → Prop, (∀ ys' σ' H', N ys' σ' H' → ∃ m', m' < m ∧ W (i + 1) m' ys' σ' H') ∧ ∀ x H', J.yld i H x H' → g x σ H' fun σ2 H2 => tb { D with nx := N, ct := N, bk := D.nx } ys σ2 H2)
theorem gs_for {tg iter : Expr} {body : List Stmt} {wi : TI} {g : TG} {tb : TGn} {pos : Pos} (hp : PassesOwn (model X.prog X.w) X.A X.env X.xe) (hcalm : X.calm = true) (hi : PI X tg iter wi) (hg : PG X tg g) (hb : GSs X body tb)
    (hs : ∀ x, foldedSetIterable iter X.env x = pure x := by intro _; rfl) : GS X (.For tg iter body [] pos) (tGFor wi g tb) := by
  constructor
  intro A S ip R n ys s₀ c fs K J gd lv s σ H D gc hn k hI ht
  obtain ⟨acc, cc, r, I⟩ := hI
  rw [exec_For]
  refine seg_at ?_
  show Seg _ A R _ n s₀ c ((eval iter X.env >>= fun v => foldedSetIterable iter X.env v >>= fun x => standAt iter.pos >>= fun _ => holding [x] (pyIter x) >>= fun it => runOwn (.forLoop tg it body [] X.env) X.env).wrap K J gd lv) fs s
  rw [Sem.bind_eq_wrap', Sem.wrap_wrap]
  refine seg_wrap ?_
  rw [gc.over]
  refine wpAny_mono (hi.run _ s σ H _ I ht) (fun v s1 h1 => ?_) fun x s' hx => k.exc n s₀ x s' hx
  rw [hs v]
  refine seg_at ?_
  show Seg _ A R _ n s₀ c ((holding [v] (pyIter v) >>= fun it => runOwn (.forLoop tg it body [] X.env) X.env).wrap K J gd lv) fs s1
  rw [Sem.bind_eq_wrap', Sem.wrap_wrap]
  refine seg_wrap (wpAny_holding ?_)
  rw [gc.over]
  refine wpAny_mono h1 (fun itv s2 h2 => ?_) fun x s' hx => k.exc n s₀ x s' hx
  obtain ⟨it, fp, tn, Jt, H2, rfl, I2, T, st2, f2, W, ⟨m0, w0⟩, turn⟩ := h2
  have stat : ∀ {acc' : Array Value} {c' : Nat} {H' : Hp}, (∀ b ∈ fp, H' b = none) → ∀ b ∈ fp, FpOk X ((S, lstObj acc' c') :: ip) H' b := fun {acc' c' H'} hn b hb => by
    obtain ⟨_, z2, z3, z4, z5, z6⟩ := f2 b hb
    refine ⟨hn b hb, z2, z3, z4, z5, fun q hq => ?_⟩
    rcases List.mem_append.mp hq with hq | hq
    · exact z6 q (List.mem_append_left _ hq)
    · rcases List.mem_cons.mp hq with hq | hq
      · rw [hq]
        exact z6 (S, lstObj acc cc) (List.mem_append_right _ List.mem_cons_self)
      · exact z6 q (List.mem_append_right _ (List.mem_cons_of_mem _ hq))
  have offS : ∀ b ∈ fp, b ≠ S := fun b hb z => by
    obtain ⟨_, _, _, _, _, z6⟩ := f2 b hb
    exact z6 (S, lstObj acc cc) (List.mem_append_right _ List.mem_cons_self) z.symm
  refine seg_call fun p => ?_
  have gl := fun (kk : Result → Sem PySem.Fin) => gc_loop (k := kk) (c' := .forLoop tg (.ref it) body [] X.env) (l := lv []) (kp := []) (p := p) gc rfl rfl
  have loop : ∀ (m i n : Nat) (ys : List V) (s₀ s : Shared) (σ : L2.St) (H : Hp), n + ys.length = sizeLine → W i m ys σ H → GI X S ip ys σ H s → tn i s.heap → (∀ b ∈ fp, H b = none) →
      Seg (model X.prog X.w) A R (GY X S) n s₀ (.forLoop tg (.ref it) body [] X.env) ((model X.prog X.w).den (.forLoop tg (.ref it) body [] X.env))
        (.ret (fun r => ((match r with | .ok f => (.pure f : Sem Flow) | .error e => .raise e).onRaise (cameBack X.env)).wrap K J gd lv) none (gd false) (lv []) c p [] :: fs) s := by
    intro m
    induction m using Nat.strongRecOn with
    | ind m ih =>
      intro i n ys s₀ s σ H hn w hI st fr
      have ee : ∀ (n : Nat) (s₀ : Shared) (x : Value) (s' : Shared), X.xe x s' → Seg (model X.prog X.w) A R (GY X S) n s₀ (.forLoop tg (.ref it) body [] X.env) (forGone X.env x)
          (.ret (fun r => ((match r with | .ok f => (.pure f : Sem Flow) | .error e => .raise e).onRaise (cameBack X.env)).wrap K J gd lv) none (gd false) (lv []) c p [] :: fs) s' := fun n s₀ x s' hx => by
        refine seg_wrap ?_
        rw [(gl _).over]
        refine wpAny_bind (wpAny_mono (hp x s' hx) (fun _ s'' hcb => wpAny_theTreesLotGoes (seg_leaf (.error x) (seg_cameBack gc k hcb))) fun y s'' hcb => seg_leaf (.error y) (seg_cameBack gc k hcb))
      refine seg_forTurn ?_
      rw [(gl _).over]
      obtain ⟨acc, cc, r, I⟩ := hI
      rcases turn i m ys σ H w with ⟨stop, qn⟩ | ⟨go, N, hN, step⟩
      · refine wpAny_mono (T.done X rfl rfl rfl hcalm i _ s σ H X.xe I (stat fr) st stop) (fun rr s4 hr => ?_) fun x s' hx => ee n s₀ x s' hx
        obtain ⟨rfl, I4⟩ := hr
        exact seg_again rfl (seg_leaf (.ok .next) (k.ok n ys s₀ s4 .next hn ⟨σ, H, ⟨acc, cc, r, I4⟩, qn⟩))
      · refine wpAny_mono (T.item X rfl rfl rfl hcalm i _ s σ H X.xe I (stat fr) st go) (fun rr s4 hr => ?_) fun x s' hx => ee n s₀ x s' hx
        obtain ⟨u, rfl, h4⟩ := hr
        refine wpAny_mono h4 (fun _ s5 h5 => ?_) fun x s' hx => ee n s₀ x s' hx
        obtain ⟨x, H5, I5, r5, y5, st5, fr5⟩ := h5
        have I5' := I5.pinned (stat fr5) (T.obj _ _ st5)
        refine wpAny_mono (hg.run _ s5 σ H5 x u _ I5' r5 (step x H5 y5)) (fun _ s6 h6 => ?_) fun x s' hx => ee n s₀ x s' hx
        obtain ⟨σ6, H6, I6, q6⟩ := h6
        have gi : ∀ {ys' : List V} {σ7 : L2.St} {H7 : Hp} {s7 : Shared}, GI X S (ip ++ pinsAt fp s5.heap) ys' σ7 H7 s7 → GI X S ip ys' σ7 H7 s7 := fun ⟨a, b, r', I'⟩ => ⟨a, b, r', (show L2.Inv X (((S, lstObj a b) :: ip) ++ pinsAt fp s5.heap) _ _ _ from I').unpinned⟩
        have at5 : ∀ {ys' : List V} {σ7 : L2.St} {H7 : Hp} {s7 : Shared}, GI X S (ip ++ pinsAt fp s5.heap) ys' σ7 H7 s7 → tn (i + 1) s7.heap ∧ ∀ b ∈ fp, H7 b = none := fun ⟨a, b, r', I'⟩ => by
          refine ⟨T.keep _ _ _ st5 fun d hd o e => (I'.pin (d, o) ?_).1, fun d hd => ?_⟩
          · exact List.mem_append_right _ (List.mem_cons_of_mem _ (List.mem_append_right _ (mem_pinsAt hd e)))
          · obtain ⟨o, e, _⟩ := T.obj _ _ st5 d hd
            exact (I'.pin (d, o) (List.mem_append_right _ (List.mem_cons_of_mem _ (List.mem_append_right _ (mem_pinsAt hd e))))).2.1
        have gc' : GC X S (ip ++ pinsAt fp s5.heap) A (.forLoop tg (.ref it) body [] X.env) (.ret (fun r => ((match r with | .ok f => (.pure f : Sem Flow) | .error e => .raise e).onRaise (cameBack X.env)).wrap K J gd lv) none (gd false) (lv []) c p [] :: fs) id :=
          { gl _ with ip := fun q hq => (List.mem_append.mp hq).elim (fun z => gc.ip q z) fun z => offS q.1 (of_pinsAt z).1 }
        have I6' : L2.Inv X ((S, lstObj acc cc) :: (ip ++ pinsAt fp s5.heap)) σ6 H6 s6 := I6
        refine hb.run A S (ip ++ pinsAt fp s5.heap) R n ys s₀ _ _ _ _ id id s6 σ6 H6 { D with nx := N, ct := N, bk := D.nx } gc' hn ⟨fun n' ys' s₀' s7 f hn' hs => ?_, fun n' s₀' x s7 hx => ee n' s₀' x s7 hx⟩ ⟨acc, cc, r, I6'⟩ q6
        cases f with
        | next =>
          obtain ⟨σ7, H7, I7, n7⟩ := hs
          obtain ⟨m', hm, w7⟩ := hN ys' σ7 H7 n7
          exact seg_again rfl (ih m' hm (i + 1) n' ys' s₀' s7 σ7 H7 hn' w7 (gi I7) (at5 I7).1 (at5 I7).2)
        | cont =>
          obtain ⟨σ7, H7, I7, n7⟩ := hs
          obtain ⟨m', hm, w7⟩ := hN ys' σ7 H7 n7
          exact seg_again rfl (ih m' hm (i + 1) n' ys' s₀' s7 σ7 H7 hn' w7 (gi I7) (at5 I7).1 (at5 I7).2)
        | brk =>
          obtain ⟨σ7, H7, I7, n7⟩ := hs
          exact seg_leaf (.ok .next) (k.ok n' ys' s₀' s7 .next hn' ⟨σ7, H7, gi I7, n7⟩)
        | ret v =>
          obtain ⟨x7, σ7, H7, I7, r7, n7⟩ := hs
          exact seg_leaf (.ok (.ret v)) (k.ok n' ys' s₀' s7 (.ret v) hn' ⟨x7, σ7, H7, gi I7, r7, n7⟩)
  exact loop m0 0 n ys s₀ s2 σ H2 hn w0 ⟨acc, cc, r, I2⟩ st2 fun b hb => (f2 b hb).1
end
end EB
namespace EB
open PySem PySem.Spec L2 StX ClX
/-! ## the fewest bottles; numbers that come about -/
def sp_fewest (_ : PySem.W.Frag) : Sp := fun vs H Q _ => ∃ (a : Addr) (ts : List Tr) (d : Int), vs = [.ref a, .int d] ∧ Trs H a ts ∧ Fair ts ∧ 1 ≤ ts.length ∧ 0 ≤ d ∧ ∀ F H', IsFew ts d F → Ex H H' → Q (.int F) H'
theorem len_fewest {K} : ∀ vs H Q E, sp_fewest K vs H Q E → vs.length = 2 := by rintro _ _ _ _ ⟨_, _, _, rfl, _⟩; rfl
theorem ap_fewest {K : PySem.W.Frag} {H : Hp} {Q : VK} {E : XK} {a : Addr} {ts : List Tr} {d : Int} (h : Trs H a ts) (f : Fair ts) (l : 1 ≤ ts.length) (d0 : 0 ≤ d) (k : ∀ F H', IsFew ts d F → Ex H H' → Q (.int F) H') : sp_fewest K [.ref a, .int d] H Q E := ⟨a, ts, d, rfl, h, f, l, d0, k⟩
def sp_Offer_fewest_bottles (K : PySem.W.Frag) : Sp := fun vs H Q _ => ∃ (o : Addr) (ts : List Tr) (d : Int), vs = [.ref o, .int d] ∧ OfferAt K H o ts ∧ OfferOk ts ∧ 0 ≤ d ∧ d ≤ 1000000000000000000 ∧ ∀ F H', IsFew ts d F → Ex H H' → Q (.int F) H'
theorem len_Offer_fewest_bottles {K} : ∀ vs H Q E, sp_Offer_fewest_bottles K vs H Q E → vs.length = 2 := by rintro _ _ _ _ ⟨_, _, _, rfl, _⟩; rfl
theorem ap_Offer_fewest_bottles {K : PySem.W.Frag} {H : Hp} {Q : VK} {E : XK} {o : Addr} {ts : List Tr} {d : Int} (h : OfferAt K H o ts) (ok : OfferOk ts) (d0 : 0 ≤ d) (d1 : d ≤ 1000000000000000000) (k : ∀ F H', IsFew ts d F → Ex H H' → Q (.int F) H') : sp_Offer_fewest_bottles K [.ref o, .int d] H Q E := ⟨o, ts, d, rfl, h, ok, d0, d1, k⟩
def sp_Offer_contains (K : PySem.W.Frag) : Sp := fun vs H Q _ => ∃ (o : Addr) (ts : List Tr) (d : Int), vs = [.ref o, .int d] ∧ OfferAt K H o ts ∧ OfferOk ts ∧ 0 ≤ d ∧ ∀ (b : Bool) H', (b = true ↔ Com ts d) → Ex H H' → Q (.bl b) H'
theorem len_Offer_contains {K} : ∀ vs H Q E, sp_Offer_contains K vs H Q E → vs.length = 2 := by rintro _ _ _ _ ⟨_, _, _, rfl, _⟩; rfl
/-- d in o -/
theorem w_inOffer {K : PySem.W.Frag} {H : Hp} {Q : VK} {E : XK} {o : Addr} {ts : List Tr} {d : Int} (h : OfferAt K H o ts) (ok : OfferOk ts) (d0 : 0 ≤ d) (k : ∀ (b : Bool) H', (b = true ↔ Com ts d) → Ex H H' → Q (.bl b) H') : rInO (He.ga K "Offer") (sp_Offer_contains K) E false (.int d) (.ref o) H Q := by
  obtain ⟨dx, a, h1, hT⟩ := id h
  refine ⟨o, rfl, ⟨dx, _, h1⟩, o, ts, d, rfl, h, ok, d0, fun b H' e x => ⟨b, rfl, ?_⟩⟩
  rw [Bool.bne_false]
  exact k b H' e x
theorem w_notInOffer {K : PySem.W.Frag} {H : Hp} {Q : VK} {E : XK} {o : Addr} {ts : List Tr} {d : Int} (h : OfferAt K H o ts) (ok : OfferOk ts) (d0 : 0 ≤ d) (k : ∀ (b : Bool) H', (b = true ↔ Com ts d) → Ex H H' → Q (.bl (!b)) H') : rInO (He.ga K "Offer") (sp_Offer_contains K) E true (.int d) (.ref o) H Q := by
  obtain ⟨dx, a, h1, hT⟩ := id h
  refine ⟨o, rfl, ⟨dx, _, h1⟩, o, ts, d, rfl, h, ok, d0, fun b H' e x => ⟨b, rfl, ?_⟩⟩
  rw [Bool.bne_true]
  exact k b H' e x
end EB
namespace EB
open PySem PySem.Spec L2 StX ClX
/-! ## comparisons -/
def sp_common_of (_ : PySem.W.Frag) : Sp := fun vs H Q _ => ∃ (a b : Addr) (ts us : List Tr), vs = [.ref a, .ref b] ∧ Trs H a ts ∧ Trs H b us ∧ Fair ts ∧ Fair us ∧ 1 ≤ ts.length ∧ 1 ≤ us.length ∧
  ∀ s L g p H', Cmp ts us s L g → s ≤ 3 → L ≤ 3000000 → Ex H H' → H' p = some (.tup [.int s, .int L, .int g]) → Q (.ref p) H'
theorem len_common_of {K} : ∀ vs H Q E, sp_common_of K vs H Q E → vs.length = 2 := by rintro _ _ _ _ ⟨_, _, _, _, rfl, _⟩; rfl
theorem ap_common_of {K : PySem.W.Frag} {H : Hp} {Q : VK} {E : XK} {a b : Addr} {ts us : List Tr} (h1 : Trs H a ts) (h2 : Trs H b us) (f1 : Fair ts) (f2 : Fair us) (l1 : 1 ≤ ts.length) (l2 : 1 ≤ us.length)
    (k : ∀ s L g p H', Cmp ts us s L g → s ≤ 3 → L ≤ 3000000 → Ex H H' → H' p = some (.tup [.int s, .int L, .int g]) → Q (.ref p) H') : sp_common_of K [.ref a, .ref b] H Q E := ⟨a, b, ts, us, rfl, h1, h2, f1, f2, l1, l2, k⟩
def sp_is_never_more (_ : PySem.W.Frag) : Sp := fun vs H Q _ => ∃ (a b : Addr) (ts us : List Tr), vs = [.ref a, .ref b] ∧ Trs H a ts ∧ Trs H b us ∧ Fair ts ∧ Fair us ∧ 1 ≤ ts.length ∧ 1 ≤ us.length ∧ ∀ (z : Bool) H', (z = true ↔ Never ts us) → Ex H H' → Q (.bl z) H'
theorem len_is_never_more {K} : ∀ vs H Q E, sp_is_never_more K vs H Q E → vs.length = 2 := by rintro _ _ _ _ ⟨_, _, _, _, rfl, _⟩; rfl
theorem ap_is_never_more {K : PySem.W.Frag} {H : Hp} {Q : VK} {E : XK} {a b : Addr} {ts us : List Tr} (h1 : Trs H a ts) (h2 : Trs H b us) (o1 : OfferOk ts) (o2 : OfferOk us) (k : ∀ (z : Bool) H', (z = true ↔ Never ts us) → Ex H H' → Q (.bl z) H') : sp_is_never_more K [.ref a, .ref b] H Q E :=
  ⟨a, b, ts, us, rfl, h1, h2, o1.fair, o2.fair, o1.one, o2.one, k⟩
/-- where two first differ, if they do -/
def IsGap (ts us : List Tr) (v : V) : Prop := (v = .non ∧ Same ts us) ∨ ∃ n : Int, v = .int n ∧ 0 ≤ n ∧ drk ts n ≠ drk us n ∧ ∀ m, 0 ≤ m → m < n → drk ts m = drk us m
def sp_first_gap (_ : PySem.W.Frag) : Sp := fun vs H Q _ => ∃ (a b : Addr) (ts us : List Tr), vs = [.ref a, .ref b] ∧ Trs H a ts ∧ Trs H b us ∧ Fair ts ∧ Fair us ∧ 1 ≤ ts.length ∧ 1 ≤ us.length ∧ ∀ v H', IsGap ts us v → Ex H H' → Q v H'
theorem len_first_gap {K} : ∀ vs H Q E, sp_first_gap K vs H Q E → vs.length = 2 := by rintro _ _ _ _ ⟨_, _, _, _, rfl, _⟩; rfl
theorem ap_first_gap {K : PySem.W.Frag} {H : Hp} {Q : VK} {E : XK} {a b : Addr} {ts us : List Tr} (h1 : Trs H a ts) (h2 : Trs H b us) (o1 : OfferOk ts) (o2 : OfferOk us) (k : ∀ v H', IsGap ts us v → Ex H H' → Q v H') : sp_first_gap K [.ref a, .ref b] H Q E :=
  ⟨a, b, ts, us, rfl, h1, h2, o1.fair, o2.fair, o1.one, o2.one, k⟩
/-- what the four signs ask -/
def spCmp (K : PySem.W.Frag) (P : List Tr → List Tr → Prop) : Sp := fun vs H Q _ => ∃ (a b : Addr) (ts us : List Tr), vs = [.ref a, .ref b] ∧ OfferAt K H a ts ∧ OfferAt K H b us ∧ OfferOk ts ∧ OfferOk us ∧ ∀ (z : Bool) H', (z = true ↔ P ts us) → Ex H H' → Q (.bl z) H'
theorem lenCmp {K P} : ∀ vs H Q E, spCmp K P vs H Q E → vs.length = 2 := by rintro _ _ _ _ ⟨_, _, _, _, rfl, _⟩; rfl
def sp_Offer_le (K : PySem.W.Frag) : Sp := spCmp K Never
def sp_Offer_lt (K : PySem.W.Frag) : Sp := spCmp K fun ts us => Never ts us ∧ ¬ Same ts us
def sp_Offer_ge (K : PySem.W.Frag) : Sp := spCmp K fun ts us => Never us ts
def sp_Offer_gt (K : PySem.W.Frag) : Sp := spCmp K fun ts us => Never us ts ∧ ¬ Same ts us
theorem len_Offer_le {K} : ∀ vs H Q E, sp_Offer_le K vs H Q E → vs.length = 2 := lenCmp
theorem len_Offer_lt {K} : ∀ vs H Q E, sp_Offer_lt K vs H Q E → vs.length = 2 := lenCmp
theorem len_Offer_ge {K} : ∀ vs H Q E, sp_Offer_ge K vs H Q E → vs.length = 2 := lenCmp
theorem len_Offer_gt {K} : ∀ vs H Q E, sp_Offer_gt K vs H Q E → vs.length = 2 := lenCmp
/-- one sign between two offers -/
theorem w_cmpO {K : PySem.W.Frag} {H : Hp} {Q : VK} {E : XK} {P : List Tr → List Tr → Prop} {a b : Addr} {ts us : List Tr} (h1 : OfferAt K H a ts) (h2 : OfferAt K H b us) (o1 : OfferOk ts) (o2 : OfferOk us) (k : ∀ (z : Bool) H', (z = true ↔ P ts us) → Ex H H' → Q (.bl z) H') :
    rCmpO (He.ga K "Offer") (spCmp K P) E (.ref a) (.ref b) H Q := by
  obtain ⟨dx, p, q1, _⟩ := id h1
  obtain ⟨dy, r, q2, _⟩ := id h2
  exact ⟨a, b, rfl, rfl, ⟨dx, _, q1⟩, ⟨dy, _, q2⟩, a, b, ts, us, rfl, h1, h2, o1, o2, fun z H' e x => ⟨z, rfl, k z H' e x⟩⟩
end EB
namespace EB
open PySem PySem.Spec L2 StX ClX
set_option maxHeartbeats 1000000
/-! ## rounds -/
theorem passE0 {X : Cx} : Passes (L2.CX X.prog X.w) X E0 := by
  rintro pins σ H s e s' I ⟨a, B, H', cls, d, ea, fl, hok, ub, na, os, ag, he⟩
  exact he.elim
theorem noStop0 {K : PySem.W.Frag} : NoStop K E0 := fun _ _ _ z => z.elim
/-- the bottles of each round from the drinks so far and the full bottles on: as long as there are any -/
inductive Rounds (ts : List Tr) (n : Int) : Int → Int → List Int → Prop
  | nil {d : Int} : Rounds ts n d 0 []
  | cons {d f : Int} {fs : List Int} : 0 < f → Rounds ts n (d + f) (bo ts (d + f) - bo ts d) fs → Rounds ts n d f (f :: fs)
theorem Rounds.unique {ts : List Tr} {n : Int} : ∀ {d f : Int} {xs ys : List Int}, Rounds ts n d f xs → Rounds ts n d f ys → xs = ys
  | _, _, _, _, .nil, .nil => rfl
  | _, _, _, _, .nil, .cons h _ => absurd h (by decide)
  | _, _, _, _, .cons h _, .nil => absurd h (by decide)
  | _, _, _, _, .cons _ a, .cons _ b => by rw [a.unique b]
theorem Rounds.same {ts us : List Tr} {n : Int} (h : ∀ d, bo us d = bo ts d) : ∀ {d f : Int} {xs : List Int}, Rounds us n d f xs → Rounds ts n d f xs
  | _, _, _, .nil => .nil
  | _, _, _, .cons p r => .cons p (by
    have q := r.same h
    rw [h, h] at q
    exact q)
def sp_Offer_rounds (K : PySem.W.Frag) : SpG := fun vs H Q _ => ∃ (o : Addr) (ts : List Tr) (n : Int), vs = [.ref o, .int n] ∧ OfferAt K H o ts ∧ OfferOk ts ∧ 0 ≤ n ∧ n ≤ 1000000000000000000 ∧
  ∀ fs H', Rounds ts n 0 n fs → fs.length ≤ 1000 → Ex H H' → Q (fs.map V.int) H'
theorem len_Offer_rounds {K} : ∀ vs H Q E, sp_Offer_rounds K vs H Q E → vs.length = 2 := by rintro _ _ _ _ ⟨_, _, _, rfl, _⟩; rfl
theorem ap_Offer_rounds {K : PySem.W.Frag} {H : Hp} {Q : List V → Hp → Prop} {E : XK} {o : Addr} {ts : List Tr} {n : Int} (h : OfferAt K H o ts) (ok : OfferOk ts) (h1 : 0 ≤ n) (h2 : n ≤ 1000000000000000000) (k : ∀ fs H', Rounds ts n 0 n fs → fs.length ≤ 1000 → Ex H H' → Q (fs.map V.int) H') : sp_Offer_rounds K [.ref o, .int n] H Q E :=
  ⟨o, ts, n, rfl, h, ok, h1, h2, k⟩
end EB
namespace EB
open PySem PySem.Spec L2 StX ClX
set_option maxHeartbeats 1000000
section
variable {K : PySem.W.Frag} {σ : St} {H : Hp} {Q : VK} {E : XK} {a b : Addr} {xs ys : List V}
theorem w_listG {C : Addr} {m : Str} {sp : SpG} {ta : TE} {t : TA} (q : ta σ H fun x H1 => ∃ a dx fs, x = .ref a ∧ H1 a = some (.ins C dx fs) ∧ fs.lookup m = none ∧ t σ H1 fun vs H2 => sp (x :: (vs ++ [])) H2 (fun out H3 => ∀ p, H3 p = none → Q (.ref p) (upd H3 p (.lst out))) E) :
    tListG (tMethG C m sp [] E ta t) σ H Q := q
theorem w_revTv {i : Nat} (h : σ[i]? = some (some (.ref a))) (hs : SqT K H a xs) (k : ∀ p H2, H p = none → Ex H H2 → H2 p = some (.tup xs.reverse) → Q (.ref p) H2) : tRevT K (tVar i) σ H Q := ⟨_, h, a, xs, rfl, hs, w_new1 k⟩
/-- t + u, whatever they hold -/
theorem w_catAny (h1 : H a = some (.tup xs)) (h2 : H b = some (.tup ys)) (z : xs.length + ys.length ≤ 100000) (k : ∀ r H2, Ex H H2 → H2 r = some (.tup (xs ++ ys)) → Q (.ref r) H2) : rCatA K (.ref a) (.ref b) H Q := by
  refine ⟨a, b, xs, ys, rfl, rfl, Evl.st_of h1, Evl.st_of h2, Nat.le_trans z (by decide), fun e => ?_, fun _ e => ?_, fun _ _ p hp => k p _ (Evl.Ex.new hp) upd_same⟩
  · refine k b H (Evl.Ex.refl _) ?_
    rw [e]
    exact h2
  · refine k a H (Evl.Ex.refl _) ?_
    rw [e, List.append_nil]
    exact h1
/-- t[lo:hi], whatever it holds -/
theorem w_slAny {lo hi : Option Int} (h1 : H a = some (.tup xs)) (k : ∀ r H2, Ex H H2 → H2 r = some (.tup (cutV xs lo hi)) → Q (.ref r) H2) : rSlA K (.ref a) lo hi H Q := by
  refine ⟨a, xs, rfl, Evl.st_of h1, fun e => ?_, fun _ p hp => k p _ (Evl.Ex.new hp) upd_same⟩
  refine k a H (Evl.Ex.refl _) ?_
  unfold cutV
  rw [e.1, e.2, List.drop_zero, Nat.sub_zero, List.take_length]
  exact h1
theorem cut_to {k : Nat} (hk : k ≤ xs.length) : cutV xs none (some (k : Int)) = xs.take k := by
  unfold cutV
  rw [HT.sIx_nat, Nat.min_eq_left hk]
  show (xs.drop 0).take (k - 0) = xs.take k
  rw [List.drop_zero, Nat.sub_zero]
theorem cut_from {k : Nat} (hk : k ≤ xs.length) : cutV xs (some (k : Int)) none = xs.drop k := by
  unfold cutV
  rw [HT.sIx_nat, Nat.min_eq_left hk]
  show (xs.drop k).take (xs.length - k) = xs.drop k
  exact List.take_of_length_le (by rw [List.length_drop]; exact Nat.le_refl _)
end
end EB
namespace EB
open PySem PySem.Spec L2 StX ClX
set_option maxHeartbeats 1000000
/-! ## lists of numbers that are changed in place; lists of pairs -/
/-- the first k as f says, the others as g says -/
def mixL (ts : List Tr) (k : Nat) (f g : Tr → Int) : List V := ((ts.take k).map f ++ (ts.drop k).map g).map V.int
section
variable {ts : List Tr} {k : Nat} {f g : Tr → Int} {t : Tr}
theorem mixL_len : (mixL ts k f g).length = ts.length := by
  unfold mixL
  rw [List.length_map, List.length_append, List.length_map, List.length_map, List.length_take, List.length_drop]
  omega
theorem mixL_zero : mixL ts 0 f g = (ts.map g).map V.int := by simp [mixL]
theorem mixL_all : mixL ts ts.length f g = (ts.map f).map V.int := by simp [mixL]
theorem mixL_get (h : ts[k]? = some t) : (mixL ts k f g)[k]? = some (.int (g t)) := by
  obtain ⟨l, e⟩ := List.getElem?_eq_some_iff.mp h
  unfold mixL
  have lt : ((ts.take k).map f).length = k := by
    rw [List.length_map, List.length_take]
    omega
  rw [List.getElem?_map, List.getElem?_append_right (by omega), lt, Nat.sub_self, List.getElem?_map, List.getElem?_drop, Nat.add_zero, h]
  rfl
theorem mixL_set (h : ts[k]? = some t) : (mixL ts k f g).set k (.int (f t)) = mixL ts (k + 1) f g := by
  obtain ⟨l, e⟩ := List.getElem?_eq_some_iff.mp h
  unfold mixL
  have lt : ((ts.take k).map f).length = k := by
    rw [List.length_map, List.length_take]
    omega
  have d : ts.drop k = t :: ts.drop (k + 1) := by rw [← e, List.getElem_cons_drop]
  rw [← List.map_set, List.set_append_right _ _ (by omega), lt, Nat.sub_self, d, List.map_cons, List.set_cons_zero, List.take_succ, h]
  simp
end
theorem ixN_nat {n k : Nat} (h : k < n) : ixN n (k : Int) = some k := by
  have := ixN_pos (n := n) (i := (k : Int)) (by omega) (by omega)
  simpa using this
section
variable {K : PySem.W.Frag} {σ : St} {H : Hp} {Q : VK} {a b d : Addr}
theorem rep_flat {v : V} : ∀ n : Nat, (List.replicate n [v]).flatten = List.replicate n v
  | 0 => rfl
  | n + 1 => by
    rw [List.replicate_succ, List.flatten_cons, rep_flat n, List.replicate_succ]
    rfl
/-- [0] * n -/
theorem w_rep0 {n : Nat} {v : V} (h : H a = some (.lst [v])) (hn : n ≤ 1000) (q : ∀ p H2, H p = none → Ex H H2 → H2 p = some (.lst (List.replicate n v)) → Q (.ref p) H2) : rRep (.ref a) (.int (n : Int)) H Q := by
  refine ⟨a, n, [v], rfl, rfl, h, by omega, by omega, ?_, ?_⟩
  · rw [Int.toNat_natCast, List.length_singleton, Nat.one_mul]
    exact Nat.le_trans hn (by decide)
  · rw [Int.toNat_natCast]
    rw [rep_flat]
    exact w_new1 q
/-- pairs of a text and a number, in a list -/
def pairsD (kvs : List (Str × Int)) : PyData := .list (kvs.map fun p => .tuple [.str p.1, .int p.2])
def PrsAt (H : Hp) (p : Addr) (kvs : List (Str × Int)) : Prop := ∃ ts : List Addr, H p = some (.lst (ts.map V.ref)) ∧ Paired (fun (t : Addr) (q : Str × Int) => H t = some (.tup [.str q.1, .int q.2])) ts kvs
theorem prsPairs {H : Hp} : ∀ {ts : List Addr} {kvs : List (Str × Int)}, Paired (fun (t : Addr) (q : Key × V) => H t = some (.tup [kV q.1, q.2])) ts (dKv kvs) → Paired (fun (t : Addr) (q : Str × Int) => H t = some (.tup [.str q.1, .int q.2])) ts kvs
  | [], [], _ => .nil
  | [], _ :: _, h => nomatch h
  | _ :: _, [], h => nomatch h
  | _ :: _, _ :: _, .cons a r => .cons a (prsPairs r)
theorem prsAll {H : Hp} : ∀ {ts : List Addr} {kvs : List (Str × Int)}, Paired (fun (t : Addr) (q : Str × Int) => H t = some (.tup [.str q.1, .int q.2])) ts kvs → DqAll H (ts.map V.ref) (kvs.map fun p => .tuple [.str p.1, .int p.2])
  | _, _, .nil => .nil
  | _, _, .cons a r => .cons (.tup a (.cons (.str _) (.cons (.int _) .nil))) (prsAll r)
theorem PrsAt.dq {p : Addr} {kvs : List (Str × Int)} (h : PrsAt H p kvs) : Dq H (.ref p) (pairsD kvs) := by
  obtain ⟨ts, h1, h2⟩ := h
  exact .lst h1 (prsAll h2)
theorem prsUp {H H' : Hp} (e : Ex H H') : ∀ {ts : List Addr} {kvs : List (Str × Int)}, Paired (fun (t : Addr) (q : Str × Int) => H t = some (.tup [.str q.1, .int q.2])) ts kvs → Paired (fun (t : Addr) (q : Str × Int) => H' t = some (.tup [.str q.1, .int q.2])) ts kvs
  | _, _, .nil => .nil
  | _, _, .cons a r => .cons (e _ _ a) (prsUp e r)
theorem PrsAt.up {H H' : Hp} {p : Addr} {kvs : List (Str × Int)} (e : Ex H H') (h : PrsAt H p kvs) : PrsAt H' p kvs := by
  obtain ⟨ts, h1, h2⟩ := h
  exact ⟨ts, e _ _ h1, prsUp e h2⟩
theorem prsUpB {H H' : Hp} {l : Addr} {zs : List V} (hl : H l = some (.lst zs)) (e : ExB l H H') : ∀ {ts : List Addr} {kvs : List (Str × Int)}, Paired (fun (t : Addr) (q : Str × Int) => H t = some (.tup [.str q.1, .int q.2])) ts kvs → Paired (fun (t : Addr) (q : Str × Int) => H' t = some (.tup [.str q.1, .int q.2])) ts kvs
  | _, _, .nil => .nil
  | _, _, .cons a r => .cons (e _ _ (ne_of a hl (fun z => nomatch z)) a) (prsUpB hl e r)
theorem PrsAt.upB {H H' : Hp} {p l : Addr} {kvs : List (Str × Int)} {zs : List V} (hl : H l = some (.lst zs)) (n : p ≠ l) (e : ExB l H H') (h : PrsAt H p kvs) : PrsAt H' p kvs := by
  obtain ⟨ts, h1, h2⟩ := h
  exact ⟨ts, e _ _ n h1, prsUpB hl e h2⟩
theorem okD_pairs {kvs : List (Str × Int)} (so : ∀ p ∈ kvs, PyData.strOk p.1 = true) (hl : kvs.length ≤ 1000) (n : Nat) : okD (n + 3) (pairsD kvs) = true := by
  refine Bool.and_eq_true_iff.mpr ⟨decide_eq_true (by rw [List.length_map]; omega), List.all_eq_true.mpr fun x hx => ?_⟩
  obtain ⟨p, hp, rfl⟩ := List.mem_map.mp hx
  have := so p hp
  show (decide (2 ≤ 1000) && (PyData.strOk p.1 && (true && true))) = true
  rw [this]
  rfl
theorem okD_intL {fs : List Int} (h : fs.length ≤ 1000) (n : Nat) : okD (n + 2) (.list (fs.map PyData.int)) = true := by
  refine Bool.and_eq_true_iff.mpr ⟨decide_eq_true (by rw [List.length_map]; omega), List.all_eq_true.mpr fun x hx => ?_⟩
  obtain ⟨i, _, rfl⟩ := List.mem_map.mp hx
  rfl
theorem dq_intL : ∀ {fs : List Int}, DqAll H (fs.map V.int) (fs.map PyData.int)
  | [] => .nil
  | _ :: _ => .cons (.int _) dq_intL
theorem w_listItems {te : TE} (q : te σ H fun x H1 => LiI.rItemsL x H1 Q) : LiI.tListItems te σ H Q := q
theorem w_items {kvs : List (Str × Int)} (h : H d = some (.dK (dKv kvs))) (q : ∀ p H2, H p = none → Ex H H2 → PrsAt H2 p kvs → Q (.ref p) H2) : LiI.rItemsL (.ref d) H Q :=
  ⟨d, _, rfl, h, fun H2 p ts e n _ _ hp ht => q p H2 n e ⟨ts, hp, prsPairs ht⟩⟩
theorem w_listZip {ta : TA} (q : ta σ H fun vs H1 => rZipL K vs H1 Q) : tListZip K ta σ H Q := q
theorem dKv_k (kvs : List (Str × Int)) : (dKv kvs).map (fun q => kV q.1) = kvs.map fun p => V.str p.1 := by
  unfold dKv
  rw [List.map_map]
  rfl
theorem dKv_v (kvs : List (Str × Int)) : (dKv kvs).map (·.2) = kvs.map fun p => V.int p.2 := by
  unfold dKv
  rw [List.map_map]
  rfl
theorem w_zip (kvs : List (Str × Int)) (h1 : SqL K H a (kvs.map fun p => V.str p.1)) (h2 : SqL K H b (kvs.map fun p => V.int p.2)) (q : ∀ p H2, H p = none → Ex H H2 → PrsAt H2 p kvs → Q (.ref p) H2) : rZipL K [.ref a, .ref b] H Q := by
  refine ⟨a, b, dKv kvs, rfl, by rw [dKv_k]; exact h1, by rw [dKv_v]; exact h2, fun H2 p ts e n hp ht => q p H2 n e ⟨ts, hp, prsPairs ht⟩⟩
end
section
variable {K : PySem.W.Frag} {σ : St} {H : Hp} {Q : VK} {g : TG} {te : TE} {vs : List Nat} {a : Addr} {xs : List V}
/-- pairs for each, so far -/
def PrsSo (H H' : Hp) (D : Addr) (kss : List (List (Str × Int))) : Prop := ∃ ps : List Addr, Ex H H' ∧ H' D = some (.lst (ps.map V.ref)) ∧ Paired (fun p kvs => p ≠ D ∧ PrsAt H' p kvs) ps kss
theorem prsSoUp {H H' : Hp} {D : Addr} (e : Ex H H') : ∀ {ps : List Addr} {kss : List (List (Str × Int))}, Paired (fun p kvs => p ≠ D ∧ PrsAt H p kvs) ps kss → Paired (fun p kvs => p ≠ D ∧ PrsAt H' p kvs) ps kss
  | _, _, .nil => .nil
  | _, _, .cons a r => .cons ⟨a.1, a.2.up e⟩ (prsSoUp e r)
theorem prsSoUpB {H H' : Hp} {D : Addr} {zs : List V} (hl : H D = some (.lst zs)) (e : ExB D H H') : ∀ {ps : List Addr} {kss : List (List (Str × Int))}, Paired (fun p kvs => p ≠ D ∧ PrsAt H p kvs) ps kss → Paired (fun p kvs => p ≠ D ∧ PrsAt H' p kvs) ps kss
  | _, _, .nil => .nil
  | _, _, .cons a r => .cons ⟨a.1, a.2.upB hl a.1 e⟩ (prsSoUpB hl e r)
theorem prsSnoc {α β : Type} {F : α → β → Prop} : ∀ {xs : List α} {ys : List β} {x : α} {y : β}, Paired F xs ys → F x y → Paired F (xs ++ [x]) (ys ++ [y])
  | _, _, _, _, .nil, h => .cons h .nil
  | _, _, _, _, .cons a r, h => .cons a (prsSnoc r h)
theorem PrsSo.step {H H1 H2 : Hp} {D p : Addr} {kss : List (List (Str × Int))} {kvs : List (Str × Int)} (hD : H D = none) (s : PrsSo H H1 D kss) (n : H1 p = none) (e : Ex H1 H2) (h : PrsAt H2 p kvs) (l : kss.length ≤ 1000) :
    ∃ acc, H2 D = some (.lst acc) ∧ acc.length < sizeLine ∧ PrsSo H (upd H2 D (.lst (acc ++ [V.ref p]))) D (kss ++ [kvs]) := by
  obtain ⟨ps, e1, hd, hp⟩ := s
  have hd2 := e D _ hd
  have pD : p ≠ D := fun z => by
    rw [z, hd] at n
    cases n
  refine ⟨_, hd2, ?_, ps ++ [p], ExB.ex (Evl.Ex.trans e1 e) hD ExB.upd, by rw [upd_same, List.map_append]; rfl, prsSnoc (prsSoUpB hd2 ExB.upd (prsSoUp e hp)) ⟨pD, h.upB hd2 pD ExB.upd⟩⟩
  rw [List.length_map, pairedLen hp]
  exact Nat.lt_of_le_of_lt l (by decide)
theorem prsSoAll {H : Hp} {D : Addr} : ∀ {ps : List Addr} {kss : List (List (Str × Int))}, Paired (fun p kvs => p ≠ D ∧ PrsAt H p kvs) ps kss → DqAll H (ps.map V.ref) (kss.map pairsD)
  | _, _, .nil => .nil
  | _, _, .cons a r => .cons a.2.dq (prsSoAll r)
theorem PrsSo.dq {H H' : Hp} {D : Addr} {kss : List (List (Str × Int))} (s : PrsSo H H' D kss) : Dq H' (.ref D) (.list (kss.map pairsD)) := by
  obtain ⟨ps, _, hd, hp⟩ := s
  exact .lst hd (prsSoAll hp)
/-- [pairs for target in t], t a tuple -/
theorem w_lcPrsT (kss : List (List (Str × Int))) (hx : SqT K H a xs) (hz : xs.length ≤ 1000) (hy : kss.length = xs.length)
    (hb : ∀ (i : Nat) x kvs, xs[i]? = some x → kss[i]? = some kvs → ∀ H1, Ex H H1 → ∀ R : VK, (∀ p H2, H1 p = none → PrsAt H2 p kvs → Ex H1 H2 → R (.ref p) H2) → g x (wipe σ vs) H1 fun σ2 H2 => wipe σ2 vs = wipe σ vs ∧ te σ2 H2 R)
    (q : ∀ p H2, H p = none → Ex H H2 → Dq H2 (.ref p) (.list (kss.map pairsD)) → Q (.ref p) H2) : lcTT K g tYes te vs σ Q (.ref a) H := by
  refine ⟨a, rfl, ⟨_, hx⟩, fun D hD => ?_⟩
  refine lc_tup (K := K) (a := a) (xs := xs) (fun i H' => PrsSo H H' D (kss.take i)) ⟨[], Evl.Ex.new hD, upd_same, by rw [List.take_zero]; exact .nil⟩ (fun i H' _ ⟨_, e, _⟩ => ex_sqT e hx) (fun i x H' hi s => ?_) (fun H' s => ?_)
  · have lt := (List.getElem?_eq_some_iff.mp hi).1
    have hui : kss[i]? = some kss[i] := List.getElem?_eq_getElem (by omega)
    have e1 : Ex H H' := s.choose_spec.1
    refine hb i x kss[i] hi hui H' e1 _ fun p H2 n h e => ?_
    obtain ⟨acc, a1, a2, a3⟩ := s.step hD n e h (by rw [List.length_take]; omega)
    refine ⟨acc, a1, a2, ?_⟩
    rw [List.take_succ, hui]
    exact a3
  · rw [← hy, List.take_length] at s
    exact q D H' hD s.choose_spec.1 s.dq
theorem w_lcPrsL (kss : List (List (Str × Int))) (hx : SqL K H a xs) (hz : xs.length ≤ 1000) (hy : kss.length = xs.length)
    (hb : ∀ (i : Nat) x kvs, xs[i]? = some x → kss[i]? = some kvs → ∀ H1, Ex H H1 → ∀ R : VK, (∀ p H2, H1 p = none → PrsAt H2 p kvs → Ex H1 H2 → R (.ref p) H2) → g x (wipe σ vs) H1 fun σ2 H2 => wipe σ2 vs = wipe σ vs ∧ te σ2 H2 R)
    (q : ∀ p H2, H p = none → Ex H H2 → Dq H2 (.ref p) (.list (kss.map pairsD)) → Q (.ref p) H2) : lcTL K g tYes te vs σ Q (.ref a) H := by
  refine ⟨a, rfl, ⟨_, hx⟩, fun D hD => ?_⟩
  refine lc_list (K := K) (a := a) (xs := xs) (fun i H' => PrsSo H H' D (kss.take i)) ⟨[], Evl.Ex.new hD, upd_same, by rw [List.take_zero]; exact .nil⟩ (fun i H' _ ⟨_, e, _⟩ => ex_sqL e hx) (fun i x H' hi s => ?_) (fun H' s => ?_)
  · have lt := (List.getElem?_eq_some_iff.mp hi).1
    have hui : kss[i]? = some kss[i] := List.getElem?_eq_getElem (by omega)
    have e1 : Ex H H' := s.choose_spec.1
    refine hb i x kss[i] hi hui H' e1 _ fun p H2 n h e => ?_
    obtain ⟨acc, a1, a2, a3⟩ := s.step hD n e h (by rw [List.length_take]; omega)
    refine ⟨acc, a1, a2, ?_⟩
    rw [List.take_succ, hui]
    exact a3
  · rw [← hy, List.take_length] at s
    exact q D H' hD s.choose_spec.1 s.dq
end
/-- [one[0] for one in trades], zipped with numbers: the numbers of each kind -/
theorem kinds_str {ts : List Tr} {f : Tr → Int} : (kindsOf ts f).map (fun p => V.str p.1) = ts.map fun t => V.str t.1 := by
  unfold kindsOf
  rw [List.map_map]
  rfl
theorem kinds_int {ts : List Tr} {f : Tr → Int} : (kindsOf ts f).map (fun p => V.int p.2) = (ts.map f).map V.int := by
  unfold kindsOf
  rw [List.map_map, List.map_map]
  rfl
theorem okD_kindPairs {ts : List Tr} (ok : OfferOk ts) (so : ∀ t ∈ ts, PyData.strOk t.1 = true) (f g : Tr → Int) : okD 4 (.list [pairsD (kindsOf ts f), pairsD (kindsOf ts g)]) = true := by
  have l := ok.fair.1.1
  have one : ∀ f : Tr → Int, okD 3 (pairsD (kindsOf ts f)) = true := fun f => okD_pairs (n := 0) (fun p hp => by
    obtain ⟨t, ht, rfl⟩ := List.mem_map.mp hp
    exact so t ht) (by unfold kindsOf; rw [List.length_map]; omega)
  show (decide (2 ≤ 6000) && (okD 3 _ && (okD 3 _ && true))) = true
  rw [one f, one g]
  rfl
end EB
namespace EB
open PySem PySem.Spec L2 StX ClX
set_option maxHeartbeats 1000000
/-! ## the same offer in other words -/
structure Alt (ts us : List Tr) : Prop where
  ok : OfferOk us
  bo : ∀ d, bo us d = bo ts d
  per : perd us = perd ts
theorem Alt.nd {ts us : List Tr} (a : Alt ts us) : nd us = nd ts := by
  unfold EB.nd
  rw [a.per, a.bo]
theorem alt_fair {ts us : List Tr} (f : Fair ts) (l : us.length ≤ 3) (g : ∀ t ∈ us, Good t) (h : ∀ d, bo us d = bo ts d) : Fair us := ⟨⟨l, g⟩, by rw [h]; exact f.2⟩
theorem alt_rev {ts : List Tr} (ok : OfferOk ts) : Alt ts ts.reverse := by
  have f := ok.fair
  have g : ∀ t ∈ ts.reverse, Good t := fun t ht => f.1.2 t (List.mem_reverse.mp ht)
  refine ⟨⟨alt_fair f (by rw [List.length_reverse]; exact f.1.1) g fun d => bo_rev d, by rw [List.length_reverse]; exact ok.one, fun t ht => ok.kinds t (List.mem_reverse.mp ht), ?_⟩, fun d => bo_rev d, same_perd f.1.2 g fun d => ?_⟩
  · rw [List.map_reverse]
    exact (List.reverse_perm _).nodup_iff.mpr ok.nodup
  · exact ⟨fun h t ht => h t (List.mem_reverse.mpr ht), fun h t ht => h t (List.mem_reverse.mp ht)⟩
theorem alt_dbl {ts : List Tr} {m : Int} (lt : LawTr m 6 ts) : Alt ts (ts.map dbl) := by
  have ok := lt.ok
  have f := ok.fair
  have g : ∀ t ∈ ts.map dbl, Good t := fun t ht => by
    obtain ⟨u, hu, rfl⟩ := List.mem_map.mp ht
    obtain ⟨a, b, c, d⟩ := f.1.2 u hu
    obtain ⟨e, f⟩ := lt.small u hu
    exact ⟨by show 0 ≤ 2 * u.2.1; omega, by show 2 * u.2.1 ≤ 12; omega, by show 1 ≤ 2 * u.2.2; omega, by show 2 * u.2.2 ≤ 12; omega⟩
  refine ⟨⟨alt_fair f (by rw [List.length_map]; exact f.1.1) g fun d => bo_dbl d, by rw [List.length_map]; exact ok.one, fun t ht => ?_, ?_⟩, fun d => bo_dbl d, same_perd f.1.2 g fun d => ?_⟩
  · obtain ⟨u, hu, rfl⟩ := List.mem_map.mp ht
    exact ok.kinds u hu
  · rw [List.map_map]
    exact ok.nodup
  · constructor
    · intro h t ht
      have q : (2 * t.2.2) ∣ (2 * t.2.1 * d) := h (dbl t) (List.mem_map.mpr ⟨t, ht, rfl⟩)
      rw [Int.mul_assoc] at q
      exact Int.dvd_of_mul_dvd_mul_left (by decide) q
    · intro h t ht
      obtain ⟨u, hu, rfl⟩ := List.mem_map.mp ht
      show (2 * u.2.2) ∣ (2 * u.2.1 * d)
      rw [Int.mul_assoc]
      exact Int.mul_dvd_mul_left 2 (h u hu)
def lab (n : Int) : Tr := ("label", 0, n)
theorem alt_more {ts : List Tr} {k n : Int} (lt : LawTr 2 k ts) (n1 : 1 ≤ n) (n2 : n ≤ 12) : Alt ts (ts ++ [lab n]) := by
  have ok := lt.ok
  have f := ok.fair
  have l2 := lt.len
  have g : ∀ t ∈ ts ++ [lab n], Good t := fun t ht => by
    rcases List.mem_append.mp ht with h | h
    · exact f.1.2 t h
    · rw [List.mem_singleton.mp h]
      exact ⟨Int.le_refl 0, (by decide : (0 : Int) ≤ 12), n1, n2⟩
  refine ⟨⟨alt_fair f (by rw [List.length_append, List.length_singleton]; omega) g fun d => bo_more, by rw [List.length_append, List.length_singleton]; omega, fun t ht => ?_, ?_⟩, fun d => bo_more, same_perd f.1.2 g fun d => ?_⟩
  · rcases List.mem_append.mp ht with h | h
    · exact ok.kinds t h
    · rw [List.mem_singleton.mp h]
      exact ⟨(by decide +kernel : isTK "label" = true), (by decide +kernel : ("label" : Str).length ≤ 8)⟩
  · rw [List.map_append, lt.kinds]
    have : ts.length = 0 ∨ ts.length = 1 ∨ ts.length = 2 := by omega
    show (lawKinds.take ts.length ++ [("label" : Str)]).Nodup
    rcases this with h | h | h <;> rw [h] <;> decide +kernel
  · constructor
    · exact fun h t ht => h t (List.mem_append_left _ ht)
    · intro h t ht
      rcases List.mem_append.mp ht with q | q
      · exact h t q
      · rw [List.mem_singleton.mp q]
        show n ∣ 0 * d
        rw [Int.zero_mul]
        exact Int.dvd_zero n
theorem okD_ints {fs : List Int} (h : fs.length ≤ 1000) (n : Nat) : okD (n + 2) (.list (fs.map PyData.int)) = true := by
  refine Bool.and_eq_true_iff.mpr ⟨decide_eq_true (by rw [List.length_map]; omega), List.all_eq_true.mpr fun x hx => ?_⟩
  obtain ⟨i, _, rfl⟩ := List.mem_map.mp hx
  rfl
theorem dq_ints {H : Hp} : ∀ {fs : List Int}, DqAll H (fs.map V.int) (fs.map PyData.int)
  | [] => .nil
  | _ :: _ => .cons (.int _) dq_ints
end EB
namespace EB
open PySem PySem.Spec L2 StX ClX
theorem Src.upB {H H' : Hp} {h c l : Addr} (s : Src H h c) (nh : l ≠ h) (nc : l ≠ c) (e : ExB l H H') : Src H' h c := by
  obtain ⟨m, k, ns, h1, h2, r⟩ := s.ex
  exact ⟨m, k, ns, e _ _ nh.symm h1, e _ _ nc.symm h2, r⟩
/-- an offer of these trades or of the same in other words -/
def AltAt (K : PySem.W.Frag) (ts : List Tr) (H : Hp) (x : V) : Prop := ∃ o us, x = .ref o ∧ OfferAt K H o us ∧ Alt ts us
end EB
namespace EB
open PySem PySem.Spec L2 StX ClX
set_option maxHeartbeats 1000000
theorem pairedSnoc {α β : Type} {F : α → β → Prop} : ∀ {xs : List α} {ys : List β} {x : α} {y : β}, Paired F xs ys → F x y → Paired F (xs ++ [x]) (ys ++ [y])
  | _, _, _, _, .nil, h => .cons h .nil
  | _, _, _, _, .cons a r, h => .cons a (pairedSnoc r h)
theorem pairedRev {α β : Type} {F : α → β → Prop} : ∀ {xs : List α} {ys : List β}, Paired F xs ys → Paired F xs.reverse ys.reverse
  | _, _, .nil => .nil
  | _, _, .cons a r => by
    rw [List.reverse_cons, List.reverse_cons]
    exact pairedSnoc (pairedRev r) a
/-- [trade for target in t]: new trades, one for each -/
theorem w_lcTrs {K : PySem.W.Frag} {σ : St} {H : Hp} {Q : VK} {g : TG} {te : TE} {vs : List Nat} {a : Addr} {xs : List V} (us : List Tr) (hx : SqT K H a xs) (hz : xs.length ≤ 1000) (hy : us.length = xs.length)
    (hb : ∀ (i : Nat) x t, xs[i]? = some x → us[i]? = some t → ∀ H1, Ex H H1 → ∀ R : VK, (∀ v H2, TrAt H2 v t → Ex H1 H2 → R v H2) → g x (wipe σ vs) H1 fun σ2 H2 => wipe σ2 vs = wipe σ vs ∧ te σ2 H2 R)
    (q : ∀ p H2 zs, H p = none → Ex H H2 → H2 p = some (.lst zs) → Paired (TrAt H2) zs us → Q (.ref p) H2) : lcTT K g tYes te vs σ Q (.ref a) H := by
  refine ⟨a, rfl, ⟨_, hx⟩, fun D hD => ?_⟩
  refine lc_tup (K := K) (a := a) (xs := xs) (fun i H' => ∃ zs, Ex H H' ∧ H' D = some (.lst zs) ∧ Paired (TrAt H') zs (us.take i)) ⟨[], Evl.Ex.new hD, upd_same, by rw [List.take_zero]; exact .nil⟩ (fun i H' _ ⟨_, e, _⟩ => ex_sqT e hx) ?_ ?_
  · rintro i x H' hi ⟨zs, e, hd, hp⟩
    have lt := (List.getElem?_eq_some_iff.mp hi).1
    have hui : us[i]? = some us[i] := List.getElem?_eq_getElem (by omega)
    refine hb i x us[i] hi hui H' e _ fun v H2 tv e2 => ?_
    have hd2 := e2 D _ hd
    have lz := pairedLen hp
    rw [List.length_take] at lz
    refine ⟨zs, hd2, Nat.lt_of_le_of_lt (show zs.length ≤ 1000 by omega) (by decide), zs ++ [v], ExB.ex (Evl.Ex.trans e e2) hD ExB.upd, upd_same, ?_⟩
    rw [List.take_succ, hui]
    exact pairedSnoc (trsUpB hd2 (fun _ z => nomatch z) ExB.upd (trsUp e2 hp)) (tv.upB hd2 (fun _ z => nomatch z) ExB.upd)
  · rintro H' ⟨zs, e, hd, hp⟩
    rw [← hy, List.take_length] at hp
    exact q D H' zs hD e hd hp
end EB
namespace EB
open PySem PySem.Spec L2 StX ClX
/-- one piece less of a kind, if there is one -/
def sml (t : Tr) : Tr := (t.1, if t.2.1 - 1 > 0 then t.2.1 - 1 else 0, t.2.2)
theorem bo_app {xs ys : List Tr} {d : Int} : bo (xs ++ ys) d = bo xs d + bo ys d := by
  unfold bo
  rw [List.map_append, List.sum_append]
theorem split_at {ts : List Tr} {k : Nat} {t : Tr} (h : ts[k]? = some t) : ts = ts.take k ++ [t] ++ ts.drop (k + 1) := by
  obtain ⟨l, e⟩ := List.getElem?_eq_some_iff.mp h
  rw [List.append_assoc, ← e, List.singleton_append, List.getElem_cons_drop, List.take_append_drop]
theorem less_ok {ts : List Tr} {k : Nat} {t : Tr} (ok : OfferOk ts) (h : ts[k]? = some t) : OfferOk (ts.take k ++ [sml t] ++ ts.drop (k + 1)) ∧ ∀ d, 0 ≤ d → bo (ts.take k ++ [sml t] ++ ts.drop (k + 1)) d ≤ bo ts d := by
  have f := ok.fair
  have sp := split_at h
  have gt := f.1.2 t (List.mem_of_getElem? h)
  obtain ⟨g1, g2, g3, g4⟩ := gt
  have le : ∀ d, 0 ≤ d → bo (ts.take k ++ [sml t] ++ ts.drop (k + 1)) d ≤ bo ts d := fun d d0 => by
    have e : bo ts d = bo (ts.take k ++ [t] ++ ts.drop (k + 1)) d := by rw [← sp]
    rw [e, bo_app, bo_app, bo_app, bo_app]
    have one : bo [sml t] d ≤ bo [t] d := by
      rw [bo_cons, bo_cons]
      refine Int.add_le_add_right (Int.ediv_le_ediv (show 0 < t.2.2 by omega) (Int.mul_le_mul_of_nonneg_right ?_ d0)) _
      show (if t.2.1 - 1 > 0 then t.2.1 - 1 else 0) ≤ t.2.1
      split <;> omega
    omega
  have mem : ∀ u ∈ ts.take k ++ [sml t] ++ ts.drop (k + 1), u = sml t ∨ u ∈ ts := fun u hu => by
    rcases List.mem_append.mp hu with hu | hu
    · rcases List.mem_append.mp hu with hu | hu
      · exact .inr (List.mem_of_mem_take hu)
      · exact .inl (List.mem_singleton.mp hu)
    · exact .inr (List.mem_of_mem_drop hu)
  have len : (ts.take k ++ [sml t] ++ ts.drop (k + 1)).length = ts.length := by
    have := congrArg List.length sp
    simp only [List.length_append, List.length_singleton] at this ⊢
    omega
  have kd : (ts.take k ++ [sml t] ++ ts.drop (k + 1)).map (·.1) = ts.map (·.1) := by
    have e := congrArg (List.map (·.1)) sp
    rw [e]
    simp only [List.map_append]
    rfl
  have w := le 27720 (by decide)
  have w2 := f.2
  refine ⟨⟨⟨⟨by rw [len]; exact f.1.1, fun u hu => ?_⟩, by omega⟩, by rw [len]; exact ok.one, fun u hu => ?_, by rw [kd]; exact ok.nodup⟩, le⟩
  · rcases mem u hu with rfl | hu
    · refine ⟨?_, ?_, g3, g4⟩
      · show 0 ≤ (if t.2.1 - 1 > 0 then t.2.1 - 1 else 0)
        split <;> omega
      · show (if t.2.1 - 1 > 0 then t.2.1 - 1 else 0) ≤ 12
        split <;> omega
    · exact f.1.2 u hu
  · rcases mem u hu with rfl | hu
    · exact ok.kinds t (List.mem_of_getElem? h)
    · exact ok.kinds u hu
end EB
namespace EB
open PySem PySem.Spec L2 StX ClX
theorem pairedApp {α β : Type} {F : α → β → Prop} : ∀ {xs zs : List α} {ys ws : List β}, Paired F xs ys → Paired F zs ws → Paired F (xs ++ zs) (ys ++ ws)
  | _, _, _, _, .nil, h => h
  | _, _, _, _, .cons a r, h => .cons a (pairedApp r h)
theorem pairedTake {α β : Type} {F : α → β → Prop} : ∀ (n : Nat) {xs : List α} {ys : List β}, Paired F xs ys → Paired F (xs.take n) (ys.take n)
  | 0, _, _, _ => .nil
  | _ + 1, _, _, .nil => .nil
  | n + 1, _, _, .cons a r => .cons a (pairedTake n r)
theorem pairedDrop {α β : Type} {F : α → β → Prop} : ∀ (n : Nat) {xs : List α} {ys : List β}, Paired F xs ys → Paired F (xs.drop n) (ys.drop n)
  | 0, _, _, h => h
  | _ + 1, _, _, .nil => .nil
  | n + 1, _, _, .cons _ r => pairedDrop n r
end EB
namespace EB
open PySem PySem.Spec L2 StX ClX
set_option maxHeartbeats 1000000
/-! ## lists of numbers, compared -/
theorem noDics_ints : ∀ ys : List Int, noDics (ys.map PyData.int) = true
  | [] => rfl
  | _ :: ys => by
    show (true && noDics (ys.map PyData.int)) = true
    rw [noDics_ints ys]
    rfl
theorem eqv_ints : ∀ ys zs : List Int, PyData.eqvAll (ys.map PyData.int) (zs.map PyData.int) = decide (ys = zs)
  | [], [] => rfl
  | [], _ :: _ => rfl
  | _ :: _, [] => rfl
  | y :: ys, z :: zs => by
    have ih := eqv_ints ys zs
    rw [List.map_cons, List.map_cons]
    show (PyData.eqv (.int y) (.int z) && PyData.eqvAll (ys.map PyData.int) (zs.map PyData.int)) = _
    rw [ih]
    by_cases h : y = z
    · subst h
      by_cases g : ys = zs
      · simp [g, PyData.eqv]
      · simp [g, PyData.eqv]
    · simp [h, PyData.eqv]
section
variable {K : PySem.W.Frag} {H : Hp} {Q : VK} {a b : Addr} {ys zs : List Int}
theorem dqI : ∀ {fs : List Int}, DqAll H (fs.map V.int) (fs.map PyData.int)
  | [] => .nil
  | _ :: _ => .cons (.int _) dqI
theorem shapedI (l : ys.length ≤ 1000) : SeqAt.shaped (.list (ys.map PyData.int)) = true := by
  refine okD_shaped (n := 2) ?_ (noDics_ints ys) (by decide)
  refine Bool.and_eq_true_iff.mpr ⟨decide_eq_true (by rw [List.length_map]; omega), List.all_eq_true.mpr fun x hx => ?_⟩
  obtain ⟨i, _, rfl⟩ := List.mem_map.mp hx
  rfl
theorem w_eqInts (ys zs : List Int) (h1 : H a = some (.lst (ys.map V.int))) (h2 : H b = some (.lst (zs.map V.int))) (l1 : ys.length ≤ 1000) (l2 : zs.length ≤ 1000) (q : Q (.bl (decide (ys = zs))) H) : rEqD K (.ref a) (.ref b) H Q := by
  refine w_eqD (d := .list (ys.map PyData.int)) (e := .list (zs.map PyData.int)) (Dq.dp _ _ (noDics_ints ys) (.lst h1 dqI)) (Dq.dp _ _ (noDics_ints zs) (.lst h2 dqI)) (shapedI l1) (shapedI l2) ?_
  show Q (.bl (PyData.eqvAll _ _)) H
  rw [eqv_ints]
  exact q
theorem w_neInts (ys zs : List Int) (h1 : H a = some (.lst (ys.map V.int))) (h2 : H b = some (.lst (zs.map V.int))) (l1 : ys.length ≤ 1000) (l2 : zs.length ≤ 1000) (q : Q (.bl (!decide (ys = zs))) H) : rNeD K (.ref a) (.ref b) H Q := by
  refine w_neD (d := .list (ys.map PyData.int)) (e := .list (zs.map PyData.int)) (Dq.dp _ _ (noDics_ints ys) (.lst h1 dqI)) (Dq.dp _ _ (noDics_ints zs) (.lst h2 dqI)) (shapedI l1) (shapedI l2) ?_
  show Q (.bl (!PyData.eqvAll _ _)) H
  rw [eqv_ints]
  exact q
/-- two roads to one place, where C holds -/
theorem w_joinC {A : Prop} {P : Hp → Prop} (C : Hp → Prop) (main : (∀ H', C H' → P H') → A) (fin : ∀ H', C H' → P H') : A := main fin
end
/-- all but a place that is new is kept -/
theorem SrcUp.exB {H0 H7 H8 : Hp} {h c D : Addr} (s : Src H0 h c) (hD : H0 D = none) (u : SrcUp h c H0 H7) (e : ExB D H7 H8) : SrcUp h c H0 H8 := by
  obtain ⟨nh, nc⟩ := s.apart hD
  obtain ⟨m, k, ns, a1, a2, a3⟩ := u.src.ex
  exact ⟨⟨m, k, ns, e _ _ nh.symm a1, e _ _ nc.symm a2, a3⟩, fun a x ah ac hx => e a x (ne_of_none hx hD) (u.keep a x ah ac hx)⟩
section
variable {K : PySem.W.Frag} {σ : St} {H : Hp} {Q : VK} {g : TG} {te : TE} {ts : TA} {vs : List Nat}
/-- [e for k in range(n)], its elements told -/
theorem w_lcRa {n : Nat} (y : Nat → V) (hn : n ≤ 100000) (ht : ∀ R : List V → Hp → Prop, R [.int (n : Int)] H → ts σ H R)
    (hb : ∀ (i : Nat) H1, i < n → Ex H H1 → ∀ R : VK, (∀ H2, Ex H1 H2 → R (y i) H2) → g (.int i) (wipe σ vs) H1 fun σ2 H2 => wipe σ2 vs = wipe σ vs ∧ te σ2 H2 R)
    (q : ∀ p H2, H p = none → Ex H H2 → H2 p = some (.lst ((List.range n).map y)) → Q (.ref p) H2) : tLc (iRng1 ts) g tYes te vs σ H Q := by
  refine ht _ ⟨n, rfl, by omega, by omega, fun D hD => ?_⟩
  have e0 : ((n : Int)).toNat = n := by omega
  rw [e0]
  refine lc_range (lo := 0) (n := n) (fun i H' => Ex H H' ∧ H' D = some (.lst ((List.range i).map y))) ⟨Evl.Ex.new hD, upd_same⟩ (fun i H1 hi p => ?_) (fun H2 p => q D H2 hD p.1 p.2)
  have e : (0 : Int) + (i : Int) = i := Int.zero_add _
  rw [e]
  refine hb i H1 hi p.1 _ fun H2 e2 => ?_
  refine ⟨_, e2 D _ p.2, ?_, ExB.ex (Evl.Ex.trans p.1 e2) hD ExB.upd, ?_⟩
  · rw [List.length_map, List.length_range]
    exact Nat.lt_of_lt_of_le hi (Nat.le_trans hn (by decide))
  · rw [upd_same, List.range_succ, List.map_append]
    rfl
end
end EB
namespace EB
open PySem PySem.Spec L2 StX ClX
set_option maxHeartbeats 1000000
/-! ## comparisons for ever, as the law asks them -/
theorem lcm870 {x y : Int} (x0 : 0 < x) (x1 : x ≤ 30) (y0 : 0 < y) (y1 : y ≤ 30) : lcmI x y ≤ 870 := by
  have all : ∀ a b : Fin 30, lcmI ((a.val : Int) + 1) ((b.val : Int) + 1) ≤ 870 := by decide +kernel
  have := all ⟨(x - 1).toNat, by omega⟩ ⟨(y - 1).toNat, by omega⟩
  have ex : (((x - 1).toNat : Nat) : Int) + 1 = x := by omega
  have ey : (((y - 1).toNat : Nat) : Int) + 1 = y := by omega
  simp only [ex, ey] at this
  exact this
/-- an offer of which drinks repeat after thirty bottles at most -/
structure Sm (ts : List Tr) : Prop where
  ok : OfferOk ts
  le : nd ts ≤ 30
theorem lcm66 : ∀ a b : Fin 6, lcmI 1 ((a.val : Int) + 1) ≤ 30 ∧ lcmI (lcmI 1 ((a.val : Int) + 1)) ((b.val : Int) + 1) ≤ 30 := by decide +kernel
theorem perd30 {ts : List Tr} (l : ts.length ≤ 2) (g : ∀ t ∈ ts, Good t ∧ t.2.2 ≤ 6) : perd ts ≤ 30 := by
  have one : ∀ t ∈ ts, ∃ a : Fin 6, pc t = (a.val : Int) + 1 := fun t ht => by
    obtain ⟨gt, l6⟩ := g t ht
    have p := pc_pos gt
    have q := Int.le_of_dvd (show 0 < t.2.2 by have := gt.2.2.1; omega) (pc_dvd (t := t))
    exact ⟨⟨(pc t - 1).toNat, by omega⟩, by show pc t = (((pc t - 1).toNat : Nat) : Int) + 1; omega⟩
  match ts, l, one with
  | [], _, _ => show (1 : Int) ≤ 30; decide
  | [t], _, one =>
    obtain ⟨a, ha⟩ := one t (by simp)
    show lcmI 1 (pc t) ≤ 30
    rw [ha]
    exact (lcm66 a a).1
  | [t, u], _, one =>
    obtain ⟨a, ha⟩ := one t (by simp)
    obtain ⟨b, hb⟩ := one u (by simp)
    show lcmI (lcmI 1 (pc t)) (pc u) ≤ 30
    rw [ha, hb]
    exact (lcm66 a b).2
  | _ :: _ :: _ :: _, l, _ => simp at l
theorem sm_of {ts : List Tr} (ok : OfferOk ts) (l : ts.length ≤ 2) (s : ∀ t ∈ ts, t.2.2 ≤ 6) : Sm ts := by
  have f := ok.fair
  have p := perd30 l fun t ht => ⟨f.1.2 t ht, s t ht⟩
  have b := bo_nonneg f.1.2 (d := perd ts) (by have := perd_pos f.1.2; omega)
  exact ⟨ok, by unfold nd; omega⟩
section
variable {ts us : List Tr}
theorem cmp870 (a : Sm ts) (b : Sm us) : ∃ s L g, Cmp ts us s L g ∧ s ≤ 3 ∧ L ≤ 870 := by
  obtain ⟨x, hx⟩ := std_ex a.ok.fair a.ok.one
  obtain ⟨y, hy⟩ := std_ex b.ok.fair b.ok.one
  have x3 := hx.three
  have y3 := hy.three
  exact ⟨_, _, _, cmp_of a.ok.fair b.ok.fair hx hy, by split <;> omega, lcm870 (nd_pos a.ok.fair) a.le (nd_pos b.ok.fair) b.le⟩
/-- the differences for few bottles -/
@[irreducible] noncomputable def gapsI (ts us : List Tr) : List Int := (List.range 1000).map fun n : Nat => drk ts n - drk us n
theorem gaps_len : (gapsI ts us).length = 1000 := by
  unfold gapsI
  rw [List.length_map, List.length_range]
theorem gaps_get {k : Nat} (h : k < 1000) : (gapsI ts us)[k]? = some (drk ts k - drk us k) := by
  unfold gapsI
  rw [List.getElem?_map, List.getElem?_range h]
  rfl
theorem gaps_none {p : Int → Bool} : (gapsI ts us).filter p = [] ↔ ∀ k : Nat, k < 1000 → p (drk ts k - drk us k) = false := by
  rw [List.filter_eq_nil_iff]
  constructor
  · intro h k hk
    have := h _ (List.mem_of_getElem? (gaps_get hk))
    simpa using this
  · intro h x hx
    unfold gapsI at hx
    obtain ⟨k, hk, rfl⟩ := List.mem_map.mp hx
    simp [h k (List.mem_range.mp hk)]
theorem gaps_late {p : Int → Bool} : ((gapsI ts us).drop 100).filter p = [] ↔ ∀ k : Nat, 100 ≤ k → k < 1000 → p (drk ts k - drk us k) = false := by
  rw [List.filter_eq_nil_iff]
  constructor
  · intro h k h1 hk
    have e : ((gapsI ts us).drop 100)[k - 100]? = some (drk ts k - drk us k) := by
      rw [List.getElem?_drop, show 100 + (k - 100) = k by omega]
      exact gaps_get hk
    have := h _ (List.mem_of_getElem? e)
    simpa using this
  · intro h x hx
    obtain ⟨i, hi⟩ := List.mem_iff_getElem?.mp hx
    rw [List.getElem?_drop] at hi
    have l := (List.getElem?_eq_some_iff.mp hi).1
    rw [gaps_len] at l
    rw [gaps_get l] at hi
    obtain rfl := Option.some.inj hi
    rw [h (100 + i) (by omega) l]
    decide
theorem gaps_neg : (gapsI ts us).map (fun x => 0 - x) = gapsI us ts := by
  unfold gapsI
  rw [List.map_map]
  refine List.map_congr_left fun n _ => ?_
  show 0 - (drk ts n - drk us n) = drk us n - drk ts n
  omega
/-- the numbers at which they differ -/
@[irreducible] noncomputable def diffs (ts us : List Tr) : List Nat := (List.range 1000).filter fun n : Nat => !decide (drk ts n - drk us n = 0)
theorem range_head {n m : Nat} {c : Nat → Bool} {r : List Nat} (h : (List.range n).filter c = m :: r) : m < n ∧ c m = true ∧ ∀ k, k < m → c k = false := by
  have hm : m ∈ (List.range n).filter c := by rw [h]; exact List.mem_cons_self
  obtain ⟨a, b⟩ := List.mem_filter.mp hm
  refine ⟨List.mem_range.mp a, b, fun k hk => ?_⟩
  cases q : c k with
  | false => rfl
  | true =>
    have hk2 : k ∈ (List.range n).filter c := List.mem_filter.mpr ⟨List.mem_range.mpr (by have := List.mem_range.mp a; omega), q⟩
    have srt : ((List.range n).filter c).Pairwise (· < ·) := List.pairwise_lt_range.filter _
    rw [h] at hk2 srt
    rcases List.mem_cons.mp hk2 with e | e
    · omega
    · have := (List.pairwise_cons.mp srt).1 k e
      omega
theorem diffs_first (a : Sm ts) (b : Sm us) {v : V} (h : IsGap ts us v) : (diffs ts us = [] → v = .non) ∧ ∀ m r, diffs ts us = m :: r → v = .int m := by
  obtain ⟨s, L, g, c, s3, l8⟩ := cmp870 a b
  have s0 := c.s0
  have l0 := c.l0
  unfold diffs
  constructor
  · intro e
    have all : ∀ n : Int, 0 ≤ n → n < 1000 → drk ts n = drk us n := fun n n0 n1 => by
      have := (List.filter_eq_nil_iff.mp e) n.toNat (List.mem_range.mpr (by omega))
      rw [Int.toNat_of_nonneg n0] at this
      simp at this
      omega
    rcases h with ⟨h, _⟩ | ⟨n, rfl, n0, ne, _⟩
    · exact h
    · exact absurd (c.same (fun m m0 m1 => all m m0 (by omega)) n n0) ne
  · intro m r e
    obtain ⟨m1, m2, m3⟩ := range_head e
    have m2' : ¬ drk ts m - drk us m = 0 := by simpa using m2
    rcases h with ⟨_, h⟩ | ⟨n, rfl, n0, ne, lt⟩
    · exact absurd (h m (by omega)) (by omega)
    · have a : ¬ (m : Int) < n := fun z => m2' (by have := lt m (by omega) z; omega)
      have b : ¬ n < (m : Int) := fun z => by
        have := m3 n.toNat (by omega)
        rw [Int.toNat_of_nonneg n0] at this
        simp at this
        omega
      have : n = (m : Int) := by omega
      rw [this]
theorem diffs_same (a : Sm ts) (b : Sm us) : diffs ts us = [] ↔ Same ts us := by
  obtain ⟨s, L, g, c, s3, l8⟩ := cmp870 a b
  have s0 := c.s0
  have l0 := c.l0
  unfold diffs
  constructor
  · intro e
    refine c.same fun n n0 n1 => ?_
    have := (List.filter_eq_nil_iff.mp e) n.toNat (List.mem_range.mpr (by omega))
    rw [Int.toNat_of_nonneg n0] at this
    simp at this
    omega
  · intro h
    refine List.filter_eq_nil_iff.mpr fun k hk => ?_
    have := h k (by omega)
    simp
    omega
theorem never_iff (a : Sm ts) (b : Sm us) : Never ts us ↔ rateI ts us ≤ 0 ∧ (gapsI ts us).filter (fun x => decide (0 < x)) = [] := by
  obtain ⟨s, L, g, c, s3, l8⟩ := cmp870 a b
  have s0 := c.s0
  have l0 := c.l0
  have sg := c.sign a.ok.fair b.ok.fair a.ok.one b.ok.one
  rw [gaps_none]
  constructor
  · intro h
    refine ⟨?_, fun k _ => decide_eq_false (by have := h k (by omega); omega)⟩
    by_cases q : 0 < rateI ts us
    · exact absurd h (c.more (sg.1.mpr q))
    · omega
  · rintro ⟨h1, h2⟩
    refine c.never ?_ fun n n0 n1 => ?_
    · by_cases q : 0 < g
      · have := sg.1.mp q
        omega
      · omega
    · have := of_decide_eq_false (h2 n.toNat (by omega))
      rw [Int.toNat_of_nonneg n0] at this
      omega
theorem rate_swap : rateI us ts = - rateI ts us := by
  unfold rateI
  omega
theorem never_iff' (a : Sm ts) (b : Sm us) : Never us ts ↔ 0 ≤ rateI ts us ∧ (gapsI ts us).filter (fun x => decide (x < 0)) = [] := by
  rw [never_iff b a, rate_swap, gaps_none, gaps_none]
  constructor
  · rintro ⟨h1, h2⟩
    exact ⟨by omega, fun k hk => decide_eq_false (by have := of_decide_eq_false (h2 k hk); omega)⟩
  · rintro ⟨h1, h2⟩
    exact ⟨by omega, fun k hk => decide_eq_false (by have := of_decide_eq_false (h2 k hk); omega)⟩
/-- none is told just where the law expects none -/
theorem bet_none (a : Sm ts) (b : Sm us) {v : V} (h : IsBet ts us v) (q : rateI ts us < 0 ∨ rateI ts us = 0 ∧ ((gapsI ts us).drop 100).filter (fun x => decide (x ≤ 0)) ≠ []) : v = .non := by
  obtain ⟨s, L, g, c, s3, l8⟩ := cmp870 a b
  have sg := c.sign a.ok.fair b.ok.fair a.ok.one b.ok.one
  have w : Worse ts us := by
    rcases q with q | ⟨q, ne⟩
    · exact c.worse (sg.2.mpr q)
    · have ex : ∃ k : Nat, 100 ≤ k ∧ k < 1000 ∧ drk ts k - drk us k ≤ 0 := by
        refine Classical.byContradiction fun no => ne (gaps_late.mpr fun k h1 h2 => decide_eq_false fun z => no ⟨k, h1, h2, z⟩)
      obtain ⟨k, h1, _, h3⟩ := ex
      exact c.worse0 (by have := sg.1; omega) (n := k) (by omega) (by omega)
  rcases h with ⟨h, _⟩ | ⟨F, rfl, f1, _, f3, _⟩
  · exact h
  · obtain ⟨n, n1, _, n3⟩ := w F
    have := f3 n n1
    omega
theorem bet_some (a : Sm ts) (b : Sm us) {v : V} (h : IsBet ts us v) (q : ¬ (rateI ts us < 0 ∨ rateI ts us = 0 ∧ ((gapsI ts us).drop 100).filter (fun x => decide (x ≤ 0)) ≠ [])) :
    ∃ F : Int, v = .int F ∧ 1 ≤ F ∧ F ≤ 1000000000000000 ∧ (∀ n, F ≤ n → drk us n < drk ts n) ∧ drk ts (F - 1) ≤ drk us (F - 1) := by
  obtain ⟨s, L, g, c, s3, l8⟩ := cmp870 a b
  have s0 := c.s0
  have l0 := c.l0
  have sg := c.sign a.ok.fair b.ok.fair a.ok.one b.ok.one
  rcases h with ⟨_, h | ⟨h, w⟩⟩ | h
  · exact absurd (.inl h) q
  · have g0 : g = 0 := by
      have a1 := sg.1
      have a2 := sg.2
      omega
    refine absurd (.inr ⟨h, fun z => ?_⟩) q
    have late := gaps_late.mp z
    obtain ⟨n, n1, n0, n2⟩ := w 103
    have e := Int.mul_ediv_add_emod (n - 103) L
    have m0 := Int.emod_nonneg (n - 103) (show L ≠ 0 by omega)
    have m1 := Int.emod_lt_of_pos (n - 103) l0
    have d0 : 0 ≤ (n - 103) / L := Int.ediv_nonneg (by omega) (by omega)
    have m := c.many (n := 103 + (n - 103) % L) (by omega) ((n - 103) / L).toNat
    have en : 103 + (n - 103) % L + (((n - 103) / L).toNat : Int) * L = n := by
      rw [Int.toNat_of_nonneg d0, Int.mul_comm]
      omega
    rw [en, g0, Int.mul_zero] at m
    have := of_decide_eq_false (late (103 + (n - 103) % L).toNat (by omega) (by omega))
    rw [Int.toNat_of_nonneg (by omega)] at this
    omega
  · exact h
end
theorem gaps_list {ts us : List Tr} : (List.range 1000).map (fun n : Nat => V.int (drk ts n - drk us n)) = (gapsI ts us).map V.int := by
  unfold gapsI
  rw [List.map_map]
  rfl
theorem diffs_list {ts us : List Tr} : ((List.range 1000).filter (fun n : Nat => !decide (drk ts n - drk us n = 0))).map (fun n : Nat => V.int n) = ((diffs ts us).map (fun n : Nat => (n : Int))).map V.int := by
  unfold diffs
  rw [List.map_map]
  rfl
theorem diffs_len {ts us : List Tr} : (diffs ts us).length ≤ 1000 := by
  unfold diffs
  refine Nat.le_trans (List.length_filter_le _ _) ?_
  rw [List.length_range]
  exact Nat.le_refl _
/-! ### promises -/
def sp_better_begin (_ : PySem.W.Frag) : Sp := fun vs H Q _ => ∃ (a b : Addr) (ts us : List Tr), vs = [.ref a, .ref b] ∧ Trs H a ts ∧ Trs H b us ∧ Fair ts ∧ Fair us ∧ 1 ≤ ts.length ∧ 1 ≤ us.length ∧ ∀ v H', IsBet ts us v → Ex H H' → Q v H'
theorem len_better_begin {K} : ∀ vs H Q E, sp_better_begin K vs H Q E → vs.length = 2 := by rintro _ _ _ _ ⟨_, _, _, _, rfl, _⟩; rfl
theorem ap_better_begin {K : PySem.W.Frag} {H : Hp} {Q : VK} {E : XK} {a b : Addr} {ts us : List Tr} (h1 : Trs H a ts) (h2 : Trs H b us) (o1 : OfferOk ts) (o2 : OfferOk us) (k : ∀ v H', IsBet ts us v → Ex H H' → Q v H') : sp_better_begin K [.ref a, .ref b] H Q E :=
  ⟨a, b, ts, us, rfl, h1, h2, o1.fair, o2.fair, o1.one, o2.one, k⟩
def sp_Offer_trades (K : PySem.W.Frag) : Sp := fun vs H Q _ => ∃ (o : Addr) (ts : List Tr), vs = [.ref o] ∧ OfferAt K H o ts ∧ ∀ a H', Trs H' a ts → Ex H H' → Q (.ref a) H'
theorem len_Offer_trades {K} : ∀ vs H Q E, sp_Offer_trades K vs H Q E → vs.length = 1 := by rintro _ _ _ _ ⟨_, _, rfl, _⟩; rfl
theorem ap_Offer_trades {K : PySem.W.Frag} {H : Hp} {Q : VK} {E : XK} {o : Addr} {ts : List Tr} (h : OfferAt K H o ts) (k : ∀ a H', Trs H' a ts → Ex H H' → Q (.ref a) H') : sp_Offer_trades K [.ref o] H Q E := ⟨o, ts, rfl, h, k⟩
/-- two offers, an answer about them -/
def spTwo (K : PySem.W.Frag) (P : List Tr → List Tr → V → Prop) : Sp := fun vs H Q _ => ∃ (a b : Addr) (ts us : List Tr), vs = [.ref a, .ref b] ∧ OfferAt K H a ts ∧ OfferAt K H b us ∧ OfferOk ts ∧ OfferOk us ∧ ∀ v H', P ts us v → Ex H H' → Q v H'
theorem lenTwo {K P} : ∀ vs H Q E, spTwo K P vs H Q E → vs.length = 2 := by rintro _ _ _ _ ⟨_, _, _, _, rfl, _⟩; rfl
theorem apTwo {K : PySem.W.Frag} {P : List Tr → List Tr → V → Prop} {H : Hp} {Q : VK} {E : XK} {a b : Addr} {ts us : List Tr} (h1 : OfferAt K H a ts) (h2 : OfferAt K H b us) (o1 : OfferOk ts) (o2 : OfferOk us) (k : ∀ v H', P ts us v → Ex H H' → Q v H') : spTwo K P [.ref a, .ref b] H Q E :=
  ⟨a, b, ts, us, rfl, h1, h2, o1, o2, k⟩
def sp_first_difference (K : PySem.W.Frag) : Sp := spTwo K IsGap
def sp_better_from (K : PySem.W.Frag) : Sp := spTwo K IsBet
def sp__law_rate (K : PySem.W.Frag) : Sp := spTwo K fun ts us v => v = .int (rateI ts us)
theorem len_first_difference {K} : ∀ vs H Q E, sp_first_difference K vs H Q E → vs.length = 2 := lenTwo
theorem len_better_from {K} : ∀ vs H Q E, sp_better_from K vs H Q E → vs.length = 2 := lenTwo
theorem len__law_rate {K} : ∀ vs H Q E, sp__law_rate K vs H Q E → vs.length = 2 := lenTwo
def sp__law_near (_ : PySem.W.Frag) : Sp := fun vs H Q _ => ∃ (h c : Addr), vs = [.ref h] ∧ Src H h c ∧ ∀ r p q ts us H', SrcUp h c H H' → H' r = some (.tup [.ref p, .ref q]) → Trs H' p ts → Trs H' q us → Sm ts → Sm us → Q (.ref r) H'
theorem len__law_near {K} : ∀ vs H Q E, sp__law_near K vs H Q E → vs.length = 1 := by rintro _ _ _ _ ⟨_, _, rfl, _⟩; rfl
theorem ap__law_near {K : PySem.W.Frag} {H : Hp} {Q : VK} {E : XK} {h c : Addr} (s : Src H h c) (k : ∀ r p q ts us H', SrcUp h c H H' → H' r = some (.tup [.ref p, .ref q]) → Trs H' p ts → Trs H' q us → Sm ts → Sm us → Q (.ref r) H') : sp__law_near K [.ref h] H Q E := ⟨h, c, rfl, s, k⟩
def sp__law_better_right (K : PySem.W.Frag) : Sp := fun vs H Q _ => ∃ (h c a b g : Addr) (ts us : List Tr), vs = [.ref h, .ref a, .ref b, .ref g] ∧ Src H h c ∧ OfferAt K H a ts ∧ OfferAt K H b us ∧ Sm ts ∧ Sm us ∧ H g = some (.lst ((gapsI ts us).map V.int)) ∧ ∀ H', SrcUp h c H H' → Q (.bl true) H'
theorem len__law_better_right {K} : ∀ vs H Q E, sp__law_better_right K vs H Q E → vs.length = 4 := by rintro _ _ _ _ ⟨_, _, _, _, _, _, _, rfl, _⟩; rfl
theorem ap__law_better_right {K : PySem.W.Frag} {H : Hp} {Q : VK} {E : XK} {h c a b g : Addr} {ts us : List Tr} (s : Src H h c) (h1 : OfferAt K H a ts) (h2 : OfferAt K H b us) (o1 : Sm ts) (o2 : Sm us) (hg : H g = some (.lst ((gapsI ts us).map V.int))) (k : ∀ H', SrcUp h c H H' → Q (.bl true) H') :
    sp__law_better_right K [.ref h, .ref a, .ref b, .ref g] H Q E := ⟨h, c, a, b, g, ts, us, rfl, s, h1, h2, o1, o2, hg, k⟩
/-! ### comprehensions over lists of numbers -/
section
variable {K : PySem.W.Frag} {σ : St} {H : Hp} {Q : VK} {g : TG} {tt : TT} {te : TE} {vs : List Nat} {a : Addr}
theorem zip_filt (p : Int → Bool) : ∀ ns : List Int, (((ns.map p).zip (ns.map V.int)).filter (·.1)).map (·.2) = (ns.filter p).map V.int
  | [] => rfl
  | n :: ns => by
    rw [List.map_cons, List.map_cons, List.zip_cons_cons, List.filter_cons, List.filter_cons]
    cases h : p n with
    | true => simpa using zip_filt p ns
    | false => simpa using zip_filt p ns
/-- [x for x in numbers if test] -/
theorem w_lcFI (ns : List Int) (p : Int → Bool) (hx : SqL K H a (ns.map V.int)) (hz : ns.length ≤ 1000)
    (hb : ∀ (i : Nat) n, ns[i]? = some n → ∀ H1, Ex H H1 → ∀ (R : VK) (N : Hp → Prop), (p n = true → ∀ H2, Ex H1 H2 → R (.int n) H2) → (p n = false → ∀ H2, Ex H1 H2 → N H2) → g (.int n) (wipe σ vs) H1 fun σ2 H2 => wipe σ2 vs = wipe σ vs ∧ tt σ2 H2 fun b H3 => if b = true then te σ2 H3 R else N H3)
    (q : ∀ r H2, H r = none → Ex H H2 → H2 r = some (.lst ((ns.filter p).map V.int)) → Q (.ref r) H2) : lcTL K g tt te vs σ Q (.ref a) H := by
  refine w_lcLt (ns.map p) (ns.map V.int) hx (by rw [List.length_map]; exact hz) (by rw [List.length_map, List.length_map]) rfl (fun i x y b hi hy hb' H1 e1 R N hR hN => ?_) (by rw [zip_filt]; exact q)
  rw [List.getElem?_map] at hi hy hb'
  cases hn : ns[i]? with
  | none => rw [hn] at hi; cases hi
  | some n =>
    rw [hn] at hi hy hb'
    cases hi
    cases hy
    cases hb'
    exact hb i n hn H1 e1 R N hR hN
/-- [f(x) for x in numbers] -/
theorem w_lcMI (ns : List Int) (f : Int → Int) (hx : SqL K H a (ns.map V.int)) (hz : ns.length ≤ 1000)
    (hb : ∀ (i : Nat) n, ns[i]? = some n → ∀ H1, Ex H H1 → ∀ R : VK, (∀ H2, Ex H1 H2 → R (.int (f n)) H2) → g (.int n) (wipe σ vs) H1 fun σ2 H2 => wipe σ2 vs = wipe σ vs ∧ te σ2 H2 R)
    (q : ∀ r H2, H r = none → Ex H H2 → H2 r = some (.lst ((ns.map f).map V.int)) → Q (.ref r) H2) : lcTL K g tYes te vs σ Q (.ref a) H := by
  refine w_lcLa ((ns.map f).map V.int) hx (by rw [List.length_map]; exact hz) (by rw [List.length_map, List.length_map, List.length_map]) (fun i x y hi hy H1 e1 R hR => ?_) q
  rw [List.getElem?_map] at hi
  rw [List.getElem?_map, List.getElem?_map] at hy
  cases hn : ns[i]? with
  | none => rw [hn] at hi; cases hi
  | some n =>
    rw [hn] at hi hy
    cases hi
    cases hy
    exact hb i n hn H1 e1 R hR
theorem cut_back {xs : List V} {k : Nat} (h : k ≤ xs.length) (h0 : 0 < k) : cutV xs (some (-(k : Int))) none = xs.drop (xs.length - k) := by
  have e : HT.sIx xs.length 0 (some (-(k : Int))) = xs.length - k := by
    show (if -(k : Int) < 0 then (-(k : Int) + (xs.length : Int)).toNat else min (-(k : Int)).toNat xs.length) = _
    rw [if_pos (by omega)]
    omega
  unfold cutV
  rw [e]
  show (xs.drop (xs.length - k)).take (xs.length - (xs.length - k)) = _
  exact List.take_of_length_le (by rw [List.length_drop]; exact Nat.le_refl _)
theorem cut_but {xs : List V} {k : Nat} (h : k ≤ xs.length) (h0 : 0 < k) : cutV xs none (some (-(k : Int))) = xs.take (xs.length - k) := by
  have e : HT.sIx xs.length xs.length (some (-(k : Int))) = xs.length - k := by
    show (if -(k : Int) < 0 then (-(k : Int) + (xs.length : Int)).toNat else min (-(k : Int)).toNat xs.length) = _
    rw [if_pos (by omega)]
    omega
  unfold cutV
  rw [e]
  show (xs.drop 0).take (xs.length - k - 0) = _
  rw [List.drop_zero, Nat.sub_zero]
end
end EB
namespace EB
open PySem PySem.Spec L2 StX ClX
set_option maxHeartbeats 1000000
/-! ## lists of trades, written out -/
def smB (ts : List Tr) : Bool := decide (ts.length ≤ 3) && ((ts.all fun t => (decide (0 ≤ t.2.1) && decide (t.2.1 ≤ 12)) && ((decide (1 ≤ t.2.2) && decide (t.2.2 ≤ 12)) && (isTK t.1 && decide (t.1.length ≤ 8)))) &&
  (decide (10 * bo ts 27720 ≤ 9 * 27720) && (decide (1 ≤ ts.length) && (decide ((ts.map (·.1)).Nodup) && decide (nd ts ≤ 30)))))
theorem smB_ok {ts : List Tr} (h : smB ts = true) : Sm ts := by
  unfold smB at h
  simp only [Bool.and_eq_true, decide_eq_true_eq, List.all_eq_true] at h
  obtain ⟨h1, h2, h3, h4, h5, h6⟩ := h
  exact ⟨⟨⟨⟨h1, fun t ht => ⟨(h2 t ht).1.1, (h2 t ht).1.2, (h2 t ht).2.1.1, (h2 t ht).2.1.2⟩⟩, h3⟩, h4, fun t ht => (h2 t ht).2.2, h5⟩, h6⟩
def TrsX (H : Hp) (x : V) (ts : List Tr) : Prop := ∃ q, x = .ref q ∧ Trs H q ts
/-- a list of tuples of trades stands at p -/
def TssL (H : Hp) (p : Addr) (tss : List (List Tr)) : Prop := ∃ xs, H p = some (.lst xs) ∧ Paired (TrsX H) xs tss
theorem trsxUp {H H' : Hp} (e : Ex H H') : ∀ {xs : List V} {tss : List (List Tr)}, Paired (TrsX H) xs tss → Paired (TrsX H') xs tss
  | _, _, .nil => .nil
  | _, _, .cons ⟨q, h, t⟩ r => .cons ⟨q, h, t.up e⟩ (trsxUp e r)
theorem trsxUpS {H H' : Hp} {h c : Addr} (s : Src H h c) (u : SrcUp h c H H') : ∀ {xs : List V} {tss : List (List Tr)}, Paired (TrsX H) xs tss → Paired (TrsX H') xs tss
  | _, _, .nil => .nil
  | _, _, .cons ⟨q, z, t⟩ r => .cons ⟨q, z, t.upS s u⟩ (trsxUpS s u r)
theorem TssL.up {H H' : Hp} {p : Addr} {tss : List (List Tr)} (e : Ex H H') (t : TssL H p tss) : TssL H' p tss := by
  obtain ⟨xs, a, b⟩ := t
  exact ⟨xs, e _ _ a, trsxUp e b⟩
theorem TssL.upS {H H' : Hp} {h c p : Addr} {tss : List (List Tr)} (s : Src H h c) (u : SrcUp h c H H') (n : p ≠ h ∧ p ≠ c) (t : TssL H p tss) : TssL H' p tss := by
  obtain ⟨xs, a, b⟩ := t
  exact ⟨xs, u.keep _ _ n.1 n.2 a, trsxUpS s u b⟩
theorem TssL.get {H : Hp} {p : Addr} {tss : List (List Tr)} (t : TssL H p tss) {i : Nat} (hi : i < tss.length) : ∃ xs q ts, H p = some (.lst xs) ∧ xs[i]? = some (.ref q) ∧ ts ∈ tss ∧ Trs H q ts := by
  obtain ⟨xs, a, b⟩ := t
  have l := pairedLen b
  obtain ⟨ts, h1, q, h2, h3⟩ := pairedGet (x := xs[i]'(by omega)) b (List.getElem?_eq_getElem (by omega))
  exact ⟨xs, q, ts, a, by rw [List.getElem?_eq_getElem (by omega), h2], List.mem_of_getElem? h1, h3⟩
theorem pairedApp' {α β : Type} {F : α → β → Prop} : ∀ {xs zs : List α} {ys ws : List β}, Paired F xs ys → Paired F zs ws → Paired F (xs ++ zs) (ys ++ ws)
  | _, _, _, _, .nil, h => h
  | _, _, _, _, .cons a r, h => .cons a (pairedApp' r h)
section
variable {σ : St} {H : Hp} {Q : VK}
/-- ((kind, left, needed),) -/
theorem w_one {z : Str} {l n : Int} (q : ∀ p H', H p = none → Ex H H' → Trs H' p [(z, l, n)] → Q (.ref p) H') : tTup (clA (tCons (tTup (clA (tCons (tC (.str z)) (tCons (tC (.int l)) (tCons (tC (.int n)) tNil))))) tNil)) σ H Q := by
  refine w_tup (w_cons (w_tup (w_cons (w_c (w_cons (w_c (w_cons (w_c (w_nil ⟨by simp, fun p1 H1 n1 e1 h1 => ?_⟩)))))))))
  refine w_nil ⟨by simp, fun p2 H2 n2 e2 h2 => ?_⟩
  exact q p2 H2 (Evl.fresh_back e1 n2) (Evl.Ex.trans e1 e2) ⟨_, h2, .cons ⟨p1, rfl, e2 _ _ h1⟩ .nil⟩
/-- two of these -/
theorem w_two {z z' : Str} {l n l' n' : Int} (q : ∀ p H', H p = none → Ex H H' → Trs H' p [(z, l, n), (z', l', n')] → Q (.ref p) H') :
    tTup (clA (tCons (tTup (clA (tCons (tC (.str z)) (tCons (tC (.int l)) (tCons (tC (.int n)) tNil))))) (tCons (tTup (clA (tCons (tC (.str z')) (tCons (tC (.int l')) (tCons (tC (.int n')) tNil))))) tNil))) σ H Q := by
  refine w_tup (w_cons (w_tup (w_cons (w_c (w_cons (w_c (w_cons (w_c (w_nil ⟨by simp, fun p1 H1 n1 e1 h1 => ?_⟩)))))))))
  refine w_cons (w_tup (w_cons (w_c (w_cons (w_c (w_cons (w_c (w_nil ⟨by simp, fun p2 H2 n2 e2 h2 => ?_⟩))))))))
  refine w_nil ⟨by simp, fun p3 H3 n3 e3 h3 => ?_⟩
  exact q p3 H3 (Evl.fresh_back (Evl.Ex.trans e1 e2) n3) (Evl.Ex.trans e1 (Evl.Ex.trans e2 e3)) ⟨_, h3, .cons ⟨p1, rfl, e3 _ _ (e2 _ _ h1)⟩ (.cons ⟨p2, rfl, e3 _ _ h2⟩ .nil)⟩
/-- .. in a list that is written out -/
theorem w_lstT {ts : TA} (q : ts σ H fun xs H1 => xs.length ≤ 1000 ∧ ∀ p H2, H1 p = none → Ex H1 H2 → H2 p = some (.lst xs) → Q (.ref p) H2) : tLst (clA ts) σ H Q := w_lst q
end
/-- roads to one place -/
theorem w_join1 {A : Prop} {α : Type} {P : Hp → α → Prop} (C : Hp → α → Prop) (main : (∀ H' x, C H' x → P H' x) → A) (fin : ∀ H' x, C H' x → P H' x) : A := main fin
theorem w_join2 {A : Prop} {α β : Type} {P : Hp → α → β → Prop} (C : Hp → α → β → Prop) (main : (∀ H' x y, C H' x y → P H' x y) → A) (fin : ∀ H' x y, C H' x y → P H' x y) : A := main fin
end EB
namespace EB
open PySem PySem.Spec L2 StX ClX
set_option maxHeartbeats 1000000
/-! ## numbers that do not come about -/
section
variable {ts : List Tr} {d : Int}
open Classical in
noncomputable def few (ts : List Tr) (d : Int) : Int := if h : ∃ F, IsFew ts d F then h.choose else 0
theorem few_eq {F : Int} (h : IsFew ts d F) : few ts d = F := by
  have ex : ∃ F, IsFew ts d F := ⟨F, h⟩
  unfold few
  rw [dif_pos ex]
  exact ex.choose_spec.unique h
theorem few_spec (f : Fair ts) (h1 : 1 ≤ ts.length) (h : 0 ≤ d) : IsFew ts d (few ts d) := by
  obtain ⟨F, hF⟩ := few_ex f h1 h
  rw [few_eq hF]
  exact hF
/-- how many numbers up to d do not come about -/
noncomputable def mis (ts : List Tr) (d : Int) : Int := d + 1 - few ts (d + 1)
theorem few_zero (f : Fair ts) : few ts 0 = 0 := few_eq ⟨Int.le_refl _, by rw [drk_zero f]; exact Int.le_refl _, fun n n0 n1 => by omega⟩
theorem mis_none (f : Fair ts) : mis ts (-1) = 0 := by
  unfold mis
  rw [show (-1 : Int) + 1 = 0 by decide, few_zero f]
  decide
theorem mis_com (f : Fair ts) (h1 : 1 ≤ ts.length) (h : 0 ≤ d) (c : Com ts d) : mis ts d = mis ts (d - 1) := by
  have F := few_spec f h1 h
  have e := (com_few f F).mpr c
  have lt := drk_lt f F.pos (b := few ts d + 1) (by omega)
  have G : few ts (d + 1) = few ts d + 1 := few_eq ⟨by have := F.pos; omega, by omega, fun n n0 n1 => by
    have := drk_mono f n0 (b := few ts d) (by omega)
    omega⟩
  unfold mis
  rw [G, Int.sub_add_cancel]
  omega
theorem mis_not (f : Fair ts) (h1 : 1 ≤ ts.length) (h : 0 ≤ d) (c : ¬ Com ts d) : mis ts d = mis ts (d - 1) + 1 := by
  have F := few_spec f h1 h
  have ne : drk ts (few ts d) ≠ d := fun e => c ((com_few f F).mp e)
  have en := F.enough
  have G : few ts (d + 1) = few ts d := few_eq ⟨F.pos, by omega, fun n n0 n1 => by
    have := F.least n n0 n1
    omega⟩
  unfold mis
  rw [G, Int.sub_add_cancel]
  omega
theorem mis_step (f : Fair ts) (h1 : 1 ≤ ts.length) (h : 0 ≤ d) : mis ts (d - 1) ≤ mis ts d ∧ mis ts d ≤ mis ts (d - 1) + 1 := by
  by_cases c : Com ts d
  · have := mis_com f h1 h c
    omega
  · have := mis_not f h1 h c
    omega
theorem mis_mono (f : Fair ts) (h1 : 1 ≤ ts.length) {a b : Int} (ha : -1 ≤ a) (h : a ≤ b) : mis ts a ≤ mis ts b := by
  have go : ∀ k : Nat, mis ts a ≤ mis ts (a + k) := by
    intro k
    induction k with
    | zero => simp
    | succ k ih =>
      have := (mis_step f h1 (d := a + (k + 1 : Nat)) (by omega)).1
      rw [show a + ((k + 1 : Nat) : Int) - 1 = a + k by omega] at this
      omega
  have := go (b - a).toNat
  rw [show a + ((b - a).toNat : Int) = b by omega] at this
  exact this
/-- the least number up to which so many do not come about -/
structure IsNth (ts : List Tr) (k N : Int) : Prop where
  pos : 0 ≤ N
  enough : k ≤ mis ts N
  least : ∀ e, 0 ≤ e → e < N → mis ts e < k
theorem IsNth.unique {k N M : Int} (a : IsNth ts k N) (b : IsNth ts k M) : N = M := by
  rcases Int.lt_trichotomy N M with l | l | l
  · have := b.least N a.pos l
    have := a.enough
    omega
  · exact l
  · have := a.least M b.pos l
    have := b.enough
    omega
/-- exactly so many; it is one of them -/
theorem IsNth.exact {k N : Int} (f : Fair ts) (h1 : 1 ≤ ts.length) (hk : 1 ≤ k) (a : IsNth ts k N) : mis ts N = k ∧ ¬ Com ts N := by
  have p := a.pos
  have e := a.enough
  have lt : mis ts (N - 1) < k := by
    by_cases z : N = 0
    · subst z
      rw [show (0 : Int) - 1 = -1 by decide, mis_none f]
      omega
    · exact a.least (N - 1) (by omega) (by omega)
  have st := mis_step f h1 p
  refine ⟨by omega, fun c => ?_⟩
  have := mis_com f h1 p c
  omega
/-- a missing number is the one with its count -/
theorem nth_of (f : Fair ts) (h1 : 1 ≤ ts.length) (h : 0 ≤ d) (c : ¬ Com ts d) : IsNth ts (mis ts d) d := by
  refine ⟨h, Int.le_refl _, fun e e0 e1 => ?_⟩
  have := mis_not f h1 h c
  have := mis_mono f h1 (a := e) (b := d - 1) (by omega) (by omega)
  omega
/-- a bottle leaves something -/
def gives (ts : List Tr) : Bool := ts.any fun t => decide (0 < t.2.1)
theorem bo_perd : ∀ {us : List Tr} {p : Int}, 0 < p → (∀ t ∈ us, Good t) → (∀ t ∈ us, t.2.2 ∣ t.2.1 * p) → gives us = true → p ≤ 12 * bo us p
  | [], _, _, _, _, h => by cases h
  | t :: us, p, hp, g, dv, h => by
    obtain ⟨g1, g2, g3, g4⟩ := g t List.mem_cons_self
    obtain ⟨q, hq⟩ := dv t List.mem_cons_self
    have e : t.2.1 * p / t.2.2 = q := by rw [hq, Int.mul_ediv_cancel_left _ (by omega)]
    have rest := bo_nonneg (fun u hu => g u (List.mem_cons_of_mem _ hu)) (d := p) (by omega)
    rw [bo_cons, e]
    have q0 : 0 ≤ q := by
      have : 0 ≤ t.2.1 * p := Int.mul_nonneg g1 (by omega)
      rw [hq] at this
      by_cases z : 0 ≤ q
      · exact z
      · have := Int.mul_neg_of_pos_of_neg (show 0 < t.2.2 by omega) (show q < 0 by omega)
        omega
    by_cases z : 0 < t.2.1
    · have a1 : 1 * p ≤ t.2.1 * p := Int.mul_le_mul_of_nonneg_right (by omega) (by omega)
      have a2 : t.2.2 * q ≤ 12 * q := Int.mul_le_mul_of_nonneg_right g4 q0
      omega
    · have hr : gives us = true := by
        unfold gives at h ⊢
        rw [List.any_cons, decide_eq_false z, Bool.false_or] at h
        exact h
      have := bo_perd hp (fun u hu => g u (List.mem_cons_of_mem _ hu)) (fun u hu => dv u (List.mem_cons_of_mem _ hu)) hr
      omega
theorem mis_big (f : Fair ts) (h1 : 1 ≤ ts.length) (g : gives ts = true) (h : 0 ≤ d) : d - 46 ≤ 12 * mis ts d := by
  have p := perd_pos f.1.2
  have b := bo_perd p f.1.2 (perd_fit f.1.2) g
  have n12 : 12 * nd ts ≤ 11 * perd ts := by
    unfold nd
    omega
  have F := few_spec f h1 (d := d + 1) (by omega)
  have t3 := few0_three f h1 (d := d + 1) (by omega)
  have z := few0_pos f (d := d + 1) (by omega)
  have le : few ts (d + 1) ≤ few0 ts (d + 1) + 3 := by
    by_cases q : few ts (d + 1) ≤ few0 ts (d + 1) + 3
    · exact q
    · have := F.least (few0 ts (d + 1) + 3) (by omega) (by omega)
      omega
  obtain ⟨_, c⟩ := few0_spec f (d + 1)
  have m : (d + 1) * (12 * nd ts) ≤ (d + 1) * (11 * perd ts) := Int.mul_le_mul_of_nonneg_left n12 (by omega)
  have e1 : (d + 1) * (12 * nd ts) = 12 * ((d + 1) * nd ts) := by rw [← Int.mul_assoc, Int.mul_comm (d + 1) 12, Int.mul_assoc]
  have e2 : (d + 1) * (11 * perd ts) = (11 * (d + 1)) * perd ts := by rw [← Int.mul_assoc, Int.mul_comm (d + 1) 11]
  have e3 : (12 * (few0 ts (d + 1) - 1)) * perd ts = 12 * ((few0 ts (d + 1) - 1) * perd ts) := Int.mul_assoc ..
  have lt : (12 * (few0 ts (d + 1) - 1)) * perd ts < (11 * (d + 1)) * perd ts := by omega
  have := Int.lt_of_mul_lt_mul_right lt (by omega)
  unfold mis
  omega
theorem gives_not (f : Fair ts) (g : gives ts = false) (h : 0 ≤ d) : Com ts d := by
  refine ⟨d, h, drk_eq ⟨?_, h, fun e e0 he => ?_⟩⟩
  · have z : ∀ us : List Tr, gives us = false → (∀ t ∈ us, Good t) → ∀ x : Int, bo us x = 0 := by
      intro us
      induction us with
      | nil => exact fun _ _ _ => rfl
      | cons t us ih =>
        intro hg gd x
        unfold gives at hg
        rw [List.any_cons] at hg
        obtain ⟨a, b⟩ := Bool.or_eq_false_iff.mp hg
        have z0 := of_decide_eq_false a
        have g1 := (gd t List.mem_cons_self).1
        have e0 : t.2.1 = 0 := by omega
        rw [bo_cons, ih b (fun u hu => gd u (List.mem_cons_of_mem _ hu)), e0]
        simp
    rw [z ts g f.1.2]
    omega
  · have := bo_nonneg f.1.2 e0
    omega
end
/-! ### promises -/
def sp_Offer_bool (K : PySem.W.Frag) : Sp := fun vs H Q _ => ∃ (o : Addr) (ts : List Tr), vs = [.ref o] ∧ OfferAt K H o ts ∧ OfferOk ts ∧ ∀ H', Ex H H' → Q (.bl (gives ts)) H'
theorem len_Offer_bool {K} : ∀ vs H Q E, sp_Offer_bool K vs H Q E → vs.length = 1 := by rintro _ _ _ _ ⟨_, _, rfl, _⟩; rfl
theorem w_tru {K : PySem.W.Frag} {σ : St} {H : Hp} {R : Bool → Hp → Prop} {E : XK} {o : Addr} {ts : List Tr} {te : TE} (ht : ∀ Q : VK, Q (.ref o) H → te σ H Q) (h : OfferAt K H o ts) (ok : OfferOk ts) (k : ∀ H', Ex H H' → R (gives ts) H') : tTruO (He.ga K "Offer") (sp_Offer_bool K) E te σ H R := by
  obtain ⟨dx, a, h1, hT⟩ := id h
  exact ht _ ⟨o, rfl, ⟨dx, _, h1⟩, o, ts, rfl, h, ok, fun H' e => ⟨_, rfl, k H' e⟩⟩
def sp_Offer_count_up_to (K : PySem.W.Frag) : Sp := fun vs H Q _ => ∃ (o : Addr) (ts : List Tr) (d : Int), vs = [.ref o, .int d] ∧ OfferAt K H o ts ∧ OfferOk ts ∧ 0 ≤ d ∧ ∀ H', Ex H H' → Q (.int (mis ts d)) H'
theorem len_Offer_count_up_to {K} : ∀ vs H Q E, sp_Offer_count_up_to K vs H Q E → vs.length = 2 := by rintro _ _ _ _ ⟨_, _, _, rfl, _⟩; rfl
theorem ap_Offer_count_up_to {K : PySem.W.Frag} {H : Hp} {Q : VK} {E : XK} {o : Addr} {ts : List Tr} {d : Int} (h : OfferAt K H o ts) (ok : OfferOk ts) (d0 : 0 ≤ d) (k : ∀ H', Ex H H' → Q (.int (mis ts d)) H') : sp_Offer_count_up_to K [.ref o, .int d] H Q E := ⟨o, ts, d, rfl, h, ok, d0, k⟩
def sp_Offer_count_missing (K : PySem.W.Frag) : Sp := fun vs H Q _ => ∃ (o : Addr) (ts : List Tr) (d : Int), vs = [.ref o, .int d] ∧ OfferAt K H o ts ∧ OfferOk ts ∧ 0 ≤ d ∧ d ≤ 1000000000000000000 ∧ ∀ H', Ex H H' → Q (.int (mis ts d)) H'
theorem len_Offer_count_missing {K} : ∀ vs H Q E, sp_Offer_count_missing K vs H Q E → vs.length = 2 := by rintro _ _ _ _ ⟨_, _, _, rfl, _⟩; rfl
theorem ap_Offer_count_missing {K : PySem.W.Frag} {H : Hp} {Q : VK} {E : XK} {o : Addr} {ts : List Tr} {d : Int} (h : OfferAt K H o ts) (ok : OfferOk ts) (d0 : 0 ≤ d) (d1 : d ≤ 1000000000000000000) (k : ∀ H', Ex H H' → Q (.int (mis ts d)) H') : sp_Offer_count_missing K [.ref o, .int d] H Q E := ⟨o, ts, d, rfl, h, ok, d0, d1, k⟩
/-- what is told of the missing number with a number -/
def NthV (ts : List Tr) (k : Int) (v : V) : Prop := (v = .non ∧ gives ts = false) ∨ ∃ N, v = .int N ∧ gives ts = true ∧ IsNth ts k N ∧ N ≤ 24 * k + 92
def sp_Offer_nth_missing (K : PySem.W.Frag) : Sp := fun vs H Q _ => ∃ (o : Addr) (ts : List Tr) (k : Int), vs = [.ref o, .int k] ∧ OfferAt K H o ts ∧ OfferOk ts ∧ 1 ≤ k ∧ k ≤ 1000000000000000000 ∧ ∀ v H', NthV ts k v → Ex H H' → Q v H'
theorem len_Offer_nth_missing {K} : ∀ vs H Q E, sp_Offer_nth_missing K vs H Q E → vs.length = 2 := by rintro _ _ _ _ ⟨_, _, _, rfl, _⟩; rfl
theorem ap_Offer_nth_missing {K : PySem.W.Frag} {H : Hp} {Q : VK} {E : XK} {o : Addr} {ts : List Tr} {k : Int} (h : OfferAt K H o ts) (ok : OfferOk ts) (k0 : 1 ≤ k) (k1 : k ≤ 1000000000000000000) (q : ∀ v H', NthV ts k v → Ex H H' → Q v H') : sp_Offer_nth_missing K [.ref o, .int k] H Q E := ⟨o, ts, k, rfl, h, ok, k0, k1, q⟩
end EB
namespace EB
open PySem PySem.Spec L2 StX ClX
set_option maxHeartbeats 1000000
/-! ## a full bottle for m empty ones -/
def sim (m : Int) : List Tr := [("empty", 1, m)]
section
variable {m n d e : Int}
theorem bo_sim : bo (sim m) d = d / m := by
  simp [bo, sim]
/-- the eleven of them -/
theorem sim_all (P : Int → Prop) (h : ∀ k : Fin 11, P ((k.val : Int) + 2)) (h1 : 2 ≤ m) (h2 : m ≤ 12) : P m := by
  have := h ⟨(m - 2).toNat, by omega⟩
  have e : (((m - 2).toNat : Nat) : Int) + 2 = m := by omega
  simp only [e] at this
  exact this
theorem ok_sim (h1 : 2 ≤ m) (h2 : m ≤ 12) : OfferOk (sim m) := by
  have g : ∀ t ∈ sim m, Good t := fun t ht => by
    rw [List.mem_singleton.mp ht]
    exact ⟨(by decide : (0 : Int) ≤ 1), (by decide : (1 : Int) ≤ 12), by show 1 ≤ m; omega, h2⟩
  refine ⟨⟨⟨by simp [sim], g⟩, ?_⟩, by simp [sim], fun t ht => ?_, by simp [sim]⟩
  · rw [bo_sim]
    exact sim_all (fun m => 10 * (27720 / m) ≤ 9 * 27720) (by decide) h1 h2
  · rw [List.mem_singleton.mp ht]
    exact ⟨(by decide +kernel : isTK "empty" = true), (by decide +kernel : ("empty" : Str).length ≤ 8)⟩
theorem perd_sim (h1 : 2 ≤ m) (h2 : m ≤ 12) : perd (sim m) = m := sim_all (fun m => perd (sim m) = m) (by decide +kernel) h1 h2
theorem nd_sim (h1 : 2 ≤ m) (h2 : m ≤ 12) : nd (sim m) = m - 1 := by
  unfold nd
  rw [perd_sim h1 h2, bo_sim, Int.ediv_self (by omega)]
theorem div_lip (hm : 1 ≤ m) (h : e ≤ d) : d / m ≤ e / m + (d - e) := by
  have a : d ≤ e + (d - e) * m := by
    have := Int.mul_le_mul_of_nonneg_left hm (show 0 ≤ d - e by omega)
    omega
  have b := Int.ediv_le_ediv (show 0 < m by omega) a
  rw [Int.add_mul_ediv_right _ _ (by omega)] at b
  exact b
/-- a fixed point whose forerunner does not do is the number of drinks -/
theorem tot_sim (hm : 2 ≤ m) (d0 : 0 ≤ d) (fix : n + d / m = d) (pre : d - 1 < n + (d - 1) / m) : drk (sim m) n = d := by
  refine drk_eq ⟨by rw [bo_sim]; exact fix, d0, fun e e0 he => ?_⟩
  rw [bo_sim] at he
  by_cases q : d ≤ e
  · exact q
  · have := div_lip (m := m) (by omega) (show e ≤ d - 1 by omega)
    omega
theorem div_at {q s : Int} (hm : 0 < m) (s0 : 0 ≤ s) (s1 : s < m) : (m * q + s) / m = q := by
  rw [Int.add_comm, Int.add_mul_ediv_left _ _ (by omega), Int.ediv_eq_zero_of_lt s0 s1]
  omega
theorem drk_sim (hm : 2 ≤ m) (hn : 1 ≤ n) : drk (sim m) n = n + (n - 1) / (m - 1) := by
  have e := Int.mul_ediv_add_emod (n - 1) (m - 1)
  have s0 := Int.emod_nonneg (n - 1) (show m - 1 ≠ 0 by omega)
  have s1 := Int.emod_lt_of_pos (n - 1) (show 0 < m - 1 by omega)
  have q0 : 0 ≤ (n - 1) / (m - 1) := Int.ediv_nonneg (by omega) (by omega)
  generalize (n - 1) / (m - 1) = q at e q0 ⊢
  generalize (n - 1) % (m - 1) = s at e s0 s1
  rw [Int.sub_mul, Int.one_mul] at e
  have en : n + q = m * q + (s + 1) := by omega
  refine tot_sim hm (by omega) ?_ ?_
  · rw [en, div_at (by omega) (by omega) (by omega)]
    omega
  · rw [show n + q - 1 = m * q + s by omega, div_at (by omega) s0 (by omega)]
    omega
theorem cred_sim (hm : 2 ≤ m) (hn : 0 ≤ n) : IsCred (sim m) n (n + n / (m - 1)) := by
  have e := Int.mul_ediv_add_emod n (m - 1)
  have s0 := Int.emod_nonneg n (show m - 1 ≠ 0 by omega)
  have s1 := Int.emod_lt_of_pos n (show 0 < m - 1 by omega)
  have q0 : 0 ≤ n / (m - 1) := Int.ediv_nonneg (by omega) (by omega)
  generalize n / (m - 1) = q at e q0 ⊢
  generalize n % (m - 1) = s at e s0 s1
  rw [Int.sub_mul, Int.one_mul] at e
  have en : n + q = m * q + s := by omega
  refine ⟨by omega, ?_, fun x hx => ?_⟩
  · rw [bo_sim, en, div_at (by omega) s0 (by omega)]
    omega
  · rw [bo_sim]
    have a := div_lip (m := m) (by omega) (show n + q + 1 ≤ x by omega)
    rw [show n + q + 1 = m * q + (s + 1) by omega, div_at (by omega) (by omega) (by omega)] at a
    omega
theorem std_sim (h1 : 2 ≤ m) (h2 : m ≤ 12) : IsStd (sim m) 1 := by
  refine ⟨by decide, by decide, fun d d0 d1 => ?_, fun _ h => ?_⟩
  · rw [perd_sim h1 h2] at d0
    rw [bo_sim]
    have : -1 ≤ d / m := by
      rw [Int.le_ediv_iff_mul_le (by omega)]
      omega
    omega
  · have := h (-1) (by rw [perd_sim h1 h2]; omega) (by decide)
    rw [bo_sim] at this
    have : (-1 : Int) / m < 0 := Int.ediv_neg_of_neg_of_pos (by decide) (by omega)
    omega
theorem com_sim (hm : 2 ≤ m) (m12 : m ≤ 12) (hd : 1 ≤ d) : Com (sim m) d ↔ d % m ≠ 0 := by
  have e := Int.mul_ediv_add_emod d m
  have s0 := Int.emod_nonneg d (show m ≠ 0 by omega)
  have s1 := Int.emod_lt_of_pos d (show 0 < m by omega)
  have dm : (d - 1) / m = if d % m = 0 then d / m - 1 else d / m := by
    generalize d / m = q at e ⊢
    generalize d % m = s at e s0 s1 ⊢
    split
    · rename_i z
      subst z
      rw [show d - 1 = m * (q - 1) + (m - 1) by rw [Int.mul_sub]; omega, div_at (by omega) (by omega) (by omega)]
    · rw [show d - 1 = m * q + (s - 1) by omega, div_at (by omega) (by omega) (by omega)]
  have q0 : 0 ≤ d / m := Int.ediv_nonneg (by omega) (by omega)
  have q1 : d / m ≤ d := Int.ediv_le_self _ (by omega)
  constructor
  · rintro ⟨n, n0, h⟩ z
    rw [if_pos z] at dm
    have t := drk_spec (ok_sim hm m12).fair n0
    have fx := t.fix
    rw [h, bo_sim] at fx
    have := t.least (d - 1) (by omega) (by rw [bo_sim, dm]; omega)
    omega
  · intro z
    rw [if_neg z] at dm
    exact ⟨d - d / m, by omega, tot_sim hm (by omega) (by omega) (by rw [dm]; omega)⟩
theorem mis_sim (hm : 2 ≤ m) (m12 : m ≤ 12) (hd : 0 ≤ d) : mis (sim m) d = d / m := by
  have ok := ok_sim hm m12
  have go : ∀ k : Nat, mis (sim m) k = (k : Int) / m := by
    intro k
    induction k with
    | zero =>
      have c : Com (sim m) 0 := ⟨0, Int.le_refl _, drk_zero ok.fair⟩
      have := mis_com ok.fair ok.one (Int.le_refl 0) c
      rw [show (0 : Int) - 1 = -1 by decide, mis_none ok.fair] at this
      simpa using this
    | succ k ih =>
      have e := Int.mul_ediv_add_emod ((k + 1 : Nat) : Int) m
      have s0 := Int.emod_nonneg ((k + 1 : Nat) : Int) (show m ≠ 0 by omega)
      have s1 := Int.emod_lt_of_pos ((k + 1 : Nat) : Int) (show 0 < m by omega)
      have c := com_sim hm m12 (d := ((k + 1 : Nat) : Int)) (by omega)
      have ek : ((k + 1 : Nat) : Int) - 1 = k := by omega
      by_cases z : ((k + 1 : Nat) : Int) % m = 0
      · have := mis_not ok.fair ok.one (d := ((k + 1 : Nat) : Int)) (by omega) (fun x => c.mp x z)
        rw [ek, ih] at this
        rw [this]
        generalize ((k + 1 : Nat) : Int) / m = q at e ⊢
        rw [show (k : Int) = m * (q - 1) + (m - 1) by rw [Int.mul_sub]; omega, div_at (by omega) (by omega) (by omega)]
        omega
      · have := mis_com ok.fair ok.one (d := ((k + 1 : Nat) : Int)) (by omega) (c.mpr z)
        rw [ek, ih] at this
        rw [this]
        generalize ((k + 1 : Nat) : Int) / m = q at e ⊢
        generalize ((k + 1 : Nat) : Int) % m = s at e s0 s1 z
        rw [show (k : Int) = m * q + (s - 1) by omega, div_at (by omega) (by omega) (by omega)]
  have := go d.toNat
  rw [Int.toNat_of_nonneg hd] at this
  exact this
theorem nth_sim (hm : 2 ≤ m) (m12 : m ≤ 12) (hn : 1 ≤ n) : IsNth (sim m) n (n * m) := by
  have p : 0 ≤ n * m := Int.mul_nonneg (by omega) (by omega)
  refine ⟨p, ?_, fun e e0 e1 => ?_⟩
  · rw [mis_sim hm m12 p, Int.mul_ediv_cancel _ (by omega)]
    exact Int.le_refl _
  · rw [mis_sim hm m12 e0]
    exact (Int.ediv_lt_iff_lt_mul (by omega)).mpr e1
/-- where two of them first differ -/
theorem gap_sim {k : Int} (hm : 2 ≤ m) (m12 : m ≤ 12) (hk : 2 ≤ k) (k12 : k ≤ 12) {v : V} (h : IsGap (sim m) (sim k) v) : v = if m = k then .non else .int (if m < k then m else k) := by
  split
  · rename_i z
    subst z
    rcases h with ⟨h, _⟩ | ⟨n, _, n0, ne, _⟩
    · exact h
    · exact absurd rfl ne
  · rename_i z
    have dv : ∀ {a : Int}, 2 ≤ a → (a - 1) / (a - 1) = 1 := fun h => Int.ediv_self (by omega)
    have lo : ∀ n, 0 ≤ n → n < m → n < k → drk (sim m) n = drk (sim k) n := fun n n0 n1 n2 => by
      by_cases q : n = 0
      · subst q
        rw [drk_zero (ok_sim hm m12).fair, drk_zero (ok_sim hk k12).fair]
      · rw [drk_sim hm (by omega), drk_sim hk (by omega), Int.ediv_eq_zero_of_lt (by omega) (by omega), Int.ediv_eq_zero_of_lt (by omega) (by omega)]
    have at_ : drk (sim m) (if m < k then m else k) ≠ drk (sim k) (if m < k then m else k) := by
      split
      · rw [drk_sim hm (by omega), drk_sim hk (by omega), dv hm, Int.ediv_eq_zero_of_lt (by omega) (by omega)]
        omega
      · rw [drk_sim hm (by omega), drk_sim hk (by omega), dv hk, Int.ediv_eq_zero_of_lt (by omega) (by omega)]
        omega
    rcases h with ⟨_, h⟩ | ⟨n, rfl, n0, ne, lt⟩
    · exact absurd (h _ (by split <;> omega)) at_
    · have a : ¬ n < (if m < k then m else k) := fun w => ne (lo n n0 (by split at w <;> omega) (by split at w <;> omega))
      have b : ¬ (if m < k then m else k) < n := fun w => at_ (lt _ (by split <;> omega) w)
      have : n = if m < k then m else k := by omega
      rw [this]
/-- from when on the one with fewer is better -/
theorem bet_sim (hm : 2 ≤ m) (m12 : m < 12) {v : V} (h : IsBet (sim m) (sim (m + 1)) v) : v = .int (m * (m - 2) + 2) := by
  have sq : m * (m - 2) + 2 = (m - 1) * (m - 1) + 1 := by
    rw [Int.mul_sub, Int.mul_sub, Int.sub_mul]
    omega
  have P1 : 1 ≤ (m - 1) * (m - 1) := by
    have := Int.mul_le_mul_of_nonneg_left (show 1 ≤ m - 1 by omega) (show 0 ≤ m - 1 by omega)
    omega
  rw [sq]
  rcases h with ⟨_, h | ⟨h, _⟩⟩ | ⟨F, rfl, f1, _, f3, f4⟩
  · unfold rateI at h
    rw [perd_sim hm (by omega), perd_sim (by omega) (by omega), nd_sim hm (by omega), nd_sim (by omega) (by omega)] at h
    rw [Int.add_sub_cancel, Int.add_mul, Int.mul_sub, Int.one_mul] at h
    omega
  · unfold rateI at h
    rw [perd_sim hm (by omega), perd_sim (by omega) (by omega), nd_sim hm (by omega), nd_sim (by omega) (by omega)] at h
    rw [Int.add_sub_cancel, Int.add_mul, Int.mul_sub, Int.one_mul] at h
    omega
  · have up : ∀ x, (m - 1) * (m - 1) ≤ x → x / m < x / (m - 1) := fun x hx => by
      have e := Int.mul_ediv_add_emod x (m - 1)
      have s0 := Int.emod_nonneg x (show m - 1 ≠ 0 by omega)
      have s1 := Int.emod_lt_of_pos x (show 0 < m - 1 by omega)
      have q1 : m - 1 ≤ x / (m - 1) := (Int.le_ediv_iff_mul_le (by omega)).mpr hx
      generalize x / (m - 1) = q at e q1 ⊢
      generalize x % (m - 1) = s at e s0 s1
      rw [Int.sub_mul, Int.one_mul] at e
      refine (Int.ediv_lt_iff_lt_mul (by omega)).mpr ?_
      rw [Int.mul_comm]
      omega
    have eq : ((m - 1) * (m - 1) - 1) / m = ((m - 1) * (m - 1) - 1) / (m - 1) := by
      have a : (m - 1) * (m - 1) - 1 = m * (m - 2) + 0 := by omega
      have b : (m - 1) * (m - 1) - 1 = (m - 1) * (m - 2) + (m - 2) := by
        have : (m - 1) * (m - 1) = (m - 1) * (m - 2) + (m - 1) := by
          have z : (m - 1) * (m - 2 + 1) = (m - 1) * (m - 2) + (m - 1) := by rw [Int.mul_add, Int.mul_one]
          rw [show m - 2 + 1 = m - 1 by omega] at z
          exact z
        omega
      rw [show ((m - 1) * (m - 1) - 1) / (m - 1) = m - 2 by rw [b, div_at (by omega) (by omega) (by omega)], a, div_at (by omega) (by omega) (by omega)]
    have d1 : ∀ n, 1 ≤ n → (drk (sim (m + 1)) n < drk (sim m) n ↔ (n - 1) / m < (n - 1) / (m - 1)) := fun n n1 => by
      rw [drk_sim hm n1, drk_sim (by omega) n1, Int.add_sub_cancel]
      omega
    have a : ¬ F < (m - 1) * (m - 1) + 1 := fun w => by
      have := (d1 ((m - 1) * (m - 1)) P1).mp (f3 _ (by omega))
      rw [eq] at this
      omega
    have b : ¬ (m - 1) * (m - 1) + 1 < F := fun w => by
      have := (d1 (F - 1) (by omega)).mpr (up _ (by omega))
      omega
    have : F = (m - 1) * (m - 1) + 1 := by omega
    rw [this]
theorem bet_self {ts : List Tr} {v : V} (h : IsBet ts ts v) : v = .non := by
  rcases h with ⟨h, _⟩ | ⟨F, _, _, _, f3, _⟩
  · exact h
  · have := f3 F (Int.le_refl _)
    omega
end
/-! ### drinks by trying -/
def itr (ts : List Tr) (n : Int) : Nat → Int
  | 0 => 0
  | k + 1 => n + bo ts (itr ts n k)
theorem itr_le {ts : List Tr} {n : Int} (f : Fair ts) (hn : 0 ≤ n) : ∀ k, itr ts n k ≤ drk ts n
  | 0 => (drk_spec f hn).nn
  | k + 1 => by
    have ih := itr_le f hn k
    have := bo_mono f.1.2 ih
    have := (drk_spec f hn).fix
    show n + bo ts (itr ts n k) ≤ _
    omega
theorem itr_nn {ts : List Tr} {n : Int} (f : Fair ts) (hn : 0 ≤ n) : ∀ k, 0 ≤ itr ts n k
  | 0 => Int.le_refl _
  | k + 1 => by
    have := bo_nonneg f.1.2 (itr_nn f hn k)
    show 0 ≤ n + bo ts (itr ts n k)
    omega
theorem drk_itr {ts : List Tr} {n D : Int} (f : Fair ts) (hn : 0 ≤ n) (k : Nat) (h : itr ts n k = D ∧ itr ts n (k + 1) = D) : drk ts n = D := by
  have le := itr_le f hn k
  have e : n + bo ts (itr ts n k) = D := h.2
  rw [h.1] at e le
  have := (drk_spec f hn).least D (by rw [← h.1]; exact itr_nn f hn k) (by omega)
  omega
def sp_Offer_simple (K : PySem.W.Frag) : Sp := fun vs H Q _ => ∃ m : Int, vs = [.ref (He.ga K "Offer"), .int m] ∧ 2 ≤ m ∧ m ≤ 12 ∧ ∀ o H', H o = none → Ex H H' → OfferAt K H' o (sim m) → Q (.ref o) H'
theorem len_Offer_simple {K} : ∀ vs H Q E, sp_Offer_simple K vs H Q E → vs.length = 2 := by rintro _ _ _ _ ⟨_, rfl, _⟩; rfl
theorem ap_Offer_simple {K : PySem.W.Frag} {H : Hp} {Q : VK} {E : XK} {m : Int} (h1 : 2 ≤ m) (h2 : m ≤ 12) (k : ∀ o H', H o = none → Ex H H' → OfferAt K H' o (sim m) → Q (.ref o) H') : sp_Offer_simple K [.ref (He.ga K "Offer"), .int m] H Q E := ⟨m, rfl, h1, h2, k⟩
theorem w_makeV {σ : St} {H : Hp} {Q : VK} {E : XK} {C : Addr} {sp : Sp} {tf : TE} {t : TA} (hf : ∀ R : VK, R (.ref C) H → tf σ H R) (q : tMakeR C sp E t σ H Q) : tMakeV C sp E tf t σ H Q := hf _ ⟨rfl, q⟩
theorem w_cMeth {σ : St} {H : Hp} {Q : VK} {E : XK} {C : Addr} {sp : Sp} {t : TA} (q : t σ H fun vs H2 => sp (.ref C :: vs) H2 Q E) : tCMeth C sp E (tC (.ref C)) t σ H Q := ⟨rfl, q⟩
end EB
namespace EB
open PySem PySem.Spec L2
set_option maxHeartbeats 4000000
/-! ## an own exception class called with keywords: BaseException.__new__ passes them by, the own __init__ gets them -/
section
variable {M : Model} {prog : Program} {w : World} {A : Around} {E : Value → Shared → Prop} {R : Result → Shared → Prop} {h : Heap} {g : Array GenState} {d : Drawn} {t : Nat} {os : OsState}
variable {nm q : Str} {C N fI : Addr} {bs bm bmB : List Value} {hdct : Bool} {sn : List Str} {sub : List Value} {ab : Bool} {col : Option Bool} {dd : Option Addr} {k0 k1 k2 k3 k5 : Option Value} {B newId initId : String} {us : List Value} {kw : List (Str × Value)}
/-- the class as it stands -/
abbrev ExcAt (h : Heap) (nm q : Str) (C N : Addr) (bs bm : List Value) (hdct : Bool) (sn : List Str) (sub : List Value) (ab : Bool) (col : Option Bool) (dd : Option Addr) (k0 k1 k2 k3 k5 : Option Value) (newId : String) : Prop := h.get? C = some (excClassObj nm q C N bs bm hdct sn sub ab col dd k0 k1 k2 k3 k5 newId)
theorem xk_check (F : ExcBaseFacts B newId initId bmB) (sm : ∀ X : String, bm.contains (.type X) = bmB.contains (.type X)) {Q : Unit → Shared → Prop}
    (hC : ExcAt h nm q C N bs bm hdct sn sub ab col dd k0 k1 k2 k3 k5 newId) (hq : Q () ⟨h, g, d, t, os⟩) : wpAny M A (checkBuiltinCall newId ⟨.ref C :: us, kw⟩) Q E ⟨h, g, d, t, os⟩ := by
  have below : (Value.ref C :: bm).contains (.type B) = true := by
    rw [List.contains_cons, sm B, F.hasB]
    simp
  have star := F.noStar
  unfold checkBuiltinCall
  simp only [F.newKind, F.newSplit, F.newRow]
  repeat (first | (first | with_reducible refine wpAny_loadPart_at hC ?_ | with_reducible refine wpAny_staticBase_exc hC ?_ | with_reducible refine wpAny_madeBy_exc hC ?_) | (refine wpAny_isSubtype_exc hC ?_; rw [below]) | simp only [bne_self_eq_false, Bool.false_eq_true, if_false] | wp_step)
  exact hq
/-- the object that __new__ lays, behind its arguments -/
abbrev xkObj (C : Addr) (a : Addr) : Obj := { cls := .ref C, data := .fields #[.ref a, .none, .none, .none, .bool false, .none] }
abbrev xkTup (us : List Value) : Obj := { cls := .type "tuple", data := .seq us.toArray }
theorem xk_new (F : ExcBaseFacts B newId initId bmB) (sm : ∀ X : String, bm.contains (.type X) = bmB.contains (.type X)) (hC : ExcAt h nm q C N bs bm hdct sn sub ab col dd k0 k1 k2 k3 k5 newId) (hl : us.length ≤ sizeLine)
    (hq : R (.ok (.ret (.ref (h.objs.size + 1)))) ⟨(h.push (xkTup us)).push (xkObj C h.objs.size), g, d, t, os⟩) : codeAny (model prog w) A (.builtin newId ⟨.ref C :: us, kw⟩) R ⟨h, g, d, t, os⟩ := by
  have ends := F.ends
  have is : ∀ X : String, (Value.ref C :: bm).contains (.type X) = bmB.contains (.type X) := fun X => by
    rw [List.contains_cons, sm X]
    rfl
  have c1 := (is B).trans F.hasB
  have c2 := (is "AttributeError").trans F.noAttr
  have c3 := (is "NameError").trans F.noName
  refine codeAny_builtinAt F.entry (wpAt_bind ?_)
  show wpAt _ _ _ (stack >>= _) _ _ _
  refine wpAt_bind (wpAt_stack fun _ _ => ?_)
  refine wpAt_of_wpAny ?_
  wp_walk
  refine wpAt_of_wpAny ?_
  rw [F.owner]
  repeat (first | with_reducible refine wpAny_madeHere_exc F.canon hC ?_ | (first | with_reducible refine wpAny_loadPart_at hC ?_ | with_reducible refine wpAny_staticBase_exc hC ?_ | with_reducible refine wpAny_madeBy_exc hC ?_) | (with_reducible refine wpAny_isSubtype_exc hC ?_; first | rw [c1] | rw [c2] | rw [c3]) | wp_step)
  show R _ _
  rw [Heap.size_push]
  exact hq
theorem xk_typeCall (F : ExcBaseFacts B newId initId bmB) (sm : ∀ X : String, bm.contains (.type X) = bmB.contains (.type X)) {Q : PySem.Fin → Shared → Prop} (hC : ExcAt h nm q C N bs bm hdct sn sub ab col dd k0 k1 k2 k3 k5 newId)
    (hi : PySem.W.Looks (model prog w) h (typeLookup (.ref C) "__init__") (some (.ref fI))) (hb : ∀ self, PySem.W.Looks (model prog w) h (bindSpecial (.ref fI) self) (.ref fI, [self])) (hl : us.length ≤ sizeLine)
    (hq : codeAny (model prog w) A (.call (.ref fI) ⟨.ref (h.objs.size + 1) :: us, kw⟩)
      (fun r s' => match r with | .ok (.ret v) => v = .none ∧ Q (.done (.ret (.ref (h.objs.size + 1)))) s' | .ok _ => False | .error e => E e s') ⟨(h.push (xkTup us)).push (xkObj C h.objs.size), g, d, t, os⟩) :
    wpAny (model prog w) A (Builtin.«type.__call__» ⟨.ref C :: us, kw⟩) Q E ⟨h, g, d, t, os⟩ := by
  have up : ∀ b o, h.get? b = some o → ((h.push (xkTup us)).push (xkObj C h.objs.size)).get? b = some o := fun b o e => Heap.get?_push_of_some _ (Heap.get?_push_of_some _ e)
  have here : ((h.push (xkTup us)).push (xkObj C h.objs.size)).get? (h.objs.size + 1) = some (xkObj C h.objs.size) := by heap_get
  have cc : (Value.ref C :: bm).contains (.ref C) = true := by simp
  have C1 := up _ _ hC
  repeat (first | (first | with_reducible refine wpAny_loadPart_at hC ?_ | with_reducible refine wpAny_staticBase_exc hC ?_ | with_reducible refine wpAny_madeBy_exc hC ?_) | wp_step)
  refine codeAny_call_builtin_code (Code.quiet_builtin _ F.quiet) (xk_check F sm hC (xk_new F sm hC hl ?_))
  show wpAny _ _ _ _ _ _
  unfold isInstance
  repeat (first | with_reducible refine wpAny_loadPart_at here ?_ | (with_reducible refine wpAny_isSubtype_exc C1 ?_; rw [cc]) | wp_step)
  show wpAny _ _ (typeLookup (.ref C) _) _ _ _
  refine (hi.keeps up).at (wpAny_holding (wpAny_bind (((hb (.ref (h.objs.size + 1))).keeps up).at ?_)))
  refine wpAny_bind (wpAny_call (codeAny_mono hq fun r s' z => ?_))
  cases r with
  | error e => exact z
  | ok f =>
    cases f with
    | ret v =>
      obtain ⟨ev, z⟩ := z
      subst ev
      first
        | exact wpAny_pure (wpAny_pure z)
        | (wp_walk; exact z)
    | next => exact z.elim
    | brk => exact z.elim
    | cont => exact z.elim
theorem xk_call (F : ExcBaseFacts B newId initId bmB) (sm : ∀ X : String, bm.contains (.type X) = bmB.contains (.type X)) (hC : ExcAt h nm q C N bs bm hdct sn sub ab col dd k0 k1 k2 k3 k5 newId)
    (hi : PySem.W.Looks (model prog w) h (typeLookup (.ref C) "__init__") (some (.ref fI))) (hb : ∀ self, PySem.W.Looks (model prog w) h (bindSpecial (.ref fI) self) (.ref fI, [self])) (hl : us.length ≤ sizeLine)
    (hq : codeAny (model prog w) (A.under (.builtin "type.__call__" ⟨.ref C :: us, kw⟩)) (.call (.ref fI) ⟨.ref (h.objs.size + 1) :: us, kw⟩) (PySem.W.InitBack (h.objs.size + 1) R) ⟨(h.push (xkTup us)).push (xkObj C h.objs.size), g, d, t, os⟩) :
    codeAny (model prog w) A (.call (.ref C) ⟨us, kw⟩) R ⟨h, g, d, t, os⟩ := by
  have l1 := tc_lookup
  have l2 := tc_bind (.ref C)
  have ty : (⟨h, g, d, t, os⟩ : Shared).TypeIs (.ref C) "type" := ⟨_, hC, rfl⟩
  refine codeAny_of_tree ?_
  show wpAny _ _ (callAny (.ref C) _) _ _ _
  repeat (any_goals (first | assumption | (first | with_reducible refine wpAny_loadPart_at hC ?_ | with_reducible refine wpAny_staticBase_exc hC ?_ | with_reducible refine wpAny_madeBy_exc hC ?_) | wp_step))
  refine ⟨rfl, codeAny_call_builtin_at (Code.quiet_builtin _ (by decide +kernel)) entry_typeCall (wpAny_check_type_call_sub hC (xk_typeCall F sm hC hi hb hl (codeAny_mono hq fun r s' z => ?_)))⟩
  cases r with
  | error e => exact z
  | ok f => cases f <;> exact z
end
end EB
namespace EB
open PySem PySem.Spec L2 ClX
set_option maxHeartbeats 4000000
/-! ## C(k = v, ..), C an own exception class with its own __init__ -/
section
variable {X : Cx}
/-- Base.__init__(self, ..), Base an own class that has ValueError's -/
def tTeI (K : PySem.W.Frag) (tb : TE) (TE_ : Addr) (ta : TA) : TE := fun σ H Q => tb σ H fun b H0 => b = .ref TE_ ∧ ta σ H0 fun vs H1 => ∃ (a C : Addr) (ws : List V), vs = .ref a :: ws ∧ ws.length ≤ 1000 ∧ OexC K C ∧ H1 a = some (exo a C none) ∧ Q .non H1
theorem pe_tinit {B : Addr} {bx : Expr} {tb : TE} {e : Expr} {es : List Expr} {ta : TA} {p2 pos : Pos} {pl : Sem Bool} (hb : PE X bx tb) (r : CRead X.K B metaT) (v : PySem.W.findCls X.K (.ref B) metaT "__init__" = some (.val (.builtin "ValueError.__init__"))) (ha : PA X (e :: es) ta)
    (hc : eval (.Call (.Attribute bx "__init__" p2) (e :: es) [] pos) X.env = (do
      let ov ← eval bx X.env
      standAt p2.atName
      let (f, first) ← holding [ov] (getMethod ov "__init__" pl)
      callWith pos f first (backTo pos (starEach (e :: es) X.env)) (backToKw pos (keywordEach [] X.env))) := by rfl)
    (he : starEach (e :: es) X.env = (false, eval e X.env) :: starEach es X.env := by rfl) (hpl : (backTo pos (starEach es X.env)).any (·.1) = false := by rfl) :
    PE X (.Call (.Attribute bx "__init__" p2) (e :: es) [] pos) (tTeI X.K tb B ta) := by
  constructor
  intro pins s σ H Q I h
  refine PySem.W.methodCall_KW (thn (hb.run pins s σ H _ I h) fun u s1 z => ?_) hc
  obtain ⟨b, H0, I0, rb, eb, q⟩ := z
  subst eb
  obtain rfl : u = Value.ref B := rb
  refine PySem.W.method_cls I0.kIn r.ga (PySem.W.cls_value I0.kIn r.rd v rfl ?_)
  show wpAny _ _ (callWith pos (Value.builtin "ValueError.__init__") [] (backTo pos (starEach (e :: es) X.env)) []) _ _ _
  refine PyProof.Rows.callWith_method1 (thn (ha.run pos pins _ σ H0 _ (I0.tok _) q) fun us s2 z => ?_) he hpl
  obtain ⟨vs, H1, I1, r1, a, C, ws, ev, hl, T, ea, q2⟩ := z
  subst ev
  cases r1 with
  | @cons _ u0 _ ur ra rw' =>
    obtain rfl : u0 = Value.ref a := ra
    have n : ur.length ≤ sizeLine := by
      rw [← Paired.length rw', sizeLine_eq]
      omega
    exact oinit_ok T I1 ea n fun s' J => ⟨.non, H1, J, rfl, q2⟩
/-- what C(k = v, ..) asks of C's __init__ -/
def tMkK (C : Addr) (sp : Sp) (gV : List V → List V → List V) (m : Nat) (tk : TA) : St → Hp → XK → Prop := fun σ H Q => tk σ H fun zs H1 => zs.length = m ∧ ∀ a, H1 a = none → sp (gV [.ref a] zs) (upd H1 a (exo a C none))
  (fun v H2 => v = .non ∧ ∃ (d : Addr) (fs : List (Str × V)), H2 a = some (exo a C (some d)) ∧ H2 d = some (exd d fs) ∧ H1 d = none ∧ Q (.ref C) (some d) (upd (del H2 a) d (.xd fs))) (fun _ _ _ => False)
theorem pmk_kw {CX : CXT} {x : Str} {C fI : Addr} {k : Nat} {fd : FuncData} {ps ks : List Str} {sp : Sp} {g : List Value → List Value → List Value} {gV : List V → List V → List V} {kws : List Keyword} {tk : TA} {p pos : Pos} (T : OexC X.K C) (iC : PySem.W.findIn X.K (.ref C) "__init__" = some (some (.ref fI)))
    (tI : PySem.W.typeIn X.K (.ref fI) = some (.type "function")) (F1 : FnOk X.prog X.w X.K X.mg X.base CX k fI fd ps sp) (hr : Room (k + 1) X.A) (hb : KBn X.K fd ps 1 ks g gV) (hx : Passes CX X (fun _ _ _ => False)) (hg : Gl X x) (hm : X.mg x = some (.ref C)) (hkw : PK X kws tk)
    (hall : (backToKw pos (keywordEach kws X.env)).all (·.1.isSome) = true := by rfl) (hks : (backToKw pos (keywordEach kws X.env)).filterMap (·.1) = ks := by rfl) (hdb : (x == ("__debug__" : Str)) = false := by decide)
    (hpl : ((backTo pos (starEach [] X.env)).any (·.1) || (backToKw pos (keywordEach kws X.env)).any (·.1.isNone)) = false := by rfl) : PMk X (.Call (.Name x p) [] kws pos) (tMkK C sp gV ks.length tk) := by
  intro pins s σ H Q I h
  obtain ⟨nm, q, N, bs, bm, sn, sub, ab, col, dd, k0, k1, k2, k3, k5, hC, hbm⟩ := T.cls
  refine wpAny_Call_Name_kw (ld_glob I hg hm ?_ hdb)
  refine PySem.W.callWith_KW0 (h₀ := X.base) I.ok.mod.kin T.kC hall ?_ hpl
  refine thn (hkw.run pos pins s σ H _ I h) fun ws s1 ⟨zs, H1, I1, rz, l2, q1⟩ => ⟨I1.kIn, ?_⟩
  rw [hks]
  show wpAny _ _ (call (.ref C) [] (ks.zip ws)) _ _ _
  obtain ⟨hp, gs, dr, tk, os⟩ := s1
  have above : hp.objs.size ≤ hp.objs.size + 1 := Nat.le_succ _
  have new : H1 (hp.objs.size + 1) = none := I1.hok.fresh above
  have ask := q1 _ new
  have keep : ∀ b o, hp.get? b = some o → ((hp.push (xkTup [])).push (xkObj C hp.objs.size)).get? b = some o := fun b o e => Heap.get?_push_of_some _ (Heap.get?_push_of_some _ e)
  have here : ((hp.push (xkTup [])).push (xkObj C hp.objs.size)).get? (hp.objs.size + 1) = some (xkObj C hp.objs.size) := by heap_get
  have I2 : Inv X pins σ (upd H1 (hp.objs.size + 1) (exo (hp.objs.size + 1) C none)) ⟨(hp.push (xkTup [])).push (xkObj C hp.objs.size), gs, dr, tk, os⟩ := I1.laid (t' := tk) keep above (exo_ok here)
  have r2 := hb.rel (.cons (show RelV (V.ref (hp.objs.size + 1)) (Value.ref (hp.objs.size + 1)) from rfl) .nil) rz
  refine wpAny_call (xk_call F.excBase_ValueError (fun Y => PySem.HandSPX.refsVE_contains Y bm hbm) (I1.kIn _ _ hC) (PySem.W.looks_findIn I1.kIn iC) (fun self => PySem.W.bind_fn I1.kIn self tI) (Nat.zero_le _)
    (codeAny_mono (F1.run _ X.stack _ _ ⟨[Value.ref (hp.objs.size + 1)], ks.zip ws⟩ (g [Value.ref (hp.objs.size + 1)] ws) _ _ (fun _ _ _ => False) (hr.make C [] (ks.zip ws)) (I2.env0.make C [] (ks.zip ws)) (hb.to _ [Value.ref (hp.objs.size + 1)] ws I2.kIn rfl (rz.length.symm.trans l2)) r2 ask) fun r s' hq => ?_))
  cases r with
  | error er => exact hx pins σ _ _ er s' I2 hq
  | ok fl =>
    cases fl with
    | ret u =>
      obtain ⟨v, H2, os2, bare2, un2, hok2, rv, ev, d, fs, ea, ed, hd1, q2⟩ := hq
      subst ev
      obtain ⟨h2, g2, d2, t2, os'⟩ := s'
      exact ⟨rv, mk_end (raises_own T.exC T.tyC) I1 above keep un2 hok2 os2 bare2 ea ed hd1 q2⟩
    | next => exact False.elim hq
    | brk => exact False.elim hq
    | cont => exact False.elim hq
/-! ### the promise of such an __init__(self, *, f): self.f = f -/
def sp_excInit (K : PySem.W.Frag) (f : Str) : Sp := fun vs H Q _ => ∃ (a C : Addr) (y : V), vs = [.ref a, y] ∧ OexC K C ∧ PySem.W.findIn K (.ref C) f = some none ∧ H a = some (exo a C none) ∧ ∀ dx, H dx = none → dx ≠ a → Q .non (upd (upd H dx (exd dx [(f, y)])) a (exo a C (some dx)))
theorem len_excInit {K : PySem.W.Frag} {f : Str} : ∀ vs H Q E, sp_excInit K f vs H Q E → vs.length = 2 := by rintro _ _ _ _ ⟨_, _, _, rfl, _⟩; rfl
def gApp {α : Type} (us ws : List α) : List α := us ++ ws
/-- C(f = y): the new exception's dict stands, nothing else is new -/
theorem w_mkK {K : PySem.W.Frag} {C : Addr} {f : Str} {tk : TA} {σ : St} {H : Hp} {Q : XK} (T : OexC K C) (no : PySem.W.findIn K (.ref C) f = some none) {y : V} (hk : ∀ R : List V → Hp → Prop, R [y] H → tk σ H R) (q : ∀ d H', H d = none → Evl.Ex H H' → H' d = some (.xd [(f, y)]) → Q (.ref C) (some d) H') :
    tMkK C (sp_excInit K f) gApp 1 tk σ H Q := by
  refine hk _ ⟨rfl, fun a ha => ?_⟩
  refine ⟨a, C, y, rfl, T, no, upd_same, fun dx hdx ne => ⟨rfl, dx, [(f, y)], upd_same, by rw [upd_ne ne, upd_same], by rw [upd_ne ne] at hdx; exact hdx, ?_⟩⟩
  rw [upd_ne ne] at hdx
  refine q dx _ hdx (fun b o e => ?_) upd_same
  have b1 : b ≠ dx := fun z => by rw [z, hdx] at e; cases e
  have b2 : b ≠ a := fun z => by rw [z, ha] at e; cases e
  rw [upd_ne b1, del_ne b2, upd_ne b2, upd_ne b1, upd_ne b2]
  exact e
end
end EB
namespace EB
open PySem PySem.Spec L2 ClX
set_option maxHeartbeats 2000000
/-! ## xs.count(y), flat items -/
section
variable {X : Cx}
def rCountL (K : PySem.W.Frag) : V → List V → Hp → VK → Prop := fun x xs H Q => ∃ (a : Addr) (ys : List V) (y : V), x = V.ref a ∧ xs = [y] ∧ SqL K H a ys ∧ flatV y = true ∧ ys.all flatV = true ∧ Q (.int ((ys.countP fun z => eqV z y : Nat) : Int)) H
theorem countU {y : V} : ∀ {ys : List V} {us : List Value}, Vals ys us → ys.all flatV = true → us.countP (eqU y) = ys.countP fun z => eqV z y
  | _, _, .nil, _ => rfl
  | z :: ys, u :: us, .cons r t, f => by
    rw [List.all_cons, Bool.and_eq_true] at f
    rw [List.countP_cons, List.countP_cons, countU t f.2, eqU_of r f.1]
theorem mt_countL : MtR X "list.count" (rCountL X.K) := by
  intro pins s σ H x xs v us Q I rx rxs h
  obtain ⟨a, ys, y, rfl, rfl, hs, fy, fys, q⟩ := h
  cases rx
  cases rxs with
  | cons ry rt =>
    rename_i uy ut
    cases rt
    obtain ⟨its, rv, ⟨⟨cls, dd, data, sl⟩, n, ho, hc, hdn, hd⟩, hlen⟩ := I.list hs
    simp only at hc hd
    subst hc hd
    refine call_meets PySem.F.slot_list_count ⟨_, ho, rfl⟩ PySem.F.entry_list_count (PySem.F.args_list_count_2 _ _) (SeqAt.list_countAt a its.toArray n dd sl uy (eqU y)) ⟨ho, fun u' hu' => mem_eqAt ry fy rv fys u' (by simpa using hu'), ?_⟩
    have e : its.toArray.toList = its := by simp
    rw [e, countU rv fys]
    exact ⟨.int _, H, I.tok _, ⟨_, rfl⟩, q⟩
end
/-! ## isinstance of a caught exception of an own class, with a dict or without -/
/-- isinstance(e, c): a the caught one, cls its class, d its dict -/
def rIsX (K : PySem.W.Frag) (cls : Value) (a : Addr) (d : Option Addr) : List V → Hp → VK → Prop := fun xs H Q => ∃ (D : Addr) (c : V) (cv : Value) (b : Bool), cls = .ref D ∧ ExcC K D ∧ xs = [.ref a, c] ∧ (∀ u, RelV c u → u = cv) ∧ PySem.W.kitOne K (.ref D) cv = some b ∧ (∀ dd, d = some dd → ∃ fs, H dd = some (.xd fs)) ∧ Q (.bl b) H
theorem call_isX {X : Cx} {a : Addr} {cls : Value} {d : Option Addr} {oe : Obj} {pn : List (Addr × Obj)} (hz : Zc cls d oe) (hf : ∃ vs, oe.data = .fields vs) : CallR (X.suite a ((a, oe) :: pn)) (.builtin "isinstance") (rIsX X.K cls a d) := by
  intro pins s σ H xs us Q I r h
  obtain ⟨D, c, cv, b, rfl, C, rfl, hcv, e, hd, q⟩ := h
  cases r with
  | cons rx rr =>
    cases rr with
    | cons rt rr =>
      cases rr
      cases rx
      have ec := hcv _ rt
      subst ec
      obtain ⟨hget, _⟩ := I.pin (a, oe) (List.mem_append.mpr (.inl List.mem_cons_self))
      obtain ⟨vs, hv⟩ := hf
      have J : ∃ od, PySem.W.InstAt s.heap a oe D od := by
        cases d with
        | none => exact ⟨none, hget, hz.1, by unfold PySem.W.notCls; rw [hv] <;> rfl, by rw [hz.2]; exact True.intro⟩
        | some dd =>
          obtain ⟨fs, hdd⟩ := hd dd rfl
          obtain ⟨mA, hns, _⟩ := (show ObjOk X.prog X.w H s.heap dd (.xd fs) from I.hok dd _ hdd)
          obtain ⟨od, ho, _⟩ := lookIn_ns hns
          exact ⟨some od, hget, hz.1, by unfold PySem.W.notCls; rw [hv] <;> rfl, by rw [hz.2]; exact ho⟩
      obtain ⟨od, J⟩ := J
      obtain ⟨cd, hcd, _⟩ := PySem.W.any_some C.hd
      exact PySem.W.kia_one (PySem.W.kitx_exc (od := od) (by rw [hcd]; rfl) C.hg C.hk C.hs C.ha C.hn C.ht C.hm) I.kIn J e (fun z => nomatch z) fun tk => ⟨.bl b, H, I.kept (t' := tk) fun _ _ z => z, rfl, q⟩
/-- e.f, e the caught one -/
def tXfx (K : PySem.W.Frag) (cls : Value) (a : Addr) (d : Option Addr) (f : Str) (te : TE) : TE := fun σ H Q => te σ H fun x H1 => x = .ref a ∧ ∃ (C dd : Addr) (fs : List (Str × V)) (v : V), cls = .ref C ∧ XfC K C ∧ PySem.W.findIn K (.ref C) f = some none ∧ d = some dd ∧ H1 dd = some (.xd fs) ∧ fs.lookup f = some v ∧ Q v H1
theorem pe_xfx {X : Cx} {a : Addr} {oe : Obj} {cls : Value} {d : Option Addr} {pn : List (Addr × Obj)} {e : Expr} {te : TE} {pos : Pos} {n : Str} (hz : Zc cls d oe) (hf : ∃ vs, oe.data = .fields vs) (he : PE (X.suite a ((a, oe) :: pn)) e te)
    (hb : attributeBase e n X.env (eval e X.env) = eval e X.env := by rfl) : PE (X.suite a ((a, oe) :: pn)) (.Attribute e n pos) (tXfx X.K cls a d n te) := by
  constructor
  intro pins s σ H Q I h
  refine attr_of hb (thn (he.run pins s σ H _ I h) fun u s1 z => ?_)
  obtain ⟨x, H1, I1, rx, rfl, C, dd, fs, v, rfl, T, no, rfl, ea, l, q⟩ := z
  obtain rfl : u = Value.ref a := rx
  obtain ⟨ha, _⟩ := I1.pin (a, oe) (List.mem_append_left _ List.mem_cons_self)
  obtain ⟨vs, hv⟩ := hf
  obtain ⟨mA, hns, hr⟩ := (show ObjOk X.prog X.w H1 s1.heap dd (.xd fs) from I1.hok dd _ ea)
  obtain ⟨od, ho, hl⟩ := lookIn_ns hns
  obtain ⟨u, hu, ru⟩ := RelO.some_of (v := v) (o := mA n) (by rw [← l]; exact hr n)
  have J : PySem.W.InstAt s1.heap a oe C (some od) := ⟨ha, hz.1, by unfold PySem.W.notCls; rw [hv] <;> rfl, by rw [hz.2]; exact ho⟩
  exact HandSPX.exc_get I1.kIn J T.ga T.gg T.exC (PySem.W.findObj_own T.hdC no rfl (by rw [hl, hu])) (handed_of ru) ⟨v, H1, I1.tok _, ru, q⟩
end EB
namespace EB
open PySem PySem.Spec L2 ClX
set_option maxHeartbeats 2000000
/-! ## what a law with exceptions asks of the text -/
inductive Fx where
  | exk (x : Str)
  | oex (x : Str)
  | kit (x y : Str) (b : Bool)
  | kitV (x : Str) (b : Bool)
  | tin (x : Str)
  | sf (x : Str)
  | ns (x : Str)
  | cne (x y : Str)
  | err
/-- an own exception class: caught, asked, read -/
structure EkC (K : PySem.W.Frag) (C : Addr) : Prop where
  ex : ExcC K C
  xf : XfC K C
def ekB (K : PySem.W.Frag) (C : Addr) : Bool := xfB K C && (decide (PySem.W.findIn K (.ref C) "__class__" = some (some (.builtin "object.__class__"))) && (decide (PySem.W.specialIn K (.builtin "object.__class__") "__get__" = some (some (.builtin "getset_descriptor.__get__"))) &&
  (decide (PySem.W.takesIn K (.builtin "object.__class__") = some true) && decide (PySem.W.mroIn K C (.type "object") = some true))))
theorem ekB_ok {K : PySem.W.Frag} {C : Addr} (h : ekB K C = true) : EkC K C := by
  obtain ⟨h1, h⟩ := He.ba h
  obtain ⟨h2, h⟩ := He.ba h
  obtain ⟨h3, h⟩ := He.ba h
  obtain ⟨h4, h5⟩ := He.ba h
  have x := xfB_ok h1
  exact ⟨⟨x.ga, x.gg, x.exC, x.hdC, of_decide_eq_true h2, of_decide_eq_true h3, of_decide_eq_true h4, of_decide_eq_true h5⟩, x⟩
def oexSl (n : Value) : List (Option Value) → Bool
  | [_, _, _, _, some v, _] => decide (v = n)
  | _ => false
def oexCd (C : Addr) (cd : ClassData) : Bool := (match cd.mro with
  | .ref D :: bm => decide (D = C) && PySem.HandSPX.refsVE bm
  | _ => false) && (cd.hasDict && !cd.hasDel)
def oexB (K : PySem.W.Frag) (C : Addr) : Bool := (match K.lookup C with
  | some ⟨.type T, _, .cls cd, sl⟩ => decide (T = "type") && (oexCd C cd && oexSl (.builtin "ValueError.__new__") sl.toList)
  | _ => false) && (decide (PySem.W.findIn K (.ref C) "__setattr__" = some (some (.builtin "object.__setattr__"))) && (decide (PySem.W.subIn K (.ref C) (.type "BaseException") = some true) &&
    (decide (PySem.W.typeIn K (.ref C) = some (.type "type")) && (PySem.W.keepIn K (.ref C) &&
      (decide (PySem.W.findIn K (.ref C) "__init__" = some (some (.ref (He.ma K C "__init__")))) && decide (PySem.W.typeIn K (.ref (He.ma K C "__init__")) = some (.type "function")))))))
structure OexI (K : PySem.W.Frag) (C : Addr) : Prop where
  o : OexC K C
  i : PySem.W.findIn K (.ref C) "__init__" = some (some (.ref (He.ma K C "__init__")))
  f : PySem.W.typeIn K (.ref (He.ma K C "__init__")) = some (.type "function")
theorem oexB_ok {K : PySem.W.Frag} {C : Addr} (h : oexB K C = true) : OexI K C := by
  obtain ⟨h1, h⟩ := He.ba h
  obtain ⟨h2, h⟩ := He.ba h
  obtain ⟨h3, h⟩ := He.ba h
  obtain ⟨h4, h⟩ := He.ba h
  obtain ⟨h5, h⟩ := He.ba h
  obtain ⟨h6, h7⟩ := He.ba h
  refine ⟨⟨?_, of_decide_eq_true h2, of_decide_eq_true h3, of_decide_eq_true h4, h5⟩, of_decide_eq_true h6, of_decide_eq_true h7⟩
  generalize e : K.lookup C = r at h1
  split at h1
  · rename_i T dd cd sl
    obtain ⟨a1, a⟩ := He.ba h1
    obtain ⟨a2, a3⟩ := He.ba a
    obtain ⟨b1, b⟩ := He.ba a2
    obtain ⟨b2, b3⟩ := He.ba b
    obtain rfl := of_decide_eq_true a1
    obtain ⟨nm, bs, mro, ns, qn, hdct, sn, sub, ab, col, del⟩ := cd
    dsimp only at b1 b2 b3
    subst b2
    cases del with
    | true => cases b3
    | false =>
      split at b1
      · rename_i D bm
        obtain ⟨c1, c2⟩ := He.ba b1
        obtain rfl := of_decide_eq_true c1
        obtain ⟨l⟩ := sl
        have a4 : oexSl (.builtin "ValueError.__new__") l = true := a3
        unfold oexSl at a4
        split at a4
        · rename_i k0 k1 k2 k3 v k5
          obtain rfl := of_decide_eq_true a4
          exact ⟨nm, qn, ns, bs, bm, sn, sub, ab, col, dd, k0, k1, k2, k3, k5, rfl, c2⟩
        · cases a4
      · cases b1
  · cases h1
def tinB (K : PySem.W.Frag) (C : Addr) : Bool := match PySem.W.findCls K (.ref C) metaT "__init__" with
  | some (.val v) => decide (v = .builtin "ValueError.__init__")
  | _ => false
theorem tinB_ok {K : PySem.W.Frag} {C : Addr} (h : tinB K C = true) : PySem.W.findCls K (.ref C) metaT "__init__" = some (.val (.builtin "ValueError.__init__")) := by
  unfold tinB at h
  split at h
  · rename_i v e
    rw [e, of_decide_eq_true h]
  · cases h
/-- the errors that a law tells apart -/
def errNames : List Str := ["Contradiction", "InvalidNumber", "InvalidOffer", "InvalidStep", "TooGenerous", "UnknownKind"]
def errB (K : PySem.W.Frag) : Bool := (errNames.all fun x => ekB K (He.ga K x) && (decide (PySem.W.kitOne K (.ref (He.ga K x)) (.type "ValueError") = some true) && (decide (PySem.W.exmOne K (.ref (He.ga K x)) (.ref (He.ga K "TradeError")) = some true) &&
    errNames.all fun y => decide (PySem.W.kitOne K (.ref (He.ga K x)) (.ref (He.ga K y)) = some (decide (x = y)))))) && (decide (PySem.W.findIn K (.ref (He.ga K "InvalidOffer")) "index" = some none) && decide (PySem.W.findIn K (.ref (He.ga K "InvalidStep")) "index" = some none))
structure ErrK (K : PySem.W.Frag) : Prop where
  ek : ∀ x ∈ errNames, EkC K (He.ga K x)
  kv : ∀ x ∈ errNames, PySem.W.kitOne K (.ref (He.ga K x)) (.type "ValueError") = some true
  em : ∀ x ∈ errNames, PySem.W.exmOne K (.ref (He.ga K x)) (.ref (He.ga K "TradeError")) = some true
  kt : ∀ x ∈ errNames, ∀ y ∈ errNames, PySem.W.kitOne K (.ref (He.ga K x)) (.ref (He.ga K y)) = some (decide (x = y))
  io : PySem.W.findIn K (.ref (He.ga K "InvalidOffer")) "index" = some none
  is : PySem.W.findIn K (.ref (He.ga K "InvalidStep")) "index" = some none
theorem errB_ok {K : PySem.W.Frag} (h : errB K = true) : ErrK K := by
  obtain ⟨h1, h2⟩ := He.ba h
  obtain ⟨h3, h4⟩ := He.ba h2
  have key := fun x (hx : x ∈ errNames) => He.ba (List.all_eq_true.mp h1 x hx)
  exact ⟨fun x hx => ekB_ok (key x hx).1, fun x hx => of_decide_eq_true (He.ba (key x hx).2).1, fun x hx => of_decide_eq_true (He.ba (He.ba (key x hx).2).2).1, fun x hx y hy => of_decide_eq_true (List.all_eq_true.mp (He.ba (He.ba (key x hx).2).2).2 y hy), of_decide_eq_true h3, of_decide_eq_true h4⟩
def Fx.ok (K : PySem.W.Frag) : Fx → Bool
  | .err => errB K
  | .exk x => ekB K (He.ga K x)
  | .oex x => oexB K (He.ga K x)
  | .kit x y b => decide (PySem.W.kitOne K (.ref (He.ga K x)) (.ref (He.ga K y)) = some b)
  | .kitV x b => decide (PySem.W.kitOne K (.ref (He.ga K x)) (.type "ValueError") = some b)
  | .tin x => tinB K (He.ga K x)
  | .sf x => PySem.W.selfFirst K (He.ga K x)
  | .cne x y => decide ((He.cT K (x, none)).2 ≠ (He.cT K (y, none)).2)
  | .ns x => decide (PySem.W.subIn K (.ref (He.ga K x)) (.type "StopIteration") = some false)
structure Tx1 (fa : List He.Fa) (fn : List He5.DefA) (fb : List Fb) (fx : List Fx) (K : PySem.W.Frag) (mg : Str → Option Value) : Prop extends Tx0 fa fn fb K mg where
  xs : (fx.all fun f => f.ok K) = true
section
variable {fa : List He.Fa} {fn : List He5.DefA} {fb : List Fb} {fx : List Fx} {K : PySem.W.Frag} {mg : Str → Option Value}
theorem Tx1.x (T : Tx1 fa fn fb fx K mg) (j : Nat) {f : Fx} (h : fx[j]? = some f) : f.ok K = true := List.all_eq_true.mp T.xs f (List.mem_of_getElem? h)
theorem Tx1.exk (T : Tx1 fa fn fb fx K mg) (j : Nat) {x : Str} (h : fx[j]? = some (.exk x)) : EkC K (He.ga K x) := ekB_ok (T.x j h)
theorem Tx1.oex (T : Tx1 fa fn fb fx K mg) (j : Nat) {x : Str} (h : fx[j]? = some (.oex x)) : OexI K (He.ga K x) := oexB_ok (T.x j h)
theorem Tx1.kit (T : Tx1 fa fn fb fx K mg) (j : Nat) {x y : Str} {b : Bool} (h : fx[j]? = some (.kit x y b)) : PySem.W.kitOne K (.ref (He.ga K x)) (.ref (He.ga K y)) = some b := of_decide_eq_true (T.x j h)
theorem Tx1.kitV (T : Tx1 fa fn fb fx K mg) (j : Nat) {x : Str} {b : Bool} (h : fx[j]? = some (.kitV x b)) : PySem.W.kitOne K (.ref (He.ga K x)) (.type "ValueError") = some b := of_decide_eq_true (T.x j h)
theorem Tx1.tin (T : Tx1 fa fn fb fx K mg) (j : Nat) {x : Str} (h : fx[j]? = some (.tin x)) : PySem.W.findCls K (.ref (He.ga K x)) metaT "__init__" = some (.val (.builtin "ValueError.__init__")) := tinB_ok (T.x j h)
theorem Tx1.sf (T : Tx1 fa fn fb fx K mg) (j : Nat) {x : Str} (h : fx[j]? = some (.sf x)) : PySem.W.selfFirst K (He.ga K x) = true := T.x j h
theorem Tx1.nostop (T : Tx1 fa fn fb fx K mg) (j : Nat) {x : Str} (h : fx[j]? = some (.ns x)) : PySem.W.subIn K (.ref (He.ga K x)) (.type "StopIteration") = some false := of_decide_eq_true (T.x j h)
theorem Tx1.cne (T : Tx1 fa fn fb fx K mg) (j : Nat) {x y : Str} (h : fx[j]? = some (.cne x y)) : (He.cT K (x, none)).2 ≠ (He.cT K (y, none)).2 := of_decide_eq_true (T.x j h)
theorem Tx1.errs (T : Tx1 fa fn fb fx K mg) (j : Nat) (h : fx[j]? = some .err) : ErrK K := errB_ok (T.x j h)
theorem Tx1.exc (T : Tx1 fa fn fb fx K mg) (j : Nat) {x : Str} (h : fa[j]? = some (.exc x)) : PySem.W.excIn K (He.ga K x) He.veBase "ValueError.__new__" = true ∧ PySem.W.keepIn K (.ref (He.ga K x)) = true ∧ PySem.W.subIn K (.ref (He.ga K x)) (.type "BaseException") = some true ∧ PySem.W.typeIn K (.ref (He.ga K x)) = some (.type "type") := He.exc_ok (T.says.fact j h)
theorem Tx1.exm (T : Tx1 fa fn fb fx K mg) (j : Nat) {x y : Str} {b : Bool} (h : fa[j]? = some (.exm x y b)) : PySem.W.exmOne K (.ref (He.ga K x)) (.ref (He.ga K y)) = some b := of_decide_eq_true (T.says.fact j h)
end
/-! ## the head's look with the tables of the lambdas' code -/
/-- what is told beside He's facts: the defs named in tf hold lambdas, their tables are empty and no part of K -/
structure SaysL (fa : List He.Fa) (fn : List He5.DefA) (fb : List Fb) (fx : List Fx) (tf : List He.Defn) (h : Heap) (K : PySem.W.Frag) : Prop where
  s : He5.SaysA fa fn K
  b : (fb.all fun f => f.ok K) = true
  x : (fx.all fun f => f.ok K) = true
  hd : ∀ p ∈ tf, PySem.W.codeHdIn K (He.cT K p).1 (He.cT K p).2 = true
  out : ∀ p ∈ tf, K.lookup (He.cT K p).2 = none
  emp : ∀ p ∈ tf, h.get? (He.cT K p).2 = some { cls := .none, data := .fields #[] }
abbrev AlL : Type := AlM × (Bool × Bool)
abbrev frL (n : Nat) (g : Addr → Option Obj) : PySem.W.Frag := He.frT g (asM g n)
def obsL (n : Nat) (fa : List He.Fa) (fn : List He5.DefA) (fb : List Fb) (fx : List Fx) (tf : List He.Defn) (g : Addr → Option Obj) : AlL := ((He5.obsA fa fn (frL n g), fb.all fun f => f.ok (frL n g)), (fx.all fun f => f.ok (frL n g), He.tabsB g tf (frL n g)))
theorem saysL_of {n : Nat} {fa : List He.Fa} {fn : List He5.DefA} {fb : List Fb} {fx : List Fx} {tf : List He.Defn} {h : Heap} (e : obsL n fa fn fb fx tf h.get? = ((He5.valA fn, true), (true, true))) : SaysL fa fn fb fx tf h (frL n h.get?) := by
  have e1 := congrArg (fun z : AlL => z.1) e
  have e2 := congrArg (fun z : AlL => z.2.1) e
  have e3 := congrArg (fun z : AlL => z.2.2) e
  have key : ∀ p ∈ tf, PySem.W.codeHdIn (frL n h.get?) (He.cT (frL n h.get?) p).1 (He.cT (frL n h.get?) p).2 = true ∧ ∃ o, h.get? (He.cT (frL n h.get?) p).2 = some o ∧ He.emptyTab o = true := by
    intro p hp
    obtain ⟨a, b⟩ := He.ba (List.all_eq_true.mp e3 p hp)
    refine ⟨a, ?_⟩
    split at b
    · rename_i o q
      exact ⟨o, q, b⟩
    · cases b
  refine ⟨congrArg Prod.fst e1, congrArg Prod.snd e1, e2, fun p hp => (key p hp).1, fun p hp => ?_, fun p hp => ?_⟩
  · obtain ⟨_, o, q, z⟩ := key p hp
    exact He.frT_none q z
  · obtain ⟨_, o, q, z⟩ := key p hp
    rw [q, He.emptyTab_eq z]
def hookL (n : Nat) (fa : List He.Fa) (fn : List He5.DefA) (fb : List Fb) (fx : List Fx) (tf : List He.Defn) : PySem.W.Hook where
  α := AlL
  obs := fun s => obsL n fa fn fb fx tf s.heap.get?
  val := fun _ => ((He5.valA fn, true), (true, true))
  says := fun _ h => ∃ K : PySem.W.Frag, K.In h ∧ SaysL fa fn fb fx tf h K
  of := fun _ _ e => ⟨_, He.frT_in, saysL_of e⟩
  keeps := fun _ _ _ ⟨K, hK, c⟩ k => ⟨K, PySem.W.Frag.In.keeps hK k, ⟨c.s, c.b, c.x, c.hd, c.out, fun p hp => k _ _ (c.emp p hp)⟩⟩
theorem obsL_eq {n : Nat} {fa : List He.Fa} {fn : List He5.DefA} {fb : List Fb} {fx : List Fx} {tf : List He.Defn} {g : Addr → Option Obj} {s : Shared} (h : ∀ a, g a = s.heap.get? a) : obsL n fa fn fb fx tf g = (hookL n fa fn fb fx tf).obs s := by
  have e : g = s.heap.get? := funext h
  rw [e] <;> rfl
theorem tx1_of {fa : List He.Fa} {fn : List He5.DefA} {fb : List Fb} {fx : List Fx} {tf : List He.Defn} {K : PySem.W.Frag} {mg : Str → Option Value} {h : Heap} (X : K.In h) (G : h.Ns mainGlobals mg) (c : SaysL fa fn fb fx tf h K) : Tx1 fa fn fb fx K mg :=
  { tx0_of X G c.s c.b with xs := c.x }
/-! ## the end -/
theorem walk_ofTE {l : PySem.W.OpenLaw} {n k : Nat} {q : Program} {loose : List Str} {XP : (Str → Option Value) → Heap → Prop} {YP : World → Heap → Prop} {d : DefRec} {CX : CXT} {x : Str}
    (hn : l.most = some n) (hn2 : n ≤ sizeLine) (hdf : d.params.defaults = []) (hr : Room k callerA)
    (F : ∀ (w : World) (mg : Str → Option Value) (fa : Addr) (h : Heap), YP w h → h.Ns mainGlobals mg → mg d.name = some (.ref fa) →
      ∃ (K : PySem.W.Frag) (fd : FuncData) (cs : List (Addr × Addr)) (sp : Sp), K.In h ∧ (∀ p ∈ cs, h.get? p.2 = some { cls := .none, data := .fields #[] }) ∧ (∀ p ∈ cs, K.lookup p.2 = none) ∧ (∀ p ∈ cs, PySem.W.CodeHd h p.1 p.2) ∧ (∀ (s : Shared) (v : Value), BindsTo s fd ⟨[v], []⟩ [(x, v)]) ∧
        (∀ (H : Hp) (a : Addr) (ns : List Int), ns.length ≤ n → (∀ p ∈ cs, H p.2 = some (.tbl #[])) → SqL K H a (ns.map V.int) → sp [.ref a] H (fun v _ => v = .bl true) fun _ _ _ => False) ∧
        ∀ base : Heap, K.In base → base.Ns mainGlobals mg → (∀ p ∈ cs, LamX.TabB base mg p.1 p.2) → FnOk l.prog w K mg base CX k fa fd [x] sp)
    (hCX : ∀ (H : Hp) (s : Shared) (e : Value) (s' : Shared), CX [] H s (fun _ _ _ => False) e s' → False) :
    PySem.W.WalkO q loose XP YP l.row.toRowW d [] (fun f vs => PySem.call f vs) := by
  refine Att.attach_callB hn hdf ?_
  intro w s₀ s₁ mg mb fa o pm cd doc a vs ns G Y ho hd hcd hmg hobj hints hlen hbits hg
  obtain ⟨K, fd, cs, sp, KX, hT, nT, C, hb, hsp, hF⟩ := F w mg fa _ Y G.T.g hmg
  exact LamX.law_callTs KX G.T.g G.T.b G.T.builtins G.T.nolimit hg hT nT C G.T.bmain hobj hints (Nat.le_trans hlen hn2) hr hF hb (fun H hH hS => hsp H a ns hlen hH hS) fun H e s' => hCX H s₁ e s'
end EB
namespace EB
open PySem PySem.Spec L2 StX ClX
set_option maxHeartbeats 1000000
/-! ## what _law_error tells -/
/-- the error's word -/
def errWord (x : Str) : Str := if x = "Contradiction" then "contradiction" else if x = "InvalidNumber" then "number" else if x = "InvalidOffer" then "offer" else if x = "InvalidStep" then "step" else if x = "TooGenerous" then "generous" else "kind"
/-- an error in the air: its name, its index (for two of them) -/
inductive ErrAt (K : PySem.W.Frag) (H : Hp) : Value → Option Addr → List V → Prop
  | plain (x : Str) : x ∈ errNames → x ≠ "InvalidOffer" → x ≠ "InvalidStep" → ErrAt K H (.ref (He.ga K x)) none [.str (errWord x)]
  | index (x : Str) (d : Addr) (i : Int) : x = "InvalidOffer" ∨ x = "InvalidStep" → H d = some (.xd [("index", .int i)]) → ErrAt K H (.ref (He.ga K x)) (some d) [.str (errWord x), .int i]
/-- _law_error(a), tl the reading of a's call: a tuple tells what came -/
def TTerr (K : PySem.W.Frag) : (XK → Hp → VK → Prop) → Hp → VK → Prop := fun tl H Q =>
  tl (fun cls d H' => ∃ ws, ErrAt K H' cls d ws ∧ ∀ p H2, Evl.Ex H' H2 → H2 p = some (.tup ws) → Q (.ref p) H2) H fun _ H' => tTup (clA (tCons (tC (.str "none")) tNil)) [] H' Q
/-- the body of its try -/
def tbErr (f c' : Addr) (q : Str) (n : Nat) (tl : XK → Hp → VK → Prop) (W : WX) : TS := fun D σ H => ∃ Ech : XK, (∀ cls d σ' H', σ'.length = n → Ech cls d H' → W cls d σ' H') ∧ σ[0]? = some (some (.ref f)) ∧ H c' = some (LamX.CodeO c' q) ∧ tl Ech H (fun _ H' => D.nx σ H')
theorem takes_len {X : Cx} {W : WX} {n : Nat} (hn : X.N.length = n) (tk : Takes X W) : Takes X (fun c d σ H => σ.length = n → W c d σ H) := fun u s' ⟨a, B, sI, pins, σ, H, cls, d, e, I, nb, up, sky, na, os, ag, w⟩ =>
  tk u s' ⟨a, B, sI, pins, σ, H, cls, d, e, I, nb, up, sky, na, os, ag, w (I.len.trans hn)⟩
section
variable {K : PySem.W.Frag} {σ : L2.St} {H : Hp} {Q : VK} {a : Addr} {d : Option Addr}
theorem w_isX {x y : Str} (E : ErrK K) (hx : x ∈ errNames) (hy : y ∈ errNames) (hd : ∀ dd, d = some dd → ∃ fs, H dd = some (.xd fs)) (q : Q (.bl (decide (x = y))) H) : rIsX K (.ref (He.ga K x)) a d [.ref a, .ref (He.ga K y)] H Q :=
  ⟨_, _, .ref (He.ga K y), _, rfl, (E.ek x hx).ex, rfl, fun _ h => h, E.kt x hx y hy, hd, q⟩
theorem w_isXV {x : Str} (E : ErrK K) (hx : x ∈ errNames) (hd : ∀ dd, d = some dd → ∃ fs, H dd = some (.xd fs)) (q : Q (.bl true) H) : rIsX K (.ref (He.ga K x)) a d [.ref a, .ty "ValueError"] H Q :=
  ⟨_, _, .type "ValueError", _, rfl, (E.ek x hx).ex, rfl, fun _ h => h, E.kv x hx, hd, q⟩
theorem w_countL {l : Addr} {ys : List V} {y : V} (h : H l = some (.lst ys)) (fy : flatV y = true) (f : ys.all flatV = true) (q : Q (.int ((ys.countP fun z => eqV z y : Nat) : Int)) H) : rCountL K (.ref l) [y] H Q := ⟨l, ys, y, rfl, rfl, Evl.sq_of h, fy, f, q⟩
theorem w_indexL {l : Addr} {ys : List V} {y : V} (j : Nat) (z : V) (h : H l = some (.lst ys)) (fy : flatV y = true) (f : ys.all flatV = true) (hj : ys[j]? = some z) (e : eqV z y = true) (no : ∀ m z', m < j → ys[m]? = some z' → eqV z' y = false) (q : Q (.int (j : Nat)) H) : rIndex K (.ref l) [y] H Q :=
  ⟨l, ys, y, j, z, rfl, rfl, Evl.sq_of h, fy, f, hj, e, no, q⟩
theorem w_extendL {l b : Addr} {xs zs : List V} (h1 : H l = some (.lst xs)) (h2 : H b = some (.lst zs)) (z : xs.length + zs.length ≤ 100000) (q : ∀ H2, ExB l H H2 → H2 l = some (.lst (xs ++ zs)) → Q .non H2) : rExtend (.ref l) [.ref b] H Q :=
  ⟨l, b, xs, zs, rfl, rfl, h1, h2, Nat.le_trans z (by decide), q _ ExB.upd upd_same⟩
theorem w_xfx {x f : Str} {i : Nat} {dd : Addr} {fs : List (Str × V)} {v : V} (E : ErrK K) (hx : x ∈ errNames) (no : PySem.W.findIn K (.ref (He.ga K x)) f = some none) (hs : σ[i]? = some (some (.ref a))) (h : H dd = some (.xd fs)) (l : fs.lookup f = some v) (q : Q v H) : tXfx K (.ref (He.ga K x)) a (some dd) f (tVar i) σ H Q :=
  ⟨_, hs, rfl, _, dd, fs, v, rfl, (E.ek x hx).xf, no, rfl, h, l, q⟩
end
end EB
namespace EB
open PySem PySem.Spec L2 StX ClX
set_option maxHeartbeats 1000000
/-! ## defs that raise -/
section
variable {P : Program} {w : World} {K : PySem.W.Frag} {mg : Str → Option Value} {base : Heap} {N : List Str} {qual : Str} {scope : Scope} {f : Addr} {cdv : Value} {A : Around} {outer : List Env} {s : Shared} {H : Hp} {E : XK}
theorem tk_cx : Takes (cxOf (L2.CX P w) P w K mg base N qual scope f cdv A outer s H E) (fun cls d _ H' => E cls d H') := L2.takes_of rfl rfl rfl rfl
theorem px_cx : Passes (L2.CX P w) (cxOf (L2.CX P w) P w K mg base N qual scope f cdv A outer s H E) E := passes_call tk_cx fun _ _ _ _ h => h
theorem owns_cx : PassesOwn (model P w) (cxOf (L2.CX P w) P w K mg base N qual scope f cdv A outer s H E).A (cxOf (L2.CX P w) P w K mg base N qual scope f cdv A outer s H E).env (cxOf (L2.CX P w) P w K mg base N qual scope f cdv A outer s H E).xe := passes_of (X := cxOf (L2.CX P w) P w K mg base N qual scope f cdv A outer s H E) rfl
theorem tk_lam {X : Cx} {c' : Addr} : Takes (LamX.lamCx X A outer s H E scope f c') (fun cls d _ H' => E cls d H') := L2.takes_of rfl rfl rfl rfl
theorem px_lam {X : Cx} {c' : Addr} (hp : X.prog = P := by rfl) (hw : X.w = w := by rfl) : Passes (L2.CX P w) (LamX.lamCx X A outer s H E scope f c') E := by
  subst hp hw
  exact passes_call tk_lam fun _ _ _ _ h => h
end
/-- raise e -/
def tRs (t : L2.St → Hp → XK → Prop) (E : XK) : TS := fun _ σ H => t σ H E
theorem ps_rs {X : Cx} {E : XK} {e : Expr} {t : L2.St → Hp → XK → Prop} {pos : Pos} (hc : X.calm = true) (tk : Takes X fun cls d _ H' => E cls d H') (he : PMk X e t) : PS X (.Raise (some e) none pos) (tRs t E) := ps_raise hc tk he
/-- C('..'), C without its own __init__ -/
def tMkT (C : Addr) : L2.St → Hp → XK → Prop := fun _ H Q => Q (.ref C) none H
theorem pmk_txt {X : Cx} {C : Addr} {x m : Str} {j : Nat} {p p2 pos : Pos} (q : PySem.W.excIn X.K C He.veBase "ValueError.__new__" = true ∧ PySem.W.keepIn X.K (.ref C) = true ∧ PySem.W.subIn X.K (.ref C) (.type "BaseException") = some true ∧ PySem.W.typeIn X.K (.ref C) = some (.type "type")) (gC : X.mg x = some (.ref C)) (hg : Gl X x)
    (hdb : (x == ("__debug__" : Str)) = false := by decide) : PMk X (.Call (.Name x p) [.Constant (.str m) j p2] [] pos) (tMkT C) := pmk_own F.excBase_ValueError q.1 gC q.2.1 (raises_own q.2.2.1 q.2.2.2) hg hdb
/-- C(f = e), C with its own __init__ -/
abbrev tMkF (K : PySem.W.Frag) (C : Addr) (f : Str) (te : TE) : L2.St → Hp → XK → Prop := tMkK C (sp_excInit K f) gApp 1 (tCons te tNil)
theorem pmk_fld {X : Cx} {C : Addr} {x f : Str} {k : Nat} {e : Expr} {te : TE} {fd : FuncData} {p kp pos : Pos} (T : OexI X.K C) (F1 : FnOk X.prog X.w X.K X.mg X.base CX0 k (He.ma X.K C "__init__") fd ["self", f] (sp_excInit X.K f)) (hb : KBn X.K fd ["self", f] 1 [f] gApp gApp) (hr : Room (k + 1) X.A)
    (hg : Gl X x) (hm : X.mg x = some (.ref C)) (he : PE X e te) (hall : (backToKw pos (keywordEach [⟨some f, e, kp⟩] X.env)).all (·.1.isSome) = true := by rfl) (hks : (backToKw pos (keywordEach [⟨some f, e, kp⟩] X.env)).filterMap (·.1) = [f] := by rfl) (hdb : (x == ("__debug__" : Str)) = false := by decide)
    (hpl : ((backTo pos (starEach [] X.env)).any (·.1) || (backToKw pos (keywordEach [⟨some f, e, kp⟩] X.env)).any (·.1.isNone)) = false := by rfl) : PMk X (.Call (.Name x p) [] [⟨some f, e, kp⟩] pos) (tMkF X.K C f te) :=
  pmk_kw T.o T.i T.f F1 hr hb (fun _ _ _ _ _ _ _ z => z.elim) hg hm (pk_cons he pk_nil) hall hks hdb hpl
/-- C() -/
theorem pe_makeR0 {X : Cx} {CX : CXT} {k : Nat} {f C : Addr} {sp : Sp} {E : XK} {x : Str} {p pos : Pos} (M : Mk X.K C f) (F : FnR X.prog X.w X.K X.mg X.base CX k f sp) (hr : Room (k + 1) X.A) (hg : Gl X x) (hm : X.mg x = some (.ref C)) (hx : Passes CX X E) (hdb : (x == ("__debug__" : Str)) = false := by decide) :
    PE X (.Call (.Name x p) [] [] pos) (tMakeR C sp E tNil) := by
  constructor
  intro pins s σ H Q I h
  exact wpAny_Call_Name_kw (ld_glob I hg hm (PySem.W.callWith_K0 I.kIn M.kp (run_makeR (us := []) (vs := []) M F hr hx I .nil h)) hdb)
end EB
namespace EB
open PySem PySem.Spec L2 StX ClX
set_option maxHeartbeats 1000000
/-! ## x(lambda: body), x a def of the text that tells what the call does -/
theorem pe_lamH {X : Cx} {Tb : List (Addr × Str)} {TT : (XK → Hp → VK → Prop) → Hp → VK → Prop} {x a : Str} {g c P : Addr} {k : Nat} {st : Stmt} {fd : FuncData} {Ng : List Str} {params : Arguments} {body : Expr} {scope : Scope} {t : XK → TE} {p lpos pos : Pos}
    (F : FunD X.K x x (defArgs st) (defBody st) (defScope st) [] [] g fd) (hbn : ∀ (kV doc pm : Value) (an : Option Addr) (cdv ct : Value) (u : Value), bindArgs (PySem.W.fnOf x x (defArgs st) (defBody st) (defScope st) .none kV doc pm an cdv ct) ⟨[u], []⟩ = pure [(a, u)])
    (S : FnScope Ng [a] (defScope st)) (hNg : Ng[0]? = some a) (hva : Vis (defScope st) a) (hg : Gl X x) (hm : X.mg x = some (.ref g)) (hG : ∀ cdv, LamX.GivesTo X Ng x (defScope st) g cdv (defBody st) a (X.env.qual ++ "<lambda>") TT)
    (TB : LamX.TabB X.base X.mg c P) (hcode : X.env.code = .ref c) (hmT : (P, X.env.qual ++ "<lambda>") ∈ Tb) (hu : ∀ p ∈ Tb, p.1 = P → p.2 = X.env.qual ++ "<lambda>") (hr : Room (k + 2) X.A) (L : LamX.LamS X.env.scope scope) (hdef : defaultsOf params X.env = ([], []))
    (hbind : ∀ (q : Str) (cl : List (Str × Addr)) (pm cv ctv : Value), bindArgs (PySem.W.kla_fn "<lambda>" q params body scope cl pm cv ctv) ⟨[], []⟩ = pure [])
    (hbody : ∀ (A : Around) (outer : List Env) (s : Shared) (H : Hp) (E : XK) (f c' : Addr), Room k (A.deeper (LamX.lamEnv X scope s.heap.objs.size f c')) → PE (LamX.lamCx X A outer s H E scope f c') body (t E))
    (hdb : (x == ("__debug__" : Str)) = false := by decide) (hd : (a == ("__debug__" : Str)) = false := by decide) (hcd : (a == ("__classdict__" : Str)) = false := by decide) :
    PE X (.Call (.Name x p) [.Lambda params body scope lpos] [] pos) (LamX.tLam Tb TT t) := by
  have b := F.bindsN (ps := [a]) fun kV doc pm an cdv ct us hl => match us, hl with | [u], _ => hbn kV doc pm an cdv ct u
  have kp := F.kp
  obtain ⟨oc, od, dV, kV, doc, pm, an, cdv, ct, osl, rfl, lk, hcdv, hD, _⟩ := F.ex
  obtain rfl : dV = .none := by
    rcases hD with ⟨_, z⟩ | ⟨z, _⟩
    · exact z
    · exact absurd rfl z
  exact LamX.pe_lamcall hg hm kp lk hcdv b S hNg hva (hG cdv) TB hcode hmT hu hr L hdef hbind hbody hdb hd hcd
/-- a law's table of lambdas stands at P -/
abbrev lawTab (P : Addr) : List (Addr × Str) := [(P, (("law" : Str) ++ (".<locals>." : Str)) ++ ("<lambda>" : Str))]
/-! ### an exception class's own __init__ -/
def t_excInit (K : PySem.W.Frag) (B : Addr) (z f : Str) : TS := tSeq (tDrop (tTeI K (tC (.ref B)) B (tCons (tVar 0) (tCons (tC (.str z)) tNil)))) (tOst K f (tVar 0) (tVar 1))
theorem pure_excInit {K : PySem.W.Frag} {H : Hp} {Q : VK} {E : XK} {vs : List V} {B : Addr} {z f : Str} (h : sp_excInit K f vs H Q E) : t_excInit K B z f { nx := fun _ H' => Q .non H', rt := Q } (start ["self", f] vs) H := by
  obtain ⟨a, C, y, rfl, T, no, ha, k⟩ := h
  show tSeq _ _ _ [some (V.ref a), some y] H
  refine w_seq (w_drop ?_)
  refine (show tC (.ref B) _ H _ from w_c ⟨rfl, ?_⟩)
  refine w_cons (w_var rfl (w_cons (w_c (w_nil ?_))))
  refine ⟨a, C, [.str z], rfl, by simp, T, ha, ?_⟩
  show tOst K f (tVar 0) (tVar 1) { nx := fun _ H' => Q V.non H', rt := Q } [some (V.ref a), some y] H
  unfold tOst
  refine w_var rfl ?_
  show tVar 0 [some (V.ref a), some y] H _
  refine w_var rfl ?_
  exact ⟨a, C, rfl, T, no, .inl ⟨ha, fun dx hd ne => k dx hd ne⟩⟩
/-! def f(a, *v), which may raise -/
section
variable {P : Program} {w : World} {K : PySem.W.Frag} {mg : Str → Option Value} {base : Heap} {k : Nat} {f : Addr} {spi : Sp} {fd : FuncData} {x qual : Str} {params : Arguments} {body : List Stmt} {scope : Scope} {N : List Str}
theorem fnR_star1X {a v : Str} (F : FunD K x qual params body scope [] [] f fd) (S : FnScope N [a, v] scope)
    (hbody : ∀ (cdv : Value) (A : Around) (outer : List Env) (s : Shared) (H : Hp) (vs : List V) (Q : VK) (E : XK), Room k (A.deeper (PyProof.Rows.envOfC qual scope s.heap.objs.size f cdv)) → spi vs H Q E →
      ∃ t, PSs (cxOf (L2.CX P w) P w K mg base N qual scope f cdv A outer s H E) body t ∧ t { nx := fun _ H' => Q .non H', rt := Q } (start N vs) H)
    (h0 : ∀ (kV doc pm : Value) (an : Option Addr) (cdv ct : Value) (u : Value), bindArgs (PySem.W.fnOf x qual params body scope .none kV doc pm an cdv ct) ⟨[u], []⟩ = (newTuple [] >>= fun t => pure [(a, u), (v, t)]))
    (h1 : ∀ (kV doc pm : Value) (an : Option Addr) (cdv ct : Value) (u r : Value) (rs : List Value), bindArgs (PySem.W.fnOf x qual params body scope .none kV doc pm an cdv ct) ⟨u :: r :: rs, []⟩ = (newTuple (r :: rs) >>= fun t => pure [(a, u), (v, t)])) :
    FnR P w K mg base (L2.CX P w) (k + 1) f (fun vs H Q E => ∃ ws rest, vs = ws ++ rest ∧ ws.length = 1 ∧ rest.length ≤ sizeLine ∧ ∀ p, H p = none → spi (ws ++ [V.ref p]) (upd H p (.tup rest)) Q E) := by
  obtain ⟨oc, od, dV, kV, doc, pm, an, cdv, ct, osl, rfl, lk, hcd, hD, _⟩ := F.ex
  obtain rfl : dV = .none := by
    rcases hD with ⟨_, z⟩ | ⟨z, _⟩
    · exact z
    · exact absurd rfl z
  exact fn_star (ps := [a]) lk hcd S cxUp (bind_star1 (B := fun us => bindArgs (PySem.W.fnOf x qual params body scope .none kV doc pm an cdv ct) ⟨us, []⟩) (fun u => h0 kV doc pm an cdv ct u) fun u r rs => h1 kV doc pm an cdv ct u r rs)
    fun A outer s H vs Q E hr h => hbody cdv A outer s H vs Q E hr h
end
/-- the promise of a law with lambdas: its table stands at P, empty -/
def sp_lawL (K : PySem.W.Frag) (P : Addr) : Sp := fun vs H Q _ => ∃ (a : Addr) (ns : List Int), vs = [.ref a] ∧ SqL K H a (ns.map V.int) ∧ ns.length ≤ 63 ∧ H P = some (.tbl #[]) ∧ ∀ H', Q (.bl true) H'
theorem len_lawL {K P} : ∀ vs H Q E, sp_lawL K P vs H Q E → vs.length = 1 := by rintro _ _ _ _ ⟨_, _, rfl, _⟩; rfl
end EB
namespace EB
open PySem PySem.Spec L2 StX ClX
set_option maxHeartbeats 1000000
/-! ## offers that are refused -/
/-- trades of any numbers and short kinds -/
structure Raw (ts : List Tr) : Prop where
  len : ts.length ≤ 10
  str : ∀ t ∈ ts, t.1.length ≤ 100 ∧ PyData.strOk t.1 = true
/-- the trade at place k is refused -/
def badAt (ts : List Tr) (k : Nat) : Bool := match ts[k]? with
  | some t => decide (k = 3) || (!isTr t || decide (t.1 ∈ (ts.take k).map (·.1)))
  | none => false
inductive Due where
  | offer (k : Nat)
  | generous
  | fine
deriving DecidableEq
def due (ts : List Tr) : Due := if ts = [] then .offer 0 else match (List.range ts.length).find? (badAt ts) with
  | some k => .offer k
  | none => if 9 * 27720 < 10 * bo ts 27720 then .generous else .fine
theorem due_nil : due [] = .offer 0 := rfl
theorem find_first {p : Nat → Bool} {n i : Nat} (hi : i < n) (hp : p i = true) (h : ∀ j, j < i → p j = false) : (List.range n).find? p = some i := by
  rw [List.find?_eq_some_iff_getElem]
  refine ⟨hp, i, by simpa using hi, by simp, fun j hj => ?_⟩
  simp [h j hj]
theorem due_bad {ts : List Tr} {i : Nat} (hi : i < ts.length) (hp : badAt ts i = true) (h : ∀ j, j < i → badAt ts j = false) : due ts = .offer i := by
  unfold due
  rw [if_neg (fun z => by rw [z] at hi; cases hi), find_first hi hp h]
theorem due_good {ts : List Tr} (ne : ts ≠ []) (h : ∀ j, j < ts.length → badAt ts j = false) : due ts = if 9 * 27720 < 10 * bo ts 27720 then .generous else .fine := by
  unfold due
  rw [if_neg ne]
  have e : (List.range ts.length).find? (badAt ts) = none := by
    rw [List.find?_eq_none]
    intro j hj
    rw [h j (List.mem_range.mp hj)]
    simp
  rw [e]
theorem badAt_some {ts : List Tr} {k : Nat} {t : Tr} (h : ts[k]? = some t) : badAt ts k = (decide (k = 3) || (!isTr t || decide (t.1 ∈ (ts.take k).map (·.1)))) := by
  unfold badAt
  rw [h]
theorem badAt_not {ts : List Tr} {k : Nat} {t : Tr} (h : ts[k]? = some t) (b : badAt ts k = false) : k ≠ 3 ∧ isTr t = true ∧ t.1 ∉ (ts.take k).map (·.1) := by
  rw [badAt_some h] at b
  simp only [Bool.or_eq_false_iff, decide_eq_false_iff_not, Bool.not_eq_false'] at b
  exact ⟨b.1, b.2.1, b.2.2⟩
theorem isTr_good {t : Tr} (h : isTr t = true) : Good t ∧ isTK t.1 = true ∧ t.1.length ≤ 8 := by
  unfold isTr at h
  simp only [Bool.and_eq_true, decide_eq_true_eq] at h
  refine ⟨⟨h.2.1.1, h.2.1.2, h.2.2.1, h.2.2.2⟩, h.1, ?_⟩
  have k := h.1
  unfold isTK isKind at k
  simp only [Bool.and_eq_true, decide_eq_true_eq] at k
  have := k.1.1.2
  omega
theorem goods_of {ts : List Tr} (h : ∀ j, j < ts.length → badAt ts j = false) : Goods ts := by
  refine ⟨?_, fun t ht => ?_⟩
  · refine Nat.le_of_not_lt fun l => ?_
    obtain ⟨t, ht⟩ : ∃ t, ts[3]? = some t := ⟨ts[3], List.getElem?_eq_getElem l⟩
    exact (badAt_not ht (h 3 l)).1 rfl
  · obtain ⟨i, hi⟩ := List.mem_iff_getElem?.mp ht
    have l : i < ts.length := (List.getElem?_eq_some_iff.mp hi).1
    exact (isTr_good (badAt_not hi (h i l)).2.1).1
theorem nodup_of {α β : Type} {f : α → β} : ∀ {ts : List α}, (∀ (j : Nat) (t : α), ts[j]? = some t → f t ∉ (ts.take j).map f) → (ts.map f).Nodup := by
  intro ts h
  refine List.pairwise_iff_getElem.mpr fun i j hi hj l e => ?_
  rw [List.length_map] at hi hj
  rw [List.getElem_map, List.getElem_map] at e
  refine h j ts[j] (List.getElem?_eq_getElem hj) ?_
  rw [← e]
  refine List.mem_map.mpr ⟨ts[i], ?_, rfl⟩
  rw [List.mem_iff_getElem?]
  exact ⟨i, by rw [List.getElem?_take_of_lt l]; exact List.getElem?_eq_getElem hi⟩
theorem offerOk_of {ts : List Tr} (h : due ts = .fine) : OfferOk ts := by
  have ne : ts ≠ [] := fun z => by rw [z, due_nil] at h; cases h
  have good : ∀ j, j < ts.length → badAt ts j = false := by
    intro j hj
    unfold due at h
    rw [if_neg ne] at h
    cases q : (List.range ts.length).find? (badAt ts) with
    | some k => rw [q] at h; cases h
    | none =>
      rw [List.find?_eq_none] at q
      have := q j (List.mem_range.mpr hj)
      simpa using this
  have g := goods_of good
  rw [due_good ne good] at h
  have w : 10 * bo ts 27720 ≤ 9 * 27720 := by
    by_cases z : 9 * 27720 < 10 * bo ts 27720
    · rw [if_pos z] at h; cases h
    · omega
  refine ⟨⟨g, w⟩, by have := List.length_pos_iff.mpr ne; omega, fun t ht => ?_, nodup_of fun j t ht => ?_⟩
  · obtain ⟨i, hi⟩ := List.mem_iff_getElem?.mp ht
    have l : i < ts.length := (List.getElem?_eq_some_iff.mp hi).1
    exact (isTr_good (badAt_not hi (good i l)).2.1).2
  · have l : j < ts.length := (List.getElem?_eq_some_iff.mp ht).1
    exact (badAt_not ht (good j l)).2.2
/-- the measure of the program is as good -/
theorem worth_iff {ts : List Tr} (g : Goods ts) : (9 * ndm ts < 10 * bo ts (ndm ts)) ↔ 9 * 27720 < 10 * bo ts 27720 := by
  have p := ndm_pos g.2
  have e := bo_exact g.2 (d := ndm ts) fun t ht => Int.dvd_trans (ndm_dvd g.2 t ht) (Int.dvd_mul_left ..)
  constructor
  · intro h
    refine Int.lt_of_mul_lt_mul_left (a := ndm ts) ?_ (by omega)
    have e2 : ndm ts * (10 * bo ts 27720) = 10 * (27720 * bo ts (ndm ts)) := by
      rw [e, Int.mul_left_comm]
    rw [e2]
    omega
  · intro h
    have e2 : ndm ts * (10 * bo ts 27720) = 10 * (27720 * bo ts (ndm ts)) := by
      rw [e, Int.mul_left_comm]
    have := Int.mul_lt_mul_of_pos_left h p
    rw [e2] at this
    omega
/-- what is asked where an offer is refused -/
def DueE (K : PySem.W.Frag) (H : Hp) (E : XK) : Due → Prop
  | .offer k => ∀ d H', H d = none → Ex H H' → H' d = some (.xd [("index", .int (k : Nat))]) → E (.ref (He.ga K "InvalidOffer")) (some d) H'
  | .generous => ∀ H', Ex H H' → E (.ref (He.ga K "TooGenerous")) none H'
  | .fine => True
theorem DueE.up {K : PySem.W.Frag} {H H' : Hp} {E : XK} {u : Due} (h : DueE K H E u) (e : Ex H H') : DueE K H' E u := by
  cases u with
  | offer k => exact fun d H2 n e2 hd => h d H2 (Evl.fresh_back e n) (Evl.Ex.trans e e2) hd
  | generous => exact fun H2 e2 => h H2 (Evl.Ex.trans e e2)
  | fine => trivial
def spix_Offer_init (K : PySem.W.Frag) : Sp := fun vs H Q E => ∃ x dx a ts, vs = [.ref x, .ref a] ∧ H x = some (.ins (He.ga K "Offer") dx []) ∧ Trs H a ts ∧ Raw ts ∧ DueE K H E (due ts) ∧
  (due ts = .fine → ∀ H', ExB x H H' → H' x = some (.ins (He.ga K "Offer") dx [("parts", .ref a)]) → Q .non H')
theorem lenx_Offer_init {K} : ∀ vs H Q E, spix_Offer_init K vs H Q E → vs.length = 2 := by rintro _ _ _ _ ⟨_, _, _, _, rfl, _⟩; rfl
def spx_Offer_init (K : PySem.W.Frag) : Sp := fun vs H Q E => ∃ x dx xs ts, vs = .ref x :: xs ∧ H x = some (.ins (He.ga K "Offer") dx []) ∧ Paired (TrAt H) xs ts ∧ Raw ts ∧ DueE K H E (due ts) ∧
  (due ts = .fine → ∀ a H', ExB x H H' → H' x = some (.ins (He.ga K "Offer") dx [("parts", .ref a)]) → Trs H' a ts → Q .non H')
theorem outx_Offer_init (K : PySem.W.Frag) : ∀ vs H Q E, spx_Offer_init K vs H Q E → ∃ ws rest, vs = ws ++ rest ∧ ws.length = 1 ∧ rest.length ≤ sizeLine ∧ ∀ p, H p = none → spix_Offer_init K (ws ++ [V.ref p]) (upd H p (.tup rest)) Q E := by
  rintro vs H Q E ⟨x, dx, xs, ts, rfl, hx, hp, raw, hd, k⟩
  refine ⟨[.ref x], xs, rfl, rfl, ?_, fun p np => ?_⟩
  · rw [pairedLen hp]
    exact Nat.le_trans raw.len (by decide)
  · have e : Ex H (upd H p (.tup xs)) := Evl.Ex.new np
    refine ⟨x, dx, p, ts, rfl, e _ _ hx, ⟨xs, upd_same, trsUp e hp⟩, raw, hd.up e, fun fine H' eb h1 => ?_⟩
    refine k fine p H' (fun b o nb hb => eb b o nb (e b o hb)) h1 ?_
    exact Trs.upB (e _ _ hx) (fun _ z => nomatch z) eb ⟨xs, upd_same, trsUp e hp⟩
def spx_made (K : PySem.W.Frag) (n : Nat) (lo : Nat) : Sp := fun vs H Q E => ∃ a ts, vs = [.ref a] ∧ Trs H a ts ∧ Raw ts ∧ ts.length ≤ n ∧ lo ≤ ts.length ∧ DueE K H E (due ts) ∧ (due ts = .fine → ∀ o H', H o = none → Ex H H' → OfferAt K H' o ts → Q (.ref o) H')
def spx__law_offer (K : PySem.W.Frag) : Sp := spx_made K 3 1
def spx__law_made (K : PySem.W.Frag) : Sp := spx_made K 4 0
theorem lenx_made {K n lo} : ∀ vs H Q E, spx_made K n lo vs H Q E → vs.length = 1 := by rintro _ _ _ _ ⟨_, _, rfl, _⟩; rfl
theorem lenx__law_offer {K} : ∀ vs H Q E, spx__law_offer K vs H Q E → vs.length = 1 := lenx_made
theorem lenx__law_made {K} : ∀ vs H Q E, spx__law_made K vs H Q E → vs.length = 1 := lenx_made
def spx_Offer_simple (K : PySem.W.Frag) : Sp := fun vs H Q E => ∃ m : Int, vs = [.ref (He.ga K "Offer"), .int m] ∧ DueE K H E (due [("empty", 1, m)]) ∧ (due [("empty", 1, m)] = .fine → ∀ o H', H o = none → Ex H H' → OfferAt K H' o [("empty", 1, m)] → Q (.ref o) H')
theorem lenx_Offer_simple {K} : ∀ vs H Q E, spx_Offer_simple K vs H Q E → vs.length = 2 := by rintro _ _ _ _ ⟨_, rfl, _⟩; rfl
theorem apx_make {K : PySem.W.Frag} {H H2 : Hp} {Q : VK} {E : XK} {x : Addr} {xs : List V} {ts : List Tr} {dx : Addr} (hx : H x = none) (e : Ex H H2) (h2 : H2 x = some (.ins (He.ga K "Offer") dx [])) (hp : Paired (TrAt H) xs ts) (raw : Raw ts) (hd : DueE K H E (due ts))
    (k : due ts = .fine → ∀ H', Ex H H' → OfferAt K H' x ts → Q (.ref x) H') : spx_Offer_init K (.ref x :: xs) H2 (fun v H3 => v = .non ∧ Q (.ref x) H3) E :=
  ⟨x, dx, xs, ts, rfl, h2, trsUp e hp, raw, hd.up e, fun fine a H' eb h1 hT => ⟨rfl, k fine H' (ExB.ex e hx eb) ⟨dx, a, h1, hT⟩⟩⟩
theorem w_makeR0 {σ : L2.St} {H : Hp} {Q : VK} {E : XK} {C : Addr} {sp : Sp} (q : ∀ x dx H2, H x = none → Ex H H2 → H2 x = some (.ins C dx []) → sp [.ref x] H2 (fun v H3 => v = .non ∧ Q (.ref x) H3) E) : tMakeR C sp E tNil σ H Q :=
  fun x dx hx hdx ne => q x dx _ hx (Evl.Ex.trans (Evl.Ex.new hdx) (Evl.Ex.new (by rw [upd_ne ne.symm]; exact hx))) upd_same
/-- x <= y, texts -/
def rLeS : R2 := fun x y H Q => ∃ i j, x = .str i ∧ y = .str j ∧ Q (.bl (!decide (j.cps.toList < i.cps.toList))) H
def sp_Offer_kinds (K : PySem.W.Frag) : Sp := fun vs H Q _ => ∃ (o : Addr) (ts : List Tr), vs = [.ref o] ∧ OfferAt K H o ts ∧ ts.length ≤ 10 ∧ ∀ a H', H' a = some (.tup (ts.map fun t => .str t.1)) → Ex H H' → Q (.ref a) H'
theorem len_Offer_kinds {K} : ∀ vs H Q E, sp_Offer_kinds K vs H Q E → vs.length = 1 := by rintro _ _ _ _ ⟨_, _, rfl, _⟩; rfl
/-- the tuple that _law_due tells -/
def dueV : Due → List V
  | .offer k => [.str "offer", .int (k : Nat)]
  | .generous => [.str "generous"]
  | .fine => [.str "none"]
def sp__law_due (_ : PySem.W.Frag) : Sp := fun vs H Q _ => ∃ a ts, vs = [.ref a] ∧ Trs H a ts ∧ Raw ts ∧ ∀ p H', H p = none → Ex H H' → H' p = some (.tup (dueV (due ts))) → Q (.ref p) H'
theorem len__law_due {K} : ∀ vs H Q E, sp__law_due K vs H Q E → vs.length = 1 := by rintro _ _ _ _ ⟨_, _, rfl, _⟩; rfl
end EB
namespace EB
open PySem PySem.Spec L2 StX ClX
set_option maxHeartbeats 2000000
section
variable {K : PySem.W.Frag} {H : Hp} {Q : VK} {E : XK} {vs : List V} {σ : L2.St}
/-- [c for c in text if test] -/
theorem w_lcSf {ws : List Nat} {z : Str} {tl : TE} {g : TG} {tt : TT} {te : TE} (p : Nat → Bool) (hz : z.cps.size ≤ 1000) (ht : ∀ R : VK, R (.str z) H → tl σ H R)
    (hb : ∀ (i cc : Nat), z.cps[i]? = some cc → ∀ H1, Ex H H1 → ∀ (R : VK) (N : Hp → Prop), (p cc = true → ∀ H2, Ex H1 H2 → R (.str ⟨#[cc]⟩) H2) → (p cc = false → ∀ H2, Ex H1 H2 → N H2) → g (.str ⟨#[cc]⟩) (wipe σ ws) H1 fun σ2 H2 => wipe σ2 ws = wipe σ ws ∧ tt σ2 H2 fun b H3 => if b = true then te σ2 H3 R else N H3)
    (q : ∀ r H2, H r = none → Ex H H2 → H2 r = some (.lst ((z.cps.toList.filter p).map fun c => V.str ⟨#[c]⟩)) → Q (.ref r) H2) : tLc (iStr tl) g tt te ws σ H Q := by
  refine ht _ ⟨z, rfl, fun D hD => ?_⟩
  refine lc_it walk_str (fun (i : Nat) H' => Ex H H' ∧ H' D = some (.lst (((z.cps.toList.take i).filter p).map fun c => V.str ⟨#[c]⟩))) ⟨Evl.Ex.new hD, by simpa using upd_same⟩ (fun _ _ _ _ => trivial) ?_ ?_
  · rintro i x H' H'' hi ⟨e, hd⟩ ⟨rfl, cc, hc, rfl⟩
    have hc' : z.cps.toList[i]? = some cc := by simpa using hc
    have st : (z.cps.toList.take (i + 1)).filter p = (z.cps.toList.take i).filter p ++ (if p cc = true then [cc] else []) := by
      rw [List.take_succ, hc', List.filter_append]
      cases hp : p cc <;> simp [hp]
    refine hb i cc hc H'' e _ _ (fun pt H2 e2 => ?_) (fun pf H2 e2 => ?_)
    · refine ⟨_, e2 D _ hd, ?_, ExB.ex (Evl.Ex.trans e e2) hD ExB.upd, ?_⟩
      · rw [List.length_map]
        refine Nat.lt_of_le_of_lt (List.length_filter_le _ _) (Nat.lt_of_le_of_lt ?_ (by decide : 1000 < sizeLine))
        rw [List.length_take, Array.length_toList]
        exact Nat.le_trans (Nat.min_le_right _ _) hz
      · rw [upd_same, st, if_pos pt, List.map_append]
        rfl
    · refine ⟨Evl.Ex.trans e e2, ?_⟩
      rw [e2 D _ hd, st, if_neg (by rw [pf]; decide), List.append_nil]
  · rintro H' ⟨e, hd⟩
    have l : z.cps.toList.take z.cps.size = z.cps.toList := by rw [← Array.length_toList, List.take_length]
    rw [l] at hd
    exact q D H' hD e hd
theorem let_range : ∀ c : Nat, c ∈ LET.cps.toList ↔ 97 ≤ c ∧ c ≤ 122 := by
  have e : LET.cps.toList = (List.range 26).map (97 + ·) := by decide +kernel
  intro c
  rw [e, List.mem_map]
  constructor
  · rintro ⟨i, hi, rfl⟩
    have := List.mem_range.mp hi
    omega
  · rintro ⟨h1, h2⟩
    exact ⟨c - 97, List.mem_range.mpr (by omega), by omega⟩
theorem w_leS {x y : Str} (q : Q (.bl (!decide (y.cps.toList < x.cps.toList))) H) : rLeS (.str x) (.str y) H Q := ⟨x, y, rfl, rfl, q⟩
theorem le_a (c : Nat) : (!decide ((⟨#[c]⟩ : Str).cps.toList < ("a" : Str).cps.toList)) = decide (97 ≤ c) := by
  have e : ("a" : Str).cps.toList = [97] := by decide +kernel
  rw [e]
  show (!decide ([c] < [97])) = _
  by_cases h : 97 ≤ c
  · rw [decide_eq_true h, decide_eq_false]
    · rfl
    · intro z
      rw [List.cons_lt_cons_iff] at z
      rcases z with z | ⟨_, z⟩
      · omega
      · exact absurd z (by simp)
  · rw [decide_eq_false h, decide_eq_true]
    · rfl
    · rw [List.cons_lt_cons_iff]
      exact .inl (by omega)
theorem le_z (c : Nat) : (!decide (("z" : Str).cps.toList < (⟨#[c]⟩ : Str).cps.toList)) = decide (c ≤ 122) := by
  have e : ("z" : Str).cps.toList = [122] := by decide +kernel
  rw [e]
  show (!decide ([122] < [c])) = _
  by_cases h : c ≤ 122
  · rw [decide_eq_true h, decide_eq_false]
    · rfl
    · intro z
      rw [List.cons_lt_cons_iff] at z
      rcases z with z | ⟨_, z⟩
      · omega
      · exact absurd z (by simp)
  · rw [decide_eq_false h, decide_eq_true]
    · rfl
    · rw [List.cons_lt_cons_iff]
      exact .inl (by omega)
/-- the letters' test by hand -/
theorem isKind_filter {z : Str} (l1 : 1 ≤ z.length) (l8 : z.length ≤ 8) : isKind z = decide (z.cps.toList.filter (fun c => !(decide (97 ≤ c) && decide (c ≤ 122))) = []) := by
  unfold isKind
  rw [decide_eq_true (show (1 : Int) ≤ z.length by omega), decide_eq_true (show (z.length : Int) ≤ 8 by omega), Bool.eq_iff_iff]
  simp only [Bool.true_and, List.all_eq_true, decide_eq_true_eq, List.filter_eq_nil_iff, let_range, Bool.not_eq_true', Bool.and_eq_false_iff, decide_eq_false_iff_not]
  constructor
  · intro h c hc
    have := h c hc
    omega
  · intro h c hc
    have := h c hc
    omega
theorem eq_chars {H : Hp} {a b : Addr} {cs : List Nat} (ok : ∀ c ∈ cs, c < 1114112) (h1 : H a = some (.lst (cs.map fun c => V.str ⟨#[c]⟩))) (h2 : H b = some (.lst [])) (q : Q (.bl (decide (cs = []))) H) : rEqD K (.ref a) (.ref b) H Q := by
  have dp : ∀ cs : List Nat, DpAll K H (cs.map fun c => V.str ⟨#[c]⟩) (cs.map fun c => PyData.str ⟨#[c]⟩) := by
    intro cs
    induction cs with
    | nil => exact .nil
    | cons c cs ih => exact .cons (.str _) ih
  have sh : SeqAt.shaped (.list (cs.map fun c => PyData.str ⟨#[c]⟩)) = true := by
    unfold SeqAt.shaped
    rw [Bool.and_eq_true]
    constructor
    · show PyData.canLayAll0 (cs.map fun c => PyData.str ⟨#[c]⟩) = true
      clear h1 q
      induction cs with
      | nil => rfl
      | cons c cs ih =>
        have a : PyData.strOk (⟨#[c]⟩ : Str) = true := by
          unfold PyData.strOk
          simpa using ok c List.mem_cons_self
        have b := ih fun d hd => ok d (List.mem_cons_of_mem _ hd)
        simp only [List.map_cons, PyData.canLayAll0, PyData.canLay0, a, Bool.true_and]
        exact b
    · refine decide_eq_true ?_
      show PyData.depthAll (cs.map fun c => PyData.str ⟨#[c]⟩) + 1 ≤ 64
      have : PyData.depthAll (cs.map fun c => PyData.str ⟨#[c]⟩) = 0 := by
        clear h1 q ok
        induction cs with
        | nil => rfl
        | cons c cs ih => simp only [List.map_cons, PyData.depthAll, PyData.depth, ih]; rfl
      omega
  refine w_eqD (d := .list (cs.map fun c => PyData.str ⟨#[c]⟩)) (e := .list []) (.lst (Evl.sq_of h1) (dp cs)) (.lst (Evl.sq_of h2) .nil) sh rfl ?_
  have e : PyData.eqv (.list (cs.map fun c => PyData.str ⟨#[c]⟩)) (.list []) = decide (cs = []) := by
    cases cs with
    | nil => rfl
    | cons c cs => rfl
  rw [e]
  exact q
end
end EB
namespace EB
open PySem PySem.Spec L2 StX ClX
set_option maxHeartbeats 1000000
/-! ## what stands while lists and tables change -/
def NL (H H' : Hp) : Prop := ∀ a o, (∀ zs, o ≠ .lst zs) → (∀ ps, o ≠ .tbl ps) → H a = some o → H' a = some o
theorem NL.trans {H H1 H2 : Hp} (a : NL H H1) (b : NL H1 H2) : NL H H2 := fun x o n1 n2 h => b x o n1 n2 (a x o n1 n2 h)
theorem NL.ofEx {H H1 : Hp} (e : Ex H H1) : NL H H1 := fun x o _ _ h => e x o h
theorem NL.ofN {H H1 : Hp} (e : LamX.ExtN H H1) : NL H H1 := fun x o _ n2 h => e x o h n2
theorem NL.ofS {H H1 : Hp} {h c : Addr} (s : Src H h c) (u : SrcUp h c H H1) : NL H H1 := fun _ _ n1 _ q => u.at s q n1
theorem NL.ofB {H H1 : Hp} {l : Addr} {zs : List V} (hl : H l = some (.lst zs)) (e : ExB l H H1) : NL H H1 := fun x o n1 _ q => e x o (ne_of q hl (n1 _)) q
theorem NL.tup {H H1 : Hp} {a : Addr} {xs : List V} (n : NL H H1) (h : H a = some (.tup xs)) : H1 a = some (.tup xs) := n a _ (fun _ z => nomatch z) (fun _ z => nomatch z) h
theorem NL.ins {H H1 : Hp} {a C dx : Addr} {fs : List (Str × V)} (n : NL H H1) (h : H a = some (.ins C dx fs)) : H1 a = some (.ins C dx fs) := n a _ (fun _ z => nomatch z) (fun _ z => nomatch z) h
theorem trsUpN {H H' : Hp} (n : NL H H') : ∀ {xs : List V} {ts : List Tr}, Paired (TrAt H) xs ts → Paired (TrAt H') xs ts
  | _, _, .nil => .nil
  | _, _, .cons ⟨p, e, hp⟩ r => .cons ⟨p, e, n.tup hp⟩ (trsUpN n r)
theorem Trs.upN {H H' : Hp} {a : Addr} {ts : List Tr} (n : NL H H') (h : Trs H a ts) : Trs H' a ts := by
  obtain ⟨xs, h1, h2⟩ := h
  exact ⟨xs, n.tup h1, trsUpN n h2⟩
theorem OfferAt.upN {K : PySem.W.Frag} {H H' : Hp} {o : Addr} {ts : List Tr} (n : NL H H') (h : OfferAt K H o ts) : OfferAt K H' o ts := by
  obtain ⟨dx, a, h1, h2⟩ := h
  exact ⟨dx, a, n.ins h1, h2.upN n⟩
theorem Src.upN {H H' : Hp} {h c : Addr} (s : Src H h c) (e : LamX.ExtN H H') : Src H' h c := by
  obtain ⟨m, k, ns, h1, h2, r⟩ := s.ex
  exact ⟨m, k, ns, e _ _ h1 (fun _ z => nomatch z), e _ _ h2 (fun _ z => nomatch z), r⟩
section
variable {T : List (Addr × Str)} {H H' : Hp}
/-- tables and their codes are no lists -/
theorem tabsBy (k : ∀ a o, (∀ zs, o ≠ .lst zs) → H a = some o → H' a = some o) (t : LamX.Tabs T H) : LamX.Tabs T H' := fun p hp => by
  obtain ⟨ps, h1, h2, h3⟩ := t p hp
  refine ⟨ps, k _ _ (fun _ z => nomatch z) h1, h2, fun pos cv hc => ?_⟩
  obtain ⟨c, e1, e2⟩ := h3 pos cv hc
  exact ⟨c, e1, k _ _ (fun _ z => by unfold LamX.CodeO at z; nomatch z) e2⟩
theorem tabsS {h c : Addr} (s : Src H h c) (u : SrcUp h c H H') (t : LamX.Tabs T H) : LamX.Tabs T H' := tabsBy (fun _ _ n q => u.at s q n) t
theorem tabsB {l : Addr} {zs : List V} (hl : H l = some (.lst zs)) (e : ExB l H H') (t : LamX.Tabs T H) : LamX.Tabs T H' := tabsBy (fun _ _ n q => e _ _ (ne_of q hl (n _)) q) t
theorem tabsE (e : Ex H H') (t : LamX.Tabs T H) : LamX.Tabs T H' := t.ext e
theorem w_tLam {TT : (XK → Hp → VK → Prop) → Hp → VK → Prop} {t : XK → TE} {σ : L2.St} {Q : VK} (tb : LamX.Tabs T H) (q : ∀ H1, LamX.ExtN H H1 → LamX.Tabs T H1 → TT (fun E H' Q' => t E σ H' Q') H1 Q) : LamX.tLam T TT t σ H Q := ⟨tb, q⟩
end
section
variable {K : PySem.W.Frag} {H : Hp} {Q : VK} {σ : L2.St}
/-- the handler's def, called; E: what an error must bring -/
def ErrQ (K : PySem.W.Frag) (Q : VK) : XK := fun cls d H' => ∃ ws, ErrAt K H' cls d ws ∧ ∀ p H2, Evl.Ex H' H2 → H2 p = some (.tup ws) → Q (.ref p) H2
theorem w_TTerr {tl : XK → Hp → VK → Prop} (q : tl (ErrQ K Q) H fun _ H' => ∀ p H2, Ex H' H2 → H2 p = some (.tup [.str "none"]) → Q (.ref p) H2) (mono : ∀ (R R' : VK), (∀ v h, R v h → R' v h) → tl (ErrQ K Q) H R → tl (ErrQ K Q) H R') : TTerr K tl H Q := by
  refine mono _ _ (fun v H' k => ?_) q
  exact w_tup (w_cons (w_c (w_nil ⟨by simp, fun p H2 _ e h => k p H2 e h⟩)))
/-- what the expected error brings -/
theorem dueE_err {u : Due} (k : u ≠ .fine → ∀ p H2, Ex H H2 → H2 p = some (.tup (dueV u)) → Q (.ref p) H2) : DueE K H (ErrQ K Q) u := by
  cases u with
  | offer i => exact fun d H' n e hd => ⟨[.str "offer", .int (i : Nat)], .index "InvalidOffer" d i (.inl rfl) hd, fun p H2 e2 h => k (fun z => nomatch z) p H2 (Evl.Ex.trans e e2) h⟩
  | generous => exact fun H' e => ⟨[.str "generous"], .plain "TooGenerous" (by decide) (by decide) (by decide), fun p H2 e2 h => k (fun z => nomatch z) p H2 (Evl.Ex.trans e e2) h⟩
  | fine => trivial
def dueD : Due → PyData
  | .offer k => .tuple [.str "offer", .int (k : Nat)]
  | .generous => .tuple [.str "generous"]
  | .fine => .tuple [.str "none"]
theorem dueDp {p : Addr} {u : Due} (h : H p = some (.tup (dueV u))) : Dp K H (.ref p) (dueD u) := by
  cases u with
  | offer i => exact .tup (Evl.st_of h) (.cons (.str _) (.cons (.int _) .nil))
  | generous => exact .tup (Evl.st_of h) (.cons (.str _) .nil)
  | fine => exact .tup (Evl.st_of h) (.cons (.str _) .nil)
theorem strOks : PyData.strOk "offer" = true ∧ PyData.strOk "generous" = true ∧ PyData.strOk "none" = true := by decide +kernel
theorem dueSh (u : Due) : SeqAt.shaped (dueD u) = true := by
  obtain ⟨a, b, c⟩ := strOks
  refine okD_shaped (n := 4) ?_ ?_ (by decide)
  · cases u <;> simp [dueD, okD, a, b, c]
  · cases u <;> rfl
theorem dueEq (u : Due) : PyData.eqv (dueD u) (dueD u) = true := by
  cases u <;> simp [dueD, PyData.eqv, PyData.eqvAll]
theorem w_neDue {p q : Addr} {u : Due} (h1 : H p = some (.tup (dueV u))) (h2 : H q = some (.tup (dueV u))) (k : Q (.bl false) H) : rNeD K (.ref p) (.ref q) H Q :=
  w_neD (dueDp h1) (dueDp h2) (dueSh u) (dueSh u) (by rw [dueEq]; exact k)
theorem w_eqFine {p q : Addr} {u : Due} (h1 : H p = some (.tup (dueV u))) (h2 : H q = some (.tup (dueV .fine))) (k : Q (.bl (decide (u = .fine))) H) : rEqD K (.ref p) (.ref q) H Q :=
  w_eqD (dueDp (u := u) h1) (dueDp (u := .fine) h2) (dueSh u) (dueSh _) (by
    have e : PyData.eqv (dueD u) (dueD .fine) = decide (u = .fine) := by
      cases u <;> simp [dueD, PyData.eqv, PyData.eqvAll]
      decide
    rw [e]
    exact k)
theorem dqStrs : ∀ zs : List Str, DqAll H (zs.map V.str) (zs.map PyData.str)
  | [] => .nil
  | _ :: zs => .cons (.str _) (dqStrs zs)
theorem Raw.of {ts : List Tr} (ok : OfferOk ts) (so : ∀ t ∈ ts, PyData.strOk t.1 = true) : Raw ts := ⟨by have := ok.fair.1.1; omega, fun t ht => ⟨Nat.le_trans (ok.kinds t ht).2 (by decide), so t ht⟩⟩
theorem lawTr_so {m l : Int} {ts : List Tr} (lt : LawTr m l ts) : ∀ t ∈ ts, PyData.strOk t.1 = true := fun t ht => by
  have : t.1 ∈ ts.map (·.1) := List.mem_map.mpr ⟨t, ht, rfl⟩
  rw [lt.kinds] at this
  have := List.mem_of_mem_take this
  rcases (by simpa [lawKinds] using this : t.1 = "empty" ∨ t.1 = "cap" ∨ t.1 = "label") with e | e | e <;> rw [e] <;> decide +kernel
theorem okD_strs {zs : List Str} (l : zs.length ≤ 1000) (so : ∀ z ∈ zs, PyData.strOk z = true) (n : Nat) : okD (n + 2) (.tuple (zs.map PyData.str)) = true := by
  refine Bool.and_eq_true_iff.mpr ⟨decide_eq_true (by rw [List.length_map]; exact l), List.all_eq_true.mpr fun d hd => ?_⟩
  obtain ⟨z, hz, rfl⟩ := List.mem_map.mp hd
  exact so z hz
end
end EB
namespace EB
open PySem PySem.Spec PyProof.Rows L2 StX ClX
set_option maxHeartbeats 4000000
/-! ## lambdas as values: made, kept in lists, called by a def that gets them -/
/-- the cells of the frame that made them, as they stand -/
structure Caps (X : Cx) (σ : L2.St) (H : Hp) (h : Heap) : Prop where
  inj : ∀ x y c, X.env.cells.lookup x = some c → X.env.cells.lookup y = some c → x = y
  has : ∀ x, (X.env.kindOf x = some .cell ∨ X.env.kindOf x = some .free) → ∃ c, X.env.cells.lookup x = some c
  free : ∀ x c, X.env.cells.lookup x = some c → H c = none
  cell : ∀ x c, X.env.cells.lookup x = some c → ∃ v, h.IsCell c v
  val : ∀ (i : Nat) (x : Str) (v : V) (c : Addr), X.N[i]? = some x → σ[i]? = some (some v) → X.env.cells.lookup x = some c → (X.env.kindOf x = some .cell ∨ X.env.kindOf x = some .free) → ∃ u, RelV v u ∧ h.IsCell c (some u)
  len : σ.length = X.N.length
section
variable {X : Cx} {pins : List (Addr × Obj)} {σ : L2.St} {H H' : Hp} {s : Shared} {h h' : Heap}
theorem Caps.of (I : Inv X pins σ H s) : Caps X σ H s.heap := by
  refine ⟨I.ok.inj, I.ok.has, I.freeC, I.cell, fun i x v c hi hv hc kd => ?_, I.len⟩
  obtain ⟨m, _, tell⟩ := I.loc
  have vis : Vis X.env.scope x := by
    rcases kd with z | z
    · exact .inr (.inl z)
    · exact .inr (.inr z)
  obtain ⟨u, r, look⟩ := tell i x v hi hv vis
  rcases look with ⟨z, _⟩ | ⟨_, c2, h2, z⟩
  · rcases kd with w | w <;> rw [z] at w <;> cases w
  · rw [hc] at h2
    cases h2
    exact ⟨u, r, z⟩
theorem Caps.un {fs ex : List Addr} (C : Caps X σ H h) (u : Un fs ex H H' h h') (nx : ∀ x c, X.env.cells.lookup x = some c → c ∉ ex) : Caps X σ H' h' := by
  have stay : ∀ x c v, X.env.cells.lookup x = some c → h.IsCell c v → h'.IsCell c v := fun x c v hc ⟨o, ho, hd⟩ => by
    obtain ⟨sl, e⟩ := u.any ho (C.free x c hc) (nx x c hc)
    exact ⟨_, e, hd⟩
  refine ⟨C.inj, C.has, fun x c hc => ?_, fun x c hc => ?_, fun i x v c hi hv hc kd => ?_, C.len⟩
  · obtain ⟨v, o, ho, _⟩ := C.cell x c hc
    exact u.free c o ho (C.free x c hc) (nx x c hc)
  · obtain ⟨v, z⟩ := C.cell x c hc
    exact ⟨v, stay x c v hc z⟩
  · obtain ⟨w, r, z⟩ := C.val i x v c hi hv hc kd
    exact ⟨w, r, stay x c _ hc z⟩
theorem Caps.kept (C : Caps X σ H h) (k : ∀ b o, h.get? b = some o → h'.get? b = some o) : Caps X σ H h' := by
  have stay : ∀ c v, h.IsCell c v → h'.IsCell c v := fun c v ⟨o, ho, hd⟩ => ⟨o, k _ _ ho, hd⟩
  refine ⟨C.inj, C.has, C.free, fun x c hc => ?_, fun i x v c hi hv hc kd => ?_, C.len⟩
  · obtain ⟨v, z⟩ := C.cell x c hc
    exact ⟨v, stay c v z⟩
  · obtain ⟨w, r, z⟩ := C.val i x v c hi hv hc kd
    exact ⟨w, r, stay c _ z⟩
end
/-- the names of a lambda: captured ones, globals, a parameter that the frame has not -/
structure LamF (N : List Str) (sc scope : Scope) : Prop where
  kind : scope.kind = .function
  co : scope.isCoroutine = false
  gen : scope.isGenerator = false
  own : ∀ y ∈ scope.names, y.2 ≠ .cell ∧ (y.2 = .local → y.1 ∉ N)
  free : ∀ y ∈ scope.names, y.2 = .free → sc.names.lookup y.1 = some .cell ∨ sc.names.lookup y.1 = some .free
def lamFB (N : List Str) (sc scope : Scope) : Bool :=
  decide (scope.kind = .function) && (!scope.isCoroutine && (!scope.isGenerator && scope.names.all fun y => !decide (y.2 = .cell) && ((!decide (y.2 = .local) || !decide (y.1 ∈ N)) && (!decide (y.2 = .free) || (decide (sc.names.lookup y.1 = some .cell) || decide (sc.names.lookup y.1 = some .free))))))
theorem lamF_by {N : List Str} {sc scope : Scope} (h : lamFB N sc scope = true) : LamF N sc scope := by
  unfold lamFB at h
  simp only [Bool.and_eq_true, Bool.or_eq_true, Bool.not_eq_true', decide_eq_true_eq, decide_eq_false_iff_not, List.all_eq_true] at h
  obtain ⟨a, b, c, d⟩ := h
  refine ⟨a, b, c, fun y hy => ⟨(d y hy).1, fun l => ?_⟩, fun y hy f => ?_⟩
  · rcases (d y hy).2.1 with z | z
    · exact absurd l z
    · exact z
  · rcases (d y hy).2.2 with z | z
    · exact absurd f z
    · exact z
/-- a lambda of the text: parameters, body, scope, its parameter with the default 0 -/
abbrev LamD : Type := Arguments × Expr × Scope × Option Str
/-- the object at f is the lambda d, its code at c', its default's tuple at dt -/
def LamIs (q : Str) (cells : List (Str × Addr)) (d : LamD) (f c' dt : Addr) (h : Heap) : Prop :=
  ∃ (dV doc pm ctv : Value), h.get? f = some (PySem.W.kdv_obj "<lambda>" q d.1 (.expr d.2.1) d.2.2.1 (cloFrom cells d.2.2.1.names []) dV doc pm c' ctv) ∧ (d.2.2.2 = none → dV = .none) ∧ ∀ a, d.2.2.2 = some a → dV = .ref dt ∧ dt ≠ f
/-- .. the j-th of the lambdas ds -/
def LamL (ds : List LamD) (q : Str) (cells : List (Str × Addr)) (j : Nat) (f c' dt : Addr) (h : Heap) : Prop := ∃ d, ds[j]? = some d ∧ LamIs q cells d f c' dt h
abbrev LL : Type := Nat → Addr → Addr → Addr → Heap → Prop
/-- at f stands the j-th lambda -/
def LamAt (L : LL) (q : Str) (H : Hp) (j : Nat) (f c' dt : Addr) : Prop := H f = some (.ext (L j f c' dt)) ∧ H c' = some (LamX.CodeO c' q) ∧ (dt ≠ f → H dt = some (.tup [.int 0]))
theorem LamAt.by {L : LL} {q : Str} {H H' : Hp} {j : Nat} {f c' dt : Addr} (k : ∀ a o, (∀ zs, o ≠ .lst zs) → (∀ ps, o ≠ .tbl ps) → H a = some o → H' a = some o) (h : LamAt L q H j f c' dt) : LamAt L q H' j f c' dt :=
  ⟨k _ _ (fun _ z => nomatch z) (fun _ z => nomatch z) h.1, k _ _ (fun _ z => by unfold LamX.CodeO at z; nomatch z) (fun _ z => by unfold LamX.CodeO at z; nomatch z) h.2.1, fun n => k _ _ (fun _ z => nomatch z) (fun _ z => nomatch z) (h.2.2 n)⟩
/-- a lambda's expression -/
def tLamV (T : List (Addr × Str)) (L : LL) (q : Str) (j : Nat) : TE := fun _ H Q => LamX.Tabs T H ∧ ∀ f c' dt H1, H f = none → LamX.ExtN H H1 → LamX.Tabs T H1 → LamAt L q H1 j f c' dt → Q (.ref f) H1
section
variable {X : Cx} {pins : List (Addr × Obj)} {σ : L2.St} {H : Hp} {s : Shared}
theorem lam_tail {T : List (Addr × Str)} {c P : Addr} {params : Arguments} {body : Expr} {scope : Scope} {pos : Pos} {E : Value → Shared → Prop} {Q : Value → Shared → Prop} {dV : Value} {φ : Addr → Addr → Heap → Prop}
    (I : Inv X pins σ H s) (TB : LamX.TabB X.base X.mg c P) (hcode : X.env.code = .ref c) (hm : (P, X.env.qual ++ "<lambda>") ∈ T) (hu : ∀ p ∈ T, p.1 = P → p.2 = X.env.qual ++ "<lambda>") (hT : LamX.Tabs T H)
    (hfree : ∀ y ∈ scope.names, y.2 = .free → ∃ c, X.env.cells.lookup y.1 = some c)
    (hφ : ∀ f c' h doc pm ctv, s.heap.objs.size ≤ f → h.get? f = some (PySem.W.kdv_obj "<lambda>" (X.env.qual ++ "<lambda>") params (.expr body) scope (cloFrom X.env.cells scope.names []) dV doc pm c' ctv) → φ f c' h)
    (hst : ∀ f c' h1 h2, φ f c' h1 → (∀ o, h1.get? f = some o → h2.get? f = some o) → φ f c' h2)
    (k : ∀ f c' H1 s', Inv X pins σ H1 s' → LamX.ExtN H H1 → LamX.Tabs T H1 → s.heap.objs.size ≤ f → H1 f = some (.ext (φ f c')) → H1 c' = some (LamX.CodeO c' (X.env.qual ++ "<lambda>")) → Q (.ref f) s') :
    wpAny (model X.prog X.w) X.A (makeTail "<lambda>" (X.env.qual ++ "<lambda>") params (.expr body) scope X.env dV .none none pos pos.line) Q E s := by
  obtain ⟨ps, hP, triples, known⟩ := hT _ hm
  have atP : s.heap.get? P = some { cls := .none, data := .fields ps } := I.hok P _ hP
  have lay : ∀ (H2 : Hp) (s2 : Shared) (c' : Addr) (doc pm ctv : Value) (tk : Nat), Inv X pins σ H2 s2 → s.heap.objs.size ≤ s2.heap.objs.size → LamX.ExtN H H2 → LamX.Tabs T H2 → H2 c' = some (LamX.CodeO c' (X.env.qual ++ "<lambda>")) →
      Q (.ref s2.heap.objs.size) { s2 with heap := s2.heap.push (PySem.W.kdv_obj "<lambda>" (X.env.qual ++ "<lambda>") params (.expr body) scope (cloFrom X.env.cells scope.names []) dV doc pm c' ctv), toks := tk } := by
    intro H2 s2 c' doc pm ctv tk J sz ext tb hc
    have fresh : H2 s2.heap.objs.size = none := J.hok.fresh (Nat.le_refl _)
    have new := Heap.get?_push_size s2.heap (o := PySem.W.kdv_obj "<lambda>" (X.env.qual ++ "<lambda>") params (.expr body) scope (cloFrom X.env.cells scope.names []) dV doc pm c' ctv) rfl
    have other : ∀ b o, H2 b = some o → upd H2 s2.heap.objs.size (.ext (φ s2.heap.objs.size c')) b = some o := fun b o e => by
      rw [upd_ne (ne_of_none e fresh)]
      exact e
    have J2 := J.laid (t' := tk) (o := .ext (φ s2.heap.objs.size c')) (fun b u e => Heap.get?_push_of_some _ e) (Nat.le_refl _) ⟨hφ _ _ _ _ _ _ sz new, ⟨_, new⟩, fun h1 h2 a b => hst _ _ h1 h2 a b⟩
    exact k _ c' _ _ J2 (ext.trans (LamX.ExtN.of other)) (tb.ext other) sz upd_same (other _ _ hc)
  cases found : codeAmong pos ps.toList with
  | none =>
    refine PySem.W.kdv_makeTail (mg := X.mg) (c := c) (P := P) (ps := ps) (closure_ok hfree) I.ok.glob (I.mod.glob.keeps I.bk) hcode (TB.code.keeps I.bk) atP triples found TB.gP (TB.bm.keeps I.bk) fun c' ctv doc h' tk grow ge lt rec tab => ?_
    obtain ⟨c2, oc, vs, t, e2, ocAt, dat, nm⟩ := rec
    cases e2
    have nC : H c' = none := I.hok.fresh ge
    have J := LamX.inv_table (t' := tk) (more := #[rawInt pos.line, rawInt pos.col, .ref c']) (h' := h') I hP (fun b o ne e => grow b o ne e) tab ge ⟨oc, vs, t, ocAt, dat, nm⟩
    have list : (ps ++ #[rawInt pos.line, rawInt pos.col, .ref c']).toList = ps.toList ++ [rawInt pos.line, rawInt pos.col, .ref c'] := by simp
    have ext : LamX.ExtN H (upd (upd H P (.tbl (ps ++ #[rawInt pos.line, rawInt pos.col, .ref c']))) c' (LamX.CodeO c' (X.env.qual ++ "<lambda>"))) := fun b o e n => by
      have bP : b ≠ P := fun z => by
        rw [z, hP] at e
        exact n ps (Option.some.inj e).symm
      rw [upd_ne (ne_of_none e nC), upd_ne bP]
      exact e
    refine lay _ { s with heap := h', toks := tk } c' doc _ ctv tk J (Nat.le_trans ge (Nat.le_of_lt lt)) ext (fun p hp => ?_) upd_same
    by_cases same : p.1 = P
    · rw [hu p hp same, same]
      refine ⟨_, (upd_ne (ne_of_none hP nC)).trans upd_same, ?_, fun p2 cv hcv => ?_⟩
      · rw [list]
        exact PySem.TriplesOk_snoc _ _ _ _ triples
      · rw [list] at hcv
        rcases LamX.among_app _ triples hcv with z | z
        · obtain ⟨c0, e1, e3⟩ := known p2 cv z
          exact ⟨c0, e1, ext _ _ e3 LamX.codeO_ne⟩
        · exact ⟨c', z, upd_same⟩
    · obtain ⟨ps2, a1, a2, a3⟩ := hT p hp
      refine ⟨ps2, ?_, a2, fun p2 cv hcv => ?_⟩
      · rw [upd_ne (ne_of_none a1 nC), upd_ne same]
        exact a1
      · obtain ⟨c0, e1, e3⟩ := a3 p2 cv hcv
        exact ⟨c0, e1, ext _ _ e3 LamX.codeO_ne⟩
  | some cv =>
    obtain ⟨c', e, hco⟩ := known pos cv found
    subst e
    refine PySem.W.kdv_makeTailHit (mg := X.mg) (c := c) (P := P) (ps := ps) (closure_ok hfree) I.ok.glob (I.mod.glob.keeps I.bk) hcode (TB.code.keeps I.bk) atP triples found (TB.bm.keeps I.bk) fun ctv doc h' tk grow sz => ?_
    have J : Inv X pins σ H { s with heap := h', toks := tk } := I.kept grow
    exact lay H { s with heap := h', toks := tk } c' doc _ ctv tk J sz (LamX.ExtN.refl H) hT hco
theorem LamF.cells {scope : Scope} (L : LamF X.N X.env.scope scope) (has : ∀ x, (X.env.kindOf x = some .cell ∨ X.env.kindOf x = some .free) → ∃ c, X.env.cells.lookup x = some c) : ∀ y ∈ scope.names, y.2 = .free → ∃ c, X.env.cells.lookup y.1 = some c := fun y hy e => by
  rcases L.free y hy e with z | z
  · exact has _ (.inl z)
  · exact has _ (.inr z)
/-- lambda: body -/
theorem pe_lamV {T : List (Addr × Str)} {ds : List LamD} {j : Nat} {c P : Addr} {params : Arguments} {body : Expr} {scope : Scope} {pos : Pos} (TB : LamX.TabB X.base X.mg c P) (hcode : X.env.code = .ref c) (hm : (P, X.env.qual ++ "<lambda>") ∈ T) (hu : ∀ p ∈ T, p.1 = P → p.2 = X.env.qual ++ "<lambda>")
    (L : LamF X.N X.env.scope scope) (hj : ds[j]? = some (params, body, scope, none)) (hdef : defaultsOf params X.env = ([], []) := by rfl) :
    PE X (.Lambda params body scope pos) (tLamV T (LamL ds (X.env.qual ++ "<lambda>") X.env.cells) (X.env.qual ++ "<lambda>") j) := by
  constructor
  intro pins s σ H Q I h
  obtain ⟨hT, h⟩ := h
  refine PySem.W.kla_eval hdef ?_
  rw [makeFunction_eq]
  simp only [List.zip_nil_right, List.filterMap_nil, List.isEmpty_nil, if_true, pure_bind]
  refine lam_tail (φ := fun f c' => LamL ds (X.env.qual ++ "<lambda>") X.env.cells j f c' f) I TB hcode hm hu hT (L.cells I.ok.has) (fun f c' h doc pm ctv _ e => ⟨_, hj, _, doc, pm, ctv, e, fun _ => rfl, fun _ z => nomatch z⟩) (fun f c' h1 h2 ⟨d, e1, dV, doc, pm, ctv, e2, r⟩ st => ⟨d, e1, dV, doc, pm, ctv, st _ e2, r⟩) fun f c' H1 s' J ext tb new hf hc => ?_
  exact ⟨.ref f, H1, J, rfl, h f c' f H1 (I.hok.fresh new) ext tb ⟨hf, hc, fun z => absurd rfl z⟩⟩
/-- lambda a=0: body -/
theorem pe_lamV1 {T : List (Addr × Str)} {ds : List LamD} {j : Nat} {c P : Addr} {params : Arguments} {body e0 : Expr} {scope : Scope} {pos : Pos} {a : Str} (TB : LamX.TabB X.base X.mg c P) (hcode : X.env.code = .ref c) (hm : (P, X.env.qual ++ "<lambda>") ∈ T) (hu : ∀ p ∈ T, p.1 = P → p.2 = X.env.qual ++ "<lambda>")
    (L : LamF X.N X.env.scope scope) (hj : ds[j]? = some (params, body, scope, some a)) (hd0 : evalEach params.defaults X.env = evalEach [e0] X.env) (he0 : PE X e0 (tC (.int 0))) (hdn : params.defaults.isEmpty = false := by rfl) (hk0 : params.kw_defaults = [] := by rfl) :
    PE X (.Lambda params body scope pos) (tLamV T (LamL ds (X.env.qual ++ "<lambda>") X.env.cells) (X.env.qual ++ "<lambda>") j) := by
  constructor
  intro pins s σ H Q I h
  obtain ⟨hT, h⟩ := h
  refine PySem.W.kdv_lam hdn hk0 ?_
  rw [hd0]
  refine PySem.W.kdv_all1 (thn (he0.run pins s σ H (fun v H1 => v = .int 0 ∧ H1 = H) I ⟨rfl, rfl⟩) fun u s1 ⟨v, H1, I1, r, ev, eH⟩ => PySem.W.kdv_all0 ?_)
  subst ev eH
  rw [makeFunction_eq]
  simp only [List.zip_nil_right, List.filterMap_nil, List.isEmpty_nil, List.isEmpty_cons, if_true, pure_bind, Bool.false_eq_true, if_false]
  refine wpAny_bind (wpAny_newTextTuple ?_)
  have fresh : H1 s1.heap.objs.size = none := I1.hok.fresh (Nat.le_refl _)
  have other : ∀ b o, H1 b = some o → upd H1 s1.heap.objs.size (.tup [.int 0]) b = some o := fun b o e => by
    rw [upd_ne (ne_of_none e fresh)]
    exact e
  have I2 := I1.laid (t' := s1.toks) (o := .tup [.int 0]) (h' := s1.heap.push { cls := .type "tuple", data := .seq [u].toArray }) (fun b o e => Heap.get?_push_of_some _ e) (Nat.le_refl _) ⟨by decide, [u], .cons r .nil, ⟨_, Heap.get?_push_size _ rfl, rfl, _, rfl⟩⟩
  have sz : (s1.heap.push { cls := .type "tuple", data := .seq [u].toArray }).objs.size = s1.heap.objs.size + 1 := Heap.size_push _ _
  refine lam_tail (φ := fun f c' => LamL ds (X.env.qual ++ "<lambda>") X.env.cells j f c' s1.heap.objs.size) I2 TB hcode hm hu (hT.ext other) (L.cells I.ok.has) (fun f c' h doc pm ctv le e => ⟨_, hj, _, doc, pm, ctv, e, fun z => (nomatch z), fun _ _ => ⟨rfl, fun z => ?_⟩⟩) (fun f c' h1 h2 ⟨d, e1, dV, doc, pm, ctv, e2, r⟩ st => ⟨d, e1, dV, doc, pm, ctv, st _ e2, r⟩) fun f c' H2 s' J ext tb new hf hc => ?_
  · have le : s1.heap.objs.size + 1 ≤ f := by
      rw [← sz]
      exact le
    have z' : s1.heap.objs.size = f := z
    rw [z'] at le
    exact Nat.not_succ_le_self _ le
  · have le : s1.heap.objs.size ≤ f := by
      have : s1.heap.objs.size + 1 ≤ f := by
        rw [← sz]
        exact new
      omega
    exact ⟨.ref f, H2, J, rfl, h f c' _ H2 (I1.hok.fresh le) ((LamX.ExtN.of other).trans ext) tb ⟨hf, hc, fun _ => ext _ _ upd_same (fun _ z => nomatch z)⟩⟩
end
end EB
namespace EB
open PySem PySem.Spec PyProof.Rows L2 StX ClX
set_option maxHeartbeats 4000000
/-! ## a lambda kept as a value, called by a def -/
/-- how a lambda's parameters are bound where it gets no arguments -/
structure LamBind (q : Str) (d : LamD) : Prop where
  zero : d.2.2.2 = none → ∀ (cl : List (Str × Addr)) (doc pm cv ctv : Value), bindArgs (PySem.W.kdv_fn "<lambda>" q d.1 (.expr d.2.1) d.2.2.1 cl .none doc pm cv ctv) ⟨[], []⟩ = pure []
  one : ∀ a, d.2.2.2 = some a → d.2.2.1.names.lookup a = some .local ∧ ∀ (cl : List (Str × Addr)) (dt : Addr) (doc pm cv ctv : Value) (t : Tok), ∃ k, bindArgs (PySem.W.kdv_fn "<lambda>" q d.1 (.expr d.2.1) d.2.2.1 cl (.ref dt) doc pm cv ctv) ⟨[], []⟩ = seqItems? (.ref dt) >>= k ∧ k (some #[.int 0 t]) = pure [(a, .int 0 t)]
/-- a lambda that may be called: its names, its parameters, its body's reading -/
structure LamOk (X : Cx) (k : Nat) (d : LamD) (tb : XK → TE) : Prop where
  names : LamF X.N X.env.scope d.2.2.1
  bind : LamBind (X.env.qual ++ "<lambda>") d
  body : ∀ (A : Around) (outer : List Env) (s : Shared) (H : Hp) (E : XK) (f c' : Addr), Room k (A.deeper (LamX.lamEnv X d.2.2.1 s.heap.objs.size f c')) → PE (LamX.lamCx X A outer s H E d.2.2.1 f c') d.2.1 (tb E)
def LamsOk (X : Cx) (k : Nat) (tb : Nat → XK → TE) : Nat → List LamD → Prop
  | _, [] => True
  | n, d :: ds => LamOk X k d (tb n) ∧ LamsOk X k tb (n + 1) ds
theorem LamsOk.get {X : Cx} {k : Nat} {tb : Nat → XK → TE} : ∀ {ds : List LamD} {n j : Nat} {d : LamD}, LamsOk X k tb n ds → ds[j]? = some d → LamOk X k d (tb (n + j))
  | [], _, _, _, _, h => by simp at h
  | e :: ds, n, 0, d, a, h => by
    simp at h
    subst h
    exact a.1
  | e :: ds, n, j + 1, d, a, h => by
    have z := LamsOk.get (n := n + 1) a.2 (by simpa using h : ds[j]? = some d)
    have e : n + 1 + j = n + (j + 1) := by omega
    rw [e] at z
    exact z
section
variable {X : Cx} {σ : L2.St} {HZ : Hp} {s1 : Shared}
/-- the lambda's body begins -/
theorem lam_go {A : Around} {outer : List Env} {E : XK} {scope : Scope} {f c' : Addr} {h₁ : Heap} {tk : Nat} {binds : List (Str × Value)} (C : Caps X σ HZ s1.heap) (L : LamF X.N X.env.scope scope) (e0 : Env0 X.prog X.w X.K X.mg X.base A outer s1 HZ) (hd : A.handled = none)
    (hns : h₁.Ns s1.heap.objs.size fun y => binds.reverse.lookup y) (kp : ∀ b o, s1.heap.get? b = some o → h₁.get? b = some o) : Inv (LamX.lamCx X A outer s1 HZ E scope f c') [] σ HZ { s1 with heap := h₁, toks := tk } := by
  have closed := L.cells C.has
  have back : ∀ {y c}, (cloFrom X.env.cells scope.names []).lookup y = some c → X.env.cells.lookup y = some c := fun {y c} e => by
    rcases cloFrom_mem (PySem.mem_of_lookup e) with z | ⟨z, w⟩
    · cases z
    · obtain ⟨c1, h1⟩ := closed _ z rfl
      have h1' : X.env.cells.lookup y = some c1 := h1
      rw [w, h1']
      rfl
  have there : ∀ {y}, scope.names.lookup y = some .free → ∃ c, (cloFrom X.env.cells scope.names []).lookup y = some c := fun {y} hl => mem_lookup (cloFrom_has (cells := X.env.cells) (acc := []) (PySem.mem_of_lookup hl))
  have up := C.kept kp
  have none_ex : ∀ b : Addr, b ∉ (LamX.lamCx X A outer s1 HZ E scope f c').ex := fun b z => (nomatch z)
  exact
    { ok :=
        { mod := e0.mod
          kind := L.kind
          glob := rfl
          blt := rfl
          above := Nat.le_refl _
          inj := fun y z c h1 h2 => C.inj y z c (back h1) (back h2)
          has := fun y hy => by
            rcases hy with hy | hy
            · exact absurd rfl (L.own _ (PySem.mem_of_lookup hy)).1
            · exact there hy
          cab := fun y c z _ => by
            have z' : false = true := z
            cases z'
          hd := fun _ => hd
          frames := Around.frames_deeper e0.frames
          stk := .inr ⟨rfl, rfl⟩
          exf := fun b z => absurd z (none_ex b)
          bs := e0.bs
          bsz := e0.bsz
          noex := fun b _ _ => none_ex b
          exfs := fun b z => absurd z (none_ex b)
          funs := e0.funs
          frf := e0.frf }
      os := rfl
      bare := e0.bare
      base := Un.kept kp
      loc := ⟨_, hns, fun i y v hi hv vis => by
        have vis' : Vis scope y := vis
        rcases vis' with z | z | z
        · exact absurd (List.mem_of_getElem? hi) ((L.own _ (PySem.mem_of_lookup z)).2 rfl)
        · exact absurd rfl (L.own _ (PySem.mem_of_lookup z)).1
        · obtain ⟨c, hc⟩ := there z
          obtain ⟨u, r, cu⟩ := up.val i y v c hi hv (back hc) (L.free _ (PySem.mem_of_lookup z) rfl)
          exact ⟨u, r, .inr ⟨.inr z, c, hc, cu⟩⟩⟩
      cell := fun y c e => up.cell y c (back e)
      free := e0.hok.fresh (Nat.le_refl _)
      freeC := fun y c e => C.free y c (back e)
      pin := fun q hq => (nomatch hq)
      hok := e0.hok.kept kp
      len := C.len }
variable {H : Hp} {s : Shared} {ds : List LamD} {tb : Nat → XK → TE} {k : Nat}
/-- a(), in the def that got the lambda -/
theorem pe_actV {CXg : CXT} {Eg : XK} {Ng : List Str} {qg : Str} {sg : Scope} {g f c' dt : Addr} {cdg : Value} {i j : Nat} {a : Str} {pn : List (Addr × Obj)} {xe : Value → Shared → Prop} {W : WX} {E : XK} {p1 p2 : Pos} (C : Caps X σ H s.heap) (D : LamsOk X k tb 0 ds)
    (tk : Takes ((cxOf CXg X.prog X.w X.K X.mg X.base Ng qg sg g cdg X.A X.stack s H Eg).tr pn xe) W) (hW : ∀ cls d σ' H', E cls d H' → W cls d σ' H') (hr : Room (k + 1) (X.A.deeper (envOfC qg sg s.heap.objs.size g cdg)))
    (hN : Ng[i]? = some a) (hv : Vis sg a) (hd : (a == ("__debug__" : Str)) = false := by decide) (hcd : (a == ("__classdict__" : Str)) = false := by decide) :
    PE ((cxOf CXg X.prog X.w X.K X.mg X.base Ng qg sg g cdg X.A X.stack s H Eg).tr pn xe) (.Call (.Name a p1) [] [] p2)
      (fun σZ HZ Q => σZ[i]? = some (some (.ref f)) ∧ HZ c' = some (LamX.CodeO c' (X.env.qual ++ "<lambda>")) ∧ ((HZ f = some (.ext (LamL ds (X.env.qual ++ "<lambda>") X.env.cells j f c' dt)) ∧ (dt ≠ f → HZ dt = some (.tup [.int 0]))) ∧ tb j E σ HZ Q)) := by
  constructor
  intro pinsZ sZ σZ HZ Q IZ h
  obtain ⟨hs, hc, ⟨hf, hdt⟩, ht⟩ := h
  refine wpAny_Call_Name_kw (thn ((pe_var (pos := p1) (i := i) hN hv hd hcd).run pinsZ sZ σZ HZ (fun v H1 => v = .ref f ∧ H1 = HZ) IZ ⟨.ref f, hs, rfl, rfl⟩) fun u s2 ⟨v, H1, I1, r1, ev, eH⟩ => ?_)
  subst ev eH
  obtain rfl : u = Value.ref f := r1
  obtain ⟨⟨d, hj, dV, doc, pm, ctv, at_, no, one⟩, _, _⟩ := I1.hok f _ hf
  obtain ⟨⟨oc, vs, t, ocAt, ocD, ocN⟩, _, _⟩ := I1.hok c' _ hc
  obtain ⟨nm, bd, body⟩ := D.get hj
  rw [Nat.zero_add] at body
  have C2 : Caps X σ H1 s2.heap := C.un (show Un (frs X.stack) [] H H1 s.heap s2.heap from I1.base) fun _ _ _ z => nomatch z
  obtain ⟨binds, hb, hloc⟩ : ∃ binds, BindsTo s2 (PySem.W.kdv_fn "<lambda>" (X.env.qual ++ "<lambda>") d.1 (.expr d.2.1) d.2.2.1 (cloFrom X.env.cells d.2.2.1.names []) dV doc pm (.ref c') ctv) ⟨[], []⟩ binds ∧ ∀ y ∈ binds, d.2.2.1.names.lookup y.1 = some .local := by
    cases hp : d.2.2.2 with
    | none =>
      rw [no hp]
      exact ⟨[], BindsTo.of_eq (bd.zero hp _ _ _ _ _), fun _ z => nomatch z⟩
    | some b =>
      obtain ⟨e1, ne⟩ := one b hp
      obtain ⟨lc, bind⟩ := bd.one b hp
      obtain ⟨_, its, rv, ob, obAt, _, n, obD⟩ := I1.hok dt _ (hdt ne)
      cases rv with
      | cons r0 rr =>
        cases rr
        obtain ⟨t0, rfl⟩ := r0
        obtain ⟨kk, b1, b2⟩ := bind (cloFrom X.env.cells d.2.2.1.names []) dt doc pm (.ref c') ctv t0
        subst e1
        refine ⟨[(b, .int 0 t0)], BindsTo.of_defaults rfl obAt obD b1 b2, fun y hy => ?_⟩
        rw [List.mem_singleton.mp hy]
        exact lc
  refine PySem.W.callWith_F0 ⟨_, _, _, _, at_⟩ ?_
  have rc : codeAny (model X.prog X.w) (X.A.deeper (envOfC qg sg s.heap.objs.size g cdg)) (.call (.ref f) ⟨[], []⟩) (CR (L2.CX X.prog X.w) (envOfC qg sg s.heap.objs.size g cdg :: X.stack) X.prog X.w H1 s2 Q E) s2 := by
    refine PySem.W.kla_callFunE hr.depth at_ rfl nm.co nm.gen rfl ⟨c', oc, vs, t, rfl, ocAt, ocD, ocN⟩ ?_
    refine hb _ _ _ _ (wpAny_newFunctionEnv (fun y hy => (nm.own y hy).1) hloc (fun h₁ hns hsb => ⟨I1.nolimit.fresh _ hsb, ?_⟩) nm.kind)
    have grow : ∀ b o, s2.heap.get? b = some o → h₁.get? b = some o := fun b o e => hsb.extBut b o (Nat.ne_of_lt (Heap.lt_size e)) (Heap.get?_push_of_some _ e)
    have J : Inv (LamX.lamCx X (X.A.deeper (envOfC qg sg s.heap.objs.size g cdg)) (envOfC qg sg s.heap.objs.size g cdg :: X.stack) s2 H1 E d.2.2.1 f c') [] σ H1 { s2 with heap := h₁, toks := s2.toks + binds.length } :=
      lam_go C2 nm I1.env0 hr.hd hns grow
    show codeAny _ _ (.expr d.2.1 (LamX.lamEnv X d.2.2.1 s2.heap.objs.size f c')) _ _
    refine PySem.W.kla_codeExpr (wpAny_mono ((body _ _ s2 H1 E f c' (hr.deeper _)).run [] _ _ H1 Q J ht) (fun v s' hq => ?_) fun _ _ hq => hq)
    obtain ⟨w', H', J', rv, q⟩ := hq
    exact ⟨w', H', J'.os, J'.bare, J'.base, J'.hok, rv, q⟩
  have hx := passes_call tk hW
  refine wpAny_call (codeAny_mono rc fun r s' hq => ?_)
  cases r with
  | error e => exact hx pinsZ σZ H1 s2 e s' I1 hq
  | ok fl =>
    cases fl with
    | ret u => exact I1.after hq
    | next => exact hq.elim
    | brk => exact hq.elim
    | cont => exact hq.elim
/-- what the lambda's call asks of the heap, and then its body's reading -/
def actV (L : LL) (tb : Nat → XK → TE) (σ : L2.St) (j : Nat) (f c' dt : Addr) : XK → Hp → VK → Prop := fun E H' Q' => (H' f = some (.ext (L j f c' dt)) ∧ (dt ≠ f → H' dt = some (.tup [.int 0]))) ∧ tb j E σ H' Q'
/-- x(f): x a def of the text that calls what it gets; at the frame's own state -/
theorem run_errV {TT : (XK → Hp → VK → Prop) → Hp → VK → Prop} {x a : Str} {g : Addr} {st : Stmt} {fd : FuncData} {Ng : List Str} (F : FunD X.K x x (defArgs st) (defBody st) (defScope st) [] [] g fd)
    (hbn : ∀ (kV doc pm : Value) (an : Option Addr) (cdv ct : Value) (u : Value), bindArgs (PySem.W.fnOf x x (defArgs st) (defBody st) (defScope st) .none kV doc pm an cdv ct) ⟨[u], []⟩ = pure [(a, u)])
    (S : FnScope Ng [a] (defScope st)) (hNg : Ng[0]? = some a) (hva : Vis (defScope st) a) (hG : ∀ cdv, LamX.GivesTo X Ng x (defScope st) g cdv (defBody st) a (X.env.qual ++ "<lambda>") TT) (D : LamsOk X k tb 0 ds) (hr : Room (k + 2) X.A)
    (e0 : Env0 X.prog X.w X.K X.mg X.base X.A X.stack s H) (kin : X.K.In s.heap) (C : Caps X σ H s.heap) {j : Nat} {f c' dt : Addr} {Q : VK} (at_ : LamAt (LamL ds (X.env.qual ++ "<lambda>") X.env.cells) (X.env.qual ++ "<lambda>") H j f c' dt) (h : TT (actV (LamL ds (X.env.qual ++ "<lambda>") X.env.cells) tb σ j f c' dt) H Q)
    (hd : (a == ("__debug__" : Str)) = false := by decide) (hcd : (a == ("__classdict__" : Str)) = false := by decide) :
    codeAny (model X.prog X.w) X.A (.call (.ref g) ⟨[.ref f], []⟩) (CR C8.CX0 X.stack X.prog X.w H s Q C8.E0) s := by
  have b := F.bindsN (ps := [a]) fun kV doc pm an cdv ct us hl => match us, hl with | [u], _ => hbn kV doc pm an cdv ct u
  obtain ⟨oc, od, dV, kV, doc, pm, an, cdv, ct, osl, rfl, lk, hcdv, hD, _⟩ := F.ex
  obtain rfl : dV = .none := by
    rcases hD with ⟨_, z⟩ | ⟨z, _⟩
    · exact z
    · exact absurd rfl z
  refine LamX.run_ofS (N := Ng) (ps := [a]) (us := [.ref f]) (vs := [.ref f]) lk hcdv S hr e0 (b s [.ref f] kin rfl) (.cons rfl .nil) rfl fun hr' => ?_
  obtain ⟨t', ht', hq'⟩ := hG cdv f c' s H Q _ (fun W pn xe E p1 p2 tk hW => pe_actV (i := 0) (j := j) (dt := dt) C D tk hW hr' hNg hva hd hcd) at_.2.1 h
  exact ⟨t', ht'.nox, hq'⟩
end
/-- x(e), e a lambda that is kept; σ0: the slots that its body sees -/
def tErrV (L : LL) (q : Str) (TT : (XK → Hp → VK → Prop) → Hp → VK → Prop) (tb : Nat → XK → TE) (ta : TA) (σ0 : L2.St) : TE := fun σ H Q => ta σ H fun vs H1 => ∃ f j c' dt, vs = [V.ref f] ∧ LamAt L q H1 j f c' dt ∧ TT (actV L tb σ0 j f c' dt) H1 Q
section
variable {X : Cx} {ds : List LamD} {tb : Nat → XK → TE} {k : Nat} {TT : (XK → Hp → VK → Prop) → Hp → VK → Prop} {x a : Str} {g : Addr} {st : Stmt} {fd : FuncData} {Ng : List Str} {e : Expr} {ta : TA} {p pos : Pos}
/-- .. in the frame itself -/
theorem pe_errV (F : FunD X.K x x (defArgs st) (defBody st) (defScope st) [] [] g fd) (hbn : ∀ (kV doc pm : Value) (an : Option Addr) (cdv ct : Value) (u : Value), bindArgs (PySem.W.fnOf x x (defArgs st) (defBody st) (defScope st) .none kV doc pm an cdv ct) ⟨[u], []⟩ = pure [(a, u)])
    (S : FnScope Ng [a] (defScope st)) (hNg : Ng[0]? = some a) (hva : Vis (defScope st) a) (hg : Gl X x) (hm : X.mg x = some (.ref g)) (hG : ∀ cdv, LamX.GivesTo X Ng x (defScope st) g cdv (defBody st) a (X.env.qual ++ "<lambda>") TT) (D : LamsOk X k tb 0 ds) (hr : Room (k + 2) X.A) (ha : PA X [e] ta)
    (hdb : (x == ("__debug__" : Str)) = false := by decide) (hd : (a == ("__debug__" : Str)) = false := by decide) (hcd : (a == ("__classdict__" : Str)) = false := by decide)
    (h1 : starEach [e] X.env = (false, eval e X.env) :: starEach [] X.env := by rfl) (h2 : (backTo pos (starEach [] X.env)).any (·.1) = false := by rfl) :
    PE X (.Call (.Name x p) [e] [] pos) (fun σ H Q => tErrV (LamL ds (X.env.qual ++ "<lambda>") X.env.cells) (X.env.qual ++ "<lambda>") TT tb ta σ σ H Q) := by
  constructor
  intro pins s σ H Q I h
  refine wpAny_Call_Name_kw (ld_glob I hg hm (PySem.W.callWith_K (h₀ := X.base) I.ok.mod.kin F.kp (thn (ha.run pos pins s σ H _ I h) fun us s1 ⟨vs, H1, I1, r, f, j, c', dt, ev, at_, hq⟩ => ⟨I1.kIn, ?_⟩) h1 h2) hdb)
  subst ev
  cases r with
  | cons r0 rr =>
    cases rr
    obtain rfl := r0
    refine wpAny_call (codeAny_mono (run_errV F hbn S hNg hva hG D hr I1.env0 I1.kIn (Caps.of I1) at_ hq hd hcd) fun r s2 hz => ?_)
    cases r with
    | error e => exact (show False from hz).elim
    | ok fl =>
      cases fl with
      | ret u => exact I1.after hz
      | next => exact hz.elim
      | brk => exact hz.elim
      | cont => exact hz.elim
/-- .. in the block of a comprehension of the frame, entered at s0 with the slots σ0 -/
theorem pe_errB {s0 : Shared} {H0 : Hp} {σ0 : L2.St} {pins0 : List (Addr × Obj)} {scope : Scope} {cenv : Env} {fp : List Addr} (I0 : L2.Inv X pins0 σ0 H0 s0) (nfp : ∀ y c, X.env.cells.lookup y = some c → c ∉ fp)
    (F : FunD X.K x x (defArgs st) (defBody st) (defScope st) [] [] g fd) (hbn : ∀ (kV doc pm : Value) (an : Option Addr) (cdv ct : Value) (u : Value), bindArgs (PySem.W.fnOf x x (defArgs st) (defBody st) (defScope st) .none kV doc pm an cdv ct) ⟨[u], []⟩ = pure [(a, u)])
    (S : FnScope Ng [a] (defScope st)) (hNg : Ng[0]? = some a) (hva : Vis (defScope st) a) (hg : Gl (X.blk s0 H0 scope cenv fp) x) (hm : X.mg x = some (.ref g)) (hG : ∀ cdv, LamX.GivesTo X Ng x (defScope st) g cdv (defBody st) a (X.env.qual ++ "<lambda>") TT) (D : LamsOk X k tb 0 ds) (hr : Room (k + 2) X.A) (ha : PA (X.blk s0 H0 scope cenv fp) [e] ta)
    (hdb : (x == ("__debug__" : Str)) = false := by decide) (hd : (a == ("__debug__" : Str)) = false := by decide) (hcd : (a == ("__classdict__" : Str)) = false := by decide)
    (h1 : starEach [e] cenv = (false, eval e cenv) :: starEach [] cenv := by rfl) (h2 : (backTo pos (starEach [] cenv)).any (·.1) = false := by rfl) :
    PE (X.blk s0 H0 scope cenv fp) (.Call (.Name x p) [e] [] pos) (tErrV (LamL ds (X.env.qual ++ "<lambda>") X.env.cells) (X.env.qual ++ "<lambda>") TT tb ta σ0) := by
  constructor
  intro pins s σ H Q I h
  refine wpAny_Call_Name_kw (ld_glob I hg hm (PySem.W.callWith_K (h₀ := X.base) I.ok.mod.kin F.kp (thn (ha.run pos pins s σ H _ I h) fun us s1 ⟨vs, H1, I1, r, f, j, c', dt, ev, at_, hq⟩ => ⟨I1.kIn, ?_⟩) h1 h2) hdb)
  subst ev
  cases r with
  | cons r0 rr =>
    cases rr
    obtain rfl := r0
    have C1 : Caps X σ0 H1 s1.heap := (Caps.of I0).un (show Un (X.blk s0 H0 scope cenv fp).fs fp H0 H1 s0.heap s1.heap from I1.base) nfp
    refine wpAny_call (codeAny_mono (run_errV F hbn S hNg hva hG D hr (show Env0 X.prog X.w X.K X.mg X.base X.A X.stack s1 H1 from I1.env0) I1.kIn C1 at_ hq hd hcd) fun r s2 hz => ?_)
    cases r with
    | error e => exact (show False from hz).elim
    | ok fl =>
      cases fl with
      | ret u => exact I1.after hz
      | next => exact hz.elim
      | brk => exact hz.elim
      | cont => exact hz.elim
end
end EB
namespace EB
open PySem PySem.Spec PyProof.Rows L2 StX ClX
set_option maxHeartbeats 4000000
/-! ## [elt for target in iter]: the block knows the state at which it was entered -/
section
variable {X : Cx} {pins : List (Addr × Obj)} {σ : L2.St} {H : Hp} {s : Shared} {elt tg iter : Expr} {ifs : List Expr} {scope : Scope} {own : List (Str × Nat)} {pos : Pos} {wi : TI} {g : TG} {tt : TT} {te : TE}
/-- the parts of the block, for blocks that are entered at a state of the frame -/
structure BlkParts (X : Cx) (pins : List (Addr × Obj)) (σ : L2.St) (elt tg : Expr) (ifs : List Expr) (scope : Scope) (g : TG) (tt : TT) (te : TE) : Prop where
  target : ∀ (s : Shared) (H : Hp) (C : Addr) (cl : List (Str × Addr)) (fp : List Addr), PG (X.blk s H scope (compEnvC scope cl C X.env) fp) tg g
  test : ∀ (s : Shared) (H : Hp) (C : Addr) (cl : List (Str × Addr)) (fp : List Addr), PTs (X.blk s H scope (compEnvC scope cl C X.env) fp) ifs tt
  value : ∀ (s : Shared) (H : Hp) (C : Addr) (cl : List (Str × Addr)) (fp : List Addr), L2.Inv X pins σ H s → (∀ y c, X.env.cells.lookup y = some c → c ∉ fp) → PE (X.blk s H scope (compEnvC scope cl C X.env) fp) elt te
theorem pe_lcTold (hc : X.calm = true) (hN : X.N.Nodup) (I : L2.Inv X pins σ H s) (hi : PI X tg iter wi) (ok : BlkOk X.N X.env.scope scope own) (B : BlkParts X pins σ elt tg ifs scope g tt te) {Q : VK} (hs : ∀ x, foldedSetIterable iter X.env x = pure x)
    (h : tLc wi g tt te (own.map (·.2)) σ H Q) : wpAny (model X.prog X.w) X.A (eval (.ListComp elt [⟨tg, iter, ifs, 0⟩] scope pos) X.env) (EP X pins σ Q) X.xe s := by
  have closed : ∀ y ∈ scope.names, y.2 = .free → ∃ c, X.env.cells.lookup y.1 = some c := fun y hy e => (ok.free y hy e).elim (fun z => I.ok.has _ (.inl z)) fun z => I.ok.has _ (.inr z)
  rw [eval_ListComp]
  refine wpAny_comprehension_free (use := none) rfl hs (closure_ok closed) ok.kind (fun y hy e => by rw [ok.uniq y hy, e]) ?_
  refine thn (hi.run pins s σ H _ I h) fun xv sA hA => thn hA fun itv sB hB => ?_
  obtain ⟨it, fp, tn, J, HB, rfl, IB, T, stB, fB, ask⟩ := hB
  refine wpAny_newObj_type (newEnv_comp ?_) (by show 0 ≤ sizeLine; decide)
  -- the new list, at D
  obtain ⟨D, hD⟩ : ∃ D, D = sB.heap.objs.size := ⟨_, rfl⟩
  rw [← hD]
  have freeD : HB D = none := IB.hok.fresh (Nat.le_of_eq hD.symm)
  obtain ⟨W, ⟨m0, w0⟩, turns⟩ := ask D freeD
  obtain ⟨sC, hsC⟩ : ∃ sC : Shared, sC = { sB with heap := sB.heap.push { cls := .type "list", data := .seq ([] : List Value).toArray } } := ⟨_, rfl⟩
  obtain ⟨HC, hHC⟩ : ∃ HC : Hp, HC = upd HB D (.lst []) := ⟨_, rfl⟩
  have growC : ∀ b o, sB.heap.get? b = some o → sC.heap.get? b = some o := fun b o e => by
    rw [hsC]
    exact Heap.get?_push_of_some _ e
  have sizeC : sC.heap.objs.size = sB.heap.objs.size + 1 := by
    rw [hsC]
    exact Heap.size_push _ _
  have IC : L2.Inv X pins σ HC sC := by
    rw [hsC, hHC]
    refine IB.laid (t' := sB.toks) (fun b o e => Heap.get?_push_of_some _ e) (Nat.le_of_eq hD.symm) ⟨Nat.zero_le _, [], 0, .nil, ?_⟩
    rw [hD]
    exact Heap.get?_push_size _ rfl
  have small : ∀ b ∈ fp, b < sB.heap.objs.size := fun b hb => by
    obtain ⟨o, e, _⟩ := T.obj _ _ stB b hb
    exact Heap.lt_size e
  have fC : ∀ b ∈ fp, FpOk X pins HC b ∧ b < sC.heap.objs.size := fun b hb => by
    have lt := small b hb
    refine ⟨⟨?_, (fB b hb).2⟩, ?_⟩
    · rw [hHC, upd_ne (fun z => Nat.ne_of_lt lt (z.trans hD))]
      exact (fB b hb).1
    · rw [sizeC]
      exact Nat.lt_succ_of_lt lt
  have stC : tn 0 sC.heap := T.keep _ _ _ stB fun b _ o e => growC b o e
  rw [← hsC]
  -- the block's own frame
  obtain ⟨L, hL⟩ : ∃ L, L = sC.heap.objs.size := ⟨_, rfl⟩
  obtain ⟨ce, hce⟩ : ∃ ce, ce = compEnvC scope (cellsFrom (sC.heap.objs.size + 1) scope.names (cloFrom X.env.cells scope.names [])) sC.heap.objs.size X.env := ⟨_, rfl⟩
  have IE := block_start IC ok hN fC
  have pg := B.target sC HC sC.heap.objs.size (cellsFrom (sC.heap.objs.size + 1) scope.names (cloFrom X.env.cells scope.names [])) fp
  have pt := B.test sC HC sC.heap.objs.size (cellsFrom (sC.heap.objs.size + 1) scope.names (cloFrom X.env.cells scope.names [])) fp
  have pe := B.value sC HC sC.heap.objs.size (cellsFrom (sC.heap.objs.size + 1) scope.names (cloFrom X.env.cells scope.names [])) fp IC fun y c hyc z => (fC c z).1.2.2.2.2.1 y c hyc rfl
  show codeAny _ _ (.compStart (.ListComp elt [⟨tg, iter, ifs, 0⟩] scope pos) 0 (.ref it) (.ref D) (compEnvC scope (cellsFrom (sC.heap.objs.size + 1) scope.names (cloFrom X.env.cells scope.names [])) sC.heap.objs.size X.env)) _ { sC with heap := pushCells (sC.heap.push { cls := .type "dict", data := .dict #[] }) scope.names }
  obtain ⟨sE, hsE⟩ : ∃ sE : Shared, sE = { sC with heap := pushCells (sC.heap.push { cls := .type "dict", data := .dict #[] }) scope.names } := ⟨_, rfl⟩
  have ceL : ce.locals = L := by
    rw [hce, hL]
    rfl
  rw [← hce] at IE pg pt pe ⊢
  rw [← hsE] at IE ⊢
  rw [← hHC] at w0
  have nE : ∀ b ∈ fp, HC b = none := fun b hb => (fC b hb).1.1
  have stE : tn 0 sE.heap := T.keep _ _ _ stC fun b _ o e => by
    rw [hsE]
    exact pushCells_keeps _ _ _ _ (Heap.get?_push_of_some _ e)
  have turn_ok : ∀ {σ' : L2.St} {H' : Hp} {s' : Shared}, L2.Inv (X.blk sC HC scope ce fp) [] σ' H' s' → (∀ b ∈ fp, H' b = none) → ∀ b ∈ fp, FpOk (X.blk sC HC scope ce fp) [] H' b := fun {σ' H' s'} I' hn b hb =>
    ⟨hn b hb, (I'.ok.exf b hb).1, I'.ok.exfs b hb, .inl hb, fun x c e => (I'.ok.exf b hb).2 x c e, fun _ hp => nomatch hp⟩
  suffices loop : codeAny (model X.prog X.w) X.A (.compLoop (.ListComp elt [⟨tg, iter, ifs, 0⟩] scope pos) 0 (.ref it) (.ref D) ce) (compPost (model X.prog X.w) X.A X.xe none (EP X pins σ Q) (.ref D) sC.heap.objs.size) sE by
    exact codeAny_compStart_list loop (T.self X.A 0 _ _ _ stE loop)
  refine compLoop_any (fun n s' => ∃ i H', L2.Inv (X.blk sC HC scope ce fp) [] (wipe σ (own.map (·.2))) H' s' ∧ tn i s'.heap ∧ (∀ b ∈ fp, H' b = none) ∧ W i n H') ?_ m0 ⟨0, HC, IE, stE, nE, w0⟩
  rintro n s5 ⟨i, H5, I5, st5, n5, w5⟩
  rcases turns i n H5 w5 with ⟨stop, fin⟩ | ⟨go, Nx, less, step⟩
  · refine thnF (T.done (X.blk sC HC scope ce fp) rfl rfl rfl hc i [] s5 _ H5 (fun _ _ => False) I5 (turn_ok I5 n5) st5 stop) fun r s6 ⟨hr, I6⟩ => ?_
    subst hr
    have I7 : L2.Inv X pins σ H5 s6 := IC.call' (ch := fp) I6.os I6.base I6.hok I6.bare fun b hb => by
      obtain ⟨_, f1, _, f3, f4, f5⟩ := (fC b hb).1
      exact ⟨f3, f1, f4, f5⟩
    have freeL : H5 L = none := by
      rw [← ceL]
      exact I6.free
    obtain ⟨m, hn, _⟩ := I6.loc
    have hn' : s6.heap.Ns ce.locals m := hn
    rw [ceL] at hn'
    obtain ⟨f0, f1, f2, f3, f4, f5⟩ := IC.fpOk (Nat.le_of_eq hL.symm) freeL
    refine ⟨m, by rw [← hL]; exact hn', fun h'' sb => ?_⟩
    rw [← hL] at sb
    exact ⟨.ref D, H5, I7.turned (t' := s6.toks) (fun b o hb e => (sb.2 b hb).trans e) f0 f1 f3 f4 f5, rfl, fin⟩
  · refine thnF (T.item (X.blk sC HC scope ce fp) rfl rfl rfl hc i [] s5 _ H5 (fun _ _ => False) I5 (turn_ok I5 n5) st5 go) fun r s6 ⟨u, hr, h6⟩ => ?_
    subst hr
    refine thnF h6 fun _ s7 ⟨x, H7, I7, r7, y7, st7, n7⟩ => ?_
    have P7 := I7.pinned (turn_ok I7 n7) (T.obj _ _ st7)
    refine thnF (pg.run _ s7 _ H7 x u _ P7 r7 (step x H7 y7)) fun _ s8 ⟨σ8, H8, I8, wiped, q8⟩ => thnF (pt.run _ s8 σ8 H8 _ I8 q8) fun b s9 ⟨H9, I9, q9⟩ => ?_
    have turnEnd : ∀ {s' : Shared} {H' : Hp}, L2.Inv (X.blk sC HC scope ce fp) ([] ++ pinsAt fp s7.heap) σ8 H' s' → Nx H' → ∃ m, m < n ∧ ∃ i H', L2.Inv (X.blk sC HC scope ce fp) [] (wipe σ (own.map (·.2))) H' s' ∧ tn i s'.heap ∧ (∀ b ∈ fp, H' b = none) ∧ W i m H' := fun {s' H'} I' nx => by
      obtain ⟨m', lt, w'⟩ := less H' nx
      have pinned : ∀ b ∈ fp, ∀ o, s7.heap.get? b = some o → s'.heap.get? b = some o ∧ H' b = none := fun b hb o e => by
        have z := I'.pin (b, o) (List.mem_append_right _ (List.mem_append_right _ (mem_pinsAt hb e)))
        exact ⟨z.1, z.2.1⟩
      have len : (wipe σ (own.map (·.2))).length = σ8.length := by rw [← wiped, wipe_length]
      refine ⟨m', lt, i + 1, H', (I'.unpinned (pins := [])).weak len (fun j v e => ?_), T.keep _ _ _ st7 fun b hb o e => (pinned b hb o e).1, fun b hb => ?_, w'⟩
      · rw [← wiped] at e
        exact (wipe_some e).1
      · obtain ⟨o, e, _⟩ := T.obj _ _ st7 b hb
        exact (pinned b hb o e).2
    cases b with
    | false =>
      rw [if_neg (by decide)] at q9 ⊢
      exact turnEnd I9 q9
    | true =>
      rw [if_pos rfl] at q9 ⊢
      refine thnF (pe.run _ s9 σ8 H9 _ I9 q9) fun z s10 ⟨yv, H10, I10, r10, acc, hD10, room, nx⟩ => ?_
      exact app_ok (X := X.blk sC HC scope ce fp) I10 hD10 room r10 fun s11 I11 => turnEnd I11 nx
end
/-- [elt for target in iter], elt's reading told the slots ahead -/
def tLcS (wi : TI) (g : TG) (tt : TT) (te : L2.St → TE) (vs : List Nat) : TE := fun σ H Q => tLc wi g tt (te σ) vs σ H Q
theorem pe_lcS {X : Cx} {elt tg iter : Expr} {ifs : List Expr} {scope : Scope} {own : List (Str × Nat)} {pos : Pos} {wi : TI} {g : TG} {tt : TT} {te : L2.St → TE} (hc : X.calm = true) (hN : X.N.Nodup) (hi : PI X tg iter wi) (ok : BlkOk X.N X.env.scope scope own)
    (B : ∀ pins σ, BlkParts X pins σ elt tg ifs scope g tt (te σ)) (hs : ∀ x, foldedSetIterable iter X.env x = pure x := by intro _; rfl) :
    PE X (.ListComp elt [⟨tg, iter, ifs, 0⟩] scope pos) (tLcS wi g tt te (own.map (·.2))) :=
  ⟨fun pins _ σ _ _ I h => pe_lcTold hc hN I hi ok (B pins σ) hs h⟩
end EB
namespace EB
open PySem PySem.Spec PyProof.Rows L2 StX ClX
/-! ## where a lambda stands in the text -/
def xAt (l : List Stmt) (n : Nat) : Stmt := l.getD n (.Pass ⟨0, 0, 0, 0⟩)
def xBody : Stmt → List Stmt
  | .For _ _ b _ _ => b
  | .While _ b _ _ => b
  | .If _ b _ _ => b
  | _ => []
def xElse : Stmt → List Stmt
  | .If _ _ b _ => b
  | _ => []
def xZ : Expr := .List [] ⟨0, 0, 0, 0⟩
def xVal : Stmt → Expr
  | .Assign _ v _ => v
  | .Expr v _ => v
  | _ => xZ
def xEl : Expr → Nat → Expr
  | .List es _, n => es.getD n xZ
  | .Tuple es _ _, n => es.getD n xZ
  | _, _ => xZ
def xArg : Expr → Nat → Expr
  | .Call _ es _ _, n => es.getD n xZ
  | _, _ => xZ
def xLeft : Expr → Expr
  | .BinOp l _ _ _ => l
  | _ => xZ
def xRight : Expr → Expr
  | .BinOp _ _ r _ => r
  | _ => xZ
def xSub : Expr → Expr
  | .Subscript v _ _ => v
  | _ => xZ
def lamP (o : Option Str) : Expr → LamD
  | .Lambda p b s _ => (p, b, s, o)
  | e => (⟨[], [], none, [], [], none, []⟩, e, { kind := .function, names := [], isGenerator := false, isCoroutine := false }, o)
/-- a law's lambdas bear this name -/
abbrev lawQ : Str := (("law" : Str) ++ (".<locals>." : Str)) ++ ("<lambda>" : Str)
end EB
namespace EB
open PySem PySem.Spec L2 StX ClX PyProof.Rows
set_option maxHeartbeats 4000000
/-! ## o + p, o - x, o[x] of an own class -/
theorem str_noSub : fillsNumberSlot (.type "str") "sub" = pure false := by
  have a : typeLookup (.type "str") (dunder "sub") = pure none := by rw [typeLookup_type, builtinLookup_eq_fast]; kernel_rfl
  have b : typeLookup (.type "str") (dunderR "sub") = pure none := by rw [typeLookup_type, builtinLookup_eq_fast]; kernel_rfl
  simp only [fillsNumberSlot, a, b, pure_bind]
  rfl
theorem noNot : ∀ {w : V}, RelV w .notImplemented → False
  | .non, h => nomatch h
  | .bl _, h => nomatch h
  | .int _, ⟨_, h⟩ => nomatch h
  | .str _, ⟨_, h⟩ => nomatch h
  | .byt _, ⟨_, h⟩ => nomatch h
  | .flt _, ⟨_, h⟩ => nomatch h
  | .ref _, h => nomatch h
  | .ty _, h => nomatch h
section
variable {X : Cx} {CX : CXT} {k : Nat} {C g : Addr} {sp : Sp} {E : XK}
/-- o op p, both of the class -/
def rBinO (C : Addr) (sp : Sp) (E : XK) : R2 := fun x y H Q => ∃ a b, x = .ref a ∧ y = .ref b ∧ (∃ dx fs, H a = some (.ins C dx fs)) ∧ (∃ dx fs, H b = some (.ins C dx fs)) ∧ sp [.ref a, .ref b] H Q E
theorem op_binO {op : Operator} (sf : PySem.W.selfFirst X.K C = true) (c : OwnM X.K C (dunder op.info.2) g) (F : FnR X.prog X.w X.K X.mg X.base CX k g sp) (hr : Room k X.A) (hx : Passes CX X E) : OpR X (binaryOp op) (rBinO C sp E) := by
  intro pins s σ H x y v u Q I rx ry h
  obtain ⟨a, b, rfl, rfl, ha, hb, q⟩ := h
  cases rx
  cases ry
  obtain ⟨oa, da, Ja, _⟩ := insC_at (X := X) I (.inr ha)
  obtain ⟨ob, db, Jb, _⟩ := insC_at (X := X) I (.inr hb)
  obtain ⟨m, fr⟩ := I.fr
  refine PySem.W.binop_K fr I.mod.kin Ja Jb.type sf c.here c.isf (wpAny_mono (run_own (us := [.ref a, .ref b]) (vs := [.ref a, .ref b]) F hr hx I (.cons rfl (.cons rfl .nil)) q) (fun r s' z => ?_) fun _ _ z => z)
  obtain ⟨w, H', I', rw', q'⟩ := z
  have back : EP X pins σ Q r s' := ⟨w, H', I', rw', q'⟩
  cases r <;> first | exact back | exact (noNot rw').elim
/-- o op z, z a text -/
def rBinS (C : Addr) (sp : Sp) (E : XK) : R2 := fun x y H Q => ∃ a z, x = .ref a ∧ y = .str z ∧ (∃ dx fs, H a = some (.ins C dx fs)) ∧ sp [.ref a, .str z] H Q E
theorem op_subS (sf : PySem.W.selfFirst X.K C = true) (c : OwnM X.K C "__sub__" g) (F : FnR X.prog X.w X.K X.mg X.base CX k g sp) (hr : Room k X.A) (hx : Passes CX X E) : OpR X (binaryOp .Sub) (rBinS C sp E) := by
  intro pins s σ H x y v u Q I rx ry h
  obtain ⟨a, z, rfl, rfl, ha, q⟩ := h
  cases rx
  obtain ⟨t, rfl⟩ := ry
  obtain ⟨oa, da, Ja, _⟩ := insC_at (X := X) I (.inr ha)
  obtain ⟨cd, hcd, hm⟩ := PySem.W.any_some sf
  obtain ⟨rest, hm⟩ : ∃ rest, cd.mro = .ref C :: rest := by
    cases q : cd.mro with
    | nil => rw [q] at hm; cases hm
    | cons e r => rw [q] at hm; exact ⟨r, by rw [List.head?_cons] at hm; cases (beq_iff_eq.mp hm); rfl⟩
  unfold binaryOp binaryOp1
  refine wpAny_holding (wpAny_bind ?_)
  refine wpAny_bind (Ja.type.here ?_)
  rw [show typeOf (.str z t) = pure (.type "str") from rfl]
  refine wpAny_bind (wpAny_pure ?_)
  refine wpAny_bind ((PySem.W.fills_K (nm := "sub") I.kIn hcd hm c.here).here ?_)
  rw [if_neg (by simp)]
  show wpAny _ _ (fillsNumberSlot (.type "str") "sub" >>= _) _ _ _
  rw [str_noSub]
  refine wpAny_bind (wpAny_pure ?_)
  simp only [Bool.and_false, Bool.false_eq_true, if_false, Bool.false_and, pure_bind, if_true]
  unfold tryMethod
  refine wpAny_bind ?_
  refine wpAny_bind (PySem.W.special_fn I.kIn Ja c.here (beq_iff_eq.mp c.isf) (wpAny_mono (run_own (us := [.ref a, .str z t]) (vs := [.ref a, .str z]) F hr hx I (.cons rfl (.cons ⟨t, rfl⟩ .nil)) q) (fun r s' z => ?_) fun _ _ z => z))
  obtain ⟨w, H', I', rw', q'⟩ := z
  have back : EP X pins σ Q r s' := ⟨w, H', I', rw', q'⟩
  cases r <;> first | exact (noNot rw').elim | exact wpAny_pure (wpAny_pure (wpAny_pure back))
/-- o[x] -/
def rIxO (C : Addr) (sp : Sp) (E : XK) : R2 := fun x y H Q => ∃ a, x = .ref a ∧ (∃ dx fs, H a = some (.ins C dx fs)) ∧ sp [.ref a, y] H Q E
theorem pe_ixO {a b : Expr} {ta tb : TE} {pos : Pos} (c : OwnM X.K C "__getitem__" g) (F : FnR X.prog X.w X.K X.mg X.base CX k g sp) (hr : Room k X.A.in1) (hx : Passes CX X E) (ha : PE X a ta) (hb : PE X b tb)
    (hs : ∀ o i, subscripted b true o i = runValue (.builtin "lifetime.subscript" ⟨[o, i], []⟩)) : PE X (.Subscript a b pos) (tOp (rIxO C sp E) ta tb) := by
  constructor
  intro pins s σ H Q I h
  refine Subscript_ (binT ha hb I h fun v u s2 x y H2 I2 rx ry q => ?_)
  obtain ⟨o, rfl, hi, q⟩ := q
  cases rx
  obtain ⟨oo, od, J, _⟩ := insC_at (X := X) I2 (.inr hi)
  obtain ⟨m, fr⟩ := I2.fr
  exact PySem.W.sub_K fr I2.mod.kin J c.here c.code c.isf (run_in (us := [.ref o, u]) (vs := [.ref o, y]) F hr I2.env0.frames hx I2 (.cons rfl (.cons ry .nil)) q) (hs _ _)
end
section
variable {K : PySem.W.Frag} {H : Hp} {Q : VK} {E : XK} {C : Addr} {sp : Sp} {a b dx dy : Addr} {fs gs : List (Str × V)}
theorem w_binO (ha : H a = some (.ins C dx fs)) (hb : H b = some (.ins C dy gs)) (q : sp [.ref a, .ref b] H Q E) : rBinO C sp E (.ref a) (.ref b) H Q := ⟨a, b, rfl, rfl, ⟨_, _, ha⟩, ⟨_, _, hb⟩, q⟩
theorem w_binS {z : Str} (ha : H a = some (.ins C dx fs)) (q : sp [.ref a, .str z] H Q E) : rBinS C sp E (.ref a) (.str z) H Q := ⟨a, z, rfl, rfl, ⟨_, _, ha⟩, q⟩
theorem w_ixO {y : V} (ha : H a = some (.ins C dx fs)) (q : sp [.ref a, y] H Q E) : rIxO C sp E (.ref a) y H Q := ⟨a, rfl, ⟨_, _, ha⟩, q⟩
end
end EB
namespace EB
open PySem PySem.Spec PyProof.Rows L2 StX ClX
set_option maxHeartbeats 2000000
/-! ## what raises, called where nothing may be raised -/
theorem passX0 {P : Program} {w : World} {X : Cx} : Passes (L2.CX P w) X (fun _ _ _ => False) := fun _ _ _ _ _ _ _ h => by
  obtain ⟨a, B, H', cls, d, _, _, _, _, _, _, _, z⟩ := h
  exact z.elim
/-! ## C(*y) -/
def tMakeS (K : PySem.W.Frag) (C : Addr) (sp : Sp) (E : XK) (te : TE) : TE := fun σ H Q => te σ H fun y H1 => ∃ a xs, y = V.ref a ∧ (SqT K H1 a xs ∨ SqL K H1 a xs) ∧ ∀ x dx, H1 x = none → H1 dx = none → dx ≠ x →
  sp (V.ref x :: xs) (upd (upd H1 dx (.own x)) x (.ins C dx [])) (fun v H2 => v = .non ∧ Q (.ref x) H2) E
theorem pe_makeS {X : Cx} {CX : CXT} {k : Nat} {f C : Addr} {sp : Sp} {E : XK} {x : Str} {e : Expr} {te : TE} {p pos q : Pos} (M : Mk X.K C f) (F : FnR X.prog X.w X.K X.mg X.base CX k f sp) (hr : Room (k + 1) X.A) (hg : Gl X x) (hm : X.mg x = some (.ref C)) (hx : Passes CX X E) (he : PE X e te)
    (hdb : (x == ("__debug__" : Str)) = false := by decide) (hst : starEach [.Starred e q] X.env = [(true, eval e X.env)] := by rfl) : PE X (.Call (.Name x p) [.Starred e q] [] pos) (tMakeS X.K C sp E te) := by
  constructor
  intro pins s σ H Q I h
  refine wpAny_Call_Name_kw (ld_glob I hg hm (PySem.W.callWith_S (h₀ := X.base) I.ok.mod.kin M.kp (thn (he.run pins s σ H _ I h) fun v s1 ⟨y, H1, I1, ry, a, xs, ey, hxs, ask⟩ => ?_) hst) hdb)
  subst ey
  obtain rfl : v = Value.ref a := ry
  exact star_any I1 hxs fun us s2 I2 rv => ⟨I2.kIn, run_makeR M F hr hx I2 rv ask⟩
theorem w_makeS {K : PySem.W.Frag} {C : Addr} {sp : Sp} {E : XK} {te : TE} {σ : L2.St} {H : Hp} {Q : VK} (q : te σ H fun y H1 => ∃ a xs, y = V.ref a ∧ H1 a = some (.tup xs) ∧ ∀ x dx H2, H1 x = none → Ex H1 H2 → H2 x = some (.ins C dx []) → sp (V.ref x :: xs) H2 (fun v H3 => v = .non ∧ Q (.ref x) H3) E)
    (mono : ∀ (R R' : VK), (∀ v h, R v h → R' v h) → te σ H R → te σ H R') : tMakeS K C sp E te σ H Q := by
  refine mono _ _ (fun y H1 h => ?_) q
  obtain ⟨a, xs, ey, ha, k⟩ := h
  exact ⟨a, xs, ey, .inl (Evl.st_of ha), fun x dx hx hdx ne => k x dx _ hx (Evl.Ex.trans (Evl.Ex.new hdx) (Evl.Ex.new (by rw [upd_ne ne.symm]; exact hx))) upd_same⟩
/-! ## sums, differences, trades of a kind -/
def unkE (K : PySem.W.Frag) (H : Hp) (E : XK) : Prop := ∀ H', Ex H H' → E (.ref (He.ga K "UnknownKind")) none H'
def spx_Offer_add (K : PySem.W.Frag) : Sp := fun vs H Q E => ∃ a b ts us, vs = [.ref a, .ref b] ∧ OfferAt K H a ts ∧ OfferAt K H b us ∧ Raw (ts ++ us) ∧ DueE K H E (due (ts ++ us)) ∧ (due (ts ++ us) = .fine → ∀ o H', H o = none → Ex H H' → OfferAt K H' o (ts ++ us) → Q (.ref o) H')
theorem lenx_Offer_add {K} : ∀ vs H Q E, spx_Offer_add K vs H Q E → vs.length = 2 := by rintro _ _ _ _ ⟨_, _, _, _, rfl, _⟩; rfl
/-- without the trade for a kind -/
def lessK (z : Str) (ts : List Tr) : List Tr := ts.filter fun t => !decide (t.1 = z)
def spx_Offer_sub (K : PySem.W.Frag) : Sp := fun vs H Q E => ∃ a z ts, vs = [.ref a, .str z] ∧ OfferAt K H a ts ∧ OfferOk ts ∧ Raw ts ∧ (z ∉ ts.map (·.1) → unkE K H E) ∧
  (z ∈ ts.map (·.1) → DueE K H E (due (lessK z ts)) ∧ (due (lessK z ts) = .fine → ∀ o H', H o = none → Ex H H' → OfferAt K H' o (lessK z ts) → Q (.ref o) H'))
theorem lenx_Offer_sub {K} : ∀ vs H Q E, spx_Offer_sub K vs H Q E → vs.length = 2 := by rintro _ _ _ _ ⟨_, _, _, rfl, _⟩; rfl
def spx_Offer_getitem (K : PySem.W.Frag) : Sp := fun vs H Q E => ∃ a z ts, vs = [.ref a, .str z] ∧ OfferAt K H a ts ∧ OfferOk ts ∧ (z ∉ ts.map (·.1) → unkE K H E) ∧
  ∀ t ∈ ts, t.1 = z → ∀ p H', H p = none → Ex H H' → H' p = some (.tup [.int t.2.1, .int t.2.2]) → Q (.ref p) H'
theorem lenx_Offer_getitem {K} : ∀ vs H Q E, spx_Offer_getitem K vs H Q E → vs.length = 2 := by rintro _ _ _ _ ⟨_, _, _, rfl, _⟩; rfl
end EB
namespace EB
open PySem PySem.Spec L2 StX ClX
set_option maxHeartbeats 2000000
theorem w_join3 {A : Prop} {α β γ : Type} {P : Hp → α → β → γ → Prop} (C : Hp → α → β → γ → Prop) (main : (∀ H' x y z, C H' x y z → P H' x y z) → A) (fin : ∀ H' x y z, C H' x y z → P H' x y z) : A := main fin
section
variable {K : PySem.W.Frag} {H : Hp} {Q : VK} {σ : L2.St} {g : TG} {te : TE} {ts : TA} {vs : List Nat} {a : Addr} {xs : List V}
theorem w_TTerr0 {tl : XK → Hp → VK → Prop} (q : tl (ErrQ K Q) H fun _ H' => tTup (clA (tCons (tC (.str "none")) tNil)) [] H' Q) : TTerr K tl H Q := q
theorem w_lamV {T : List (Addr × Str)} {L : LL} {q : Str} {j : Nat} (tb : LamX.Tabs T H) (k : ∀ f c' dt H1, H f = none → LamX.ExtN H H1 → LamX.Tabs T H1 → LamAt L q H1 j f c' dt → Q (.ref f) H1) : tLamV T L q j σ H Q := ⟨tb, k⟩
theorem LamAt.up {L : LL} {q : Str} {H H' : Hp} {j : Nat} {f c' dt : Addr} (e : Ex H H') (h : LamAt L q H j f c' dt) : LamAt L q H' j f c' dt := h.by fun a o _ _ z => e a o z
theorem LamAt.upX {L : LL} {q : Str} {H H' : Hp} {j : Nat} {f c' dt : Addr} (n : NL H H') (h : LamAt L q H j f c' dt) : LamAt L q H' j f c' dt := h.by n
/-- a call of a kept lambda, its argument known -/
theorem w_errV {L : LL} {q : Str} {tb : Nat → XK → TE} {σ0 : L2.St} {j : Nat} {f c' dt : Addr} (at_ : LamAt L q H j f c' dt) (h : tb j (ErrQ K Q) σ0 H fun _ H' => tTup (clA (tCons (tC (.str "none")) tNil)) [] H' Q) :
    ∃ f' j' c'' dt', [V.ref f] = [V.ref f'] ∧ LamAt L q H j' f' c'' dt' ∧ TTerr K (actV L tb σ0 j' f' c'' dt') H Q := ⟨f, j, c', dt, rfl, at_, ⟨at_.1, at_.2.2⟩, h⟩
/-- [e for target in l], what each value is: F -/
theorem w_lcLF (F : Hp → V → Prop) (up : ∀ H1 H2 v, Ex H1 H2 → F H1 v → F H2 v) (upB : ∀ H1 H2 D zs v, H1 D = some (.lst zs) → ExB D H1 H2 → F H1 v → F H2 v) (hx : SqL K H a xs) (hz : xs.length ≤ 1000)
    (hb : ∀ (i : Nat) x, xs[i]? = some x → ∀ H1, Ex H H1 → ∀ R : VK, (∀ v H2, F H2 v → Ex H1 H2 → R v H2) → g x (wipe σ vs) H1 fun σ2 H2 => wipe σ2 vs = wipe σ vs ∧ te σ2 H2 R)
    (q : ∀ p H2 zs, H p = none → Ex H H2 → H2 p = some (.lst zs) → zs.length = xs.length → (∀ z ∈ zs, F H2 z) → Q (.ref p) H2) : lcTL K g tYes te vs σ Q (.ref a) H := by
  refine ⟨a, rfl, ⟨_, hx⟩, fun D hD => ?_⟩
  refine lc_list (K := K) (a := a) (xs := xs) (fun i H' => ∃ zs, Ex H H' ∧ H' D = some (.lst zs) ∧ zs.length = min i xs.length ∧ ∀ z ∈ zs, F H' z) ⟨[], Evl.Ex.new hD, upd_same, by simp, fun _ z => nomatch z⟩ (fun i H' _ ⟨_, e, _⟩ => ex_sqL e hx) ?_ ?_
  · rintro i x H' hi ⟨zs, e, hd, hl, hp⟩
    have lt := (List.getElem?_eq_some_iff.mp hi).1
    refine hb i x hi H' e _ fun v H2 fv e2 => ?_
    have hd2 := e2 D _ hd
    refine ⟨zs, hd2, Nat.lt_of_le_of_lt (show zs.length ≤ 1000 by omega) (by decide), zs ++ [v], ExB.ex (Evl.Ex.trans e e2) hD ExB.upd, upd_same, ?_, fun z hz => ?_⟩
    · rw [List.length_append, List.length_singleton]
      omega
    · rcases List.mem_append.mp hz with w | w
      · exact upB _ _ D zs _ hd2 ExB.upd (up _ _ _ e2 (hp z w))
      · rw [List.mem_singleton.mp w]
        exact upB _ _ D zs _ hd2 ExB.upd fv
  · rintro H' ⟨zs, e, hd, hl, hp⟩
    exact q D H' zs hD e hd (by omega) hp
/-- [trade for k in range(n)]: new trades -/
theorem w_lcRTrs (us : List Tr) {n : Nat} (hn : n = us.length) (hz : n ≤ 1000) (ht : ∀ R : List V → Hp → Prop, R [.int (n : Int)] H → ts σ H R)
    (hb : ∀ (i : Nat) t, us[i]? = some t → ∀ H1, Ex H H1 → ∀ R : VK, (∀ v H2, TrAt H2 v t → Ex H1 H2 → R v H2) → g (.int (i : Int)) (wipe σ vs) H1 fun σ2 H2 => wipe σ2 vs = wipe σ vs ∧ te σ2 H2 R)
    (q : ∀ p H2 zs, H p = none → Ex H H2 → H2 p = some (.lst zs) → Paired (TrAt H2) zs us → Q (.ref p) H2) : tLc (iRng1 ts) g tYes te vs σ H Q := by
  refine ht _ ⟨n, rfl, by omega, by omega, fun D hD => ?_⟩
  have e0 : ((n : Int)).toNat = n := by omega
  rw [e0]
  refine lc_range (lo := 0) (n := n) (fun i H' => ∃ zs, Ex H H' ∧ H' D = some (.lst zs) ∧ Paired (TrAt H') zs (us.take i)) ⟨[], Evl.Ex.new hD, upd_same, by rw [List.take_zero]; exact .nil⟩ (fun i H1 hi p => ?_) (fun H2 p => ?_)
  · obtain ⟨zs, e, hd, hp⟩ := p
    have e1 : (0 : Int) + (i : Int) = i := Int.zero_add _
    rw [e1]
    have hui : us[i]? = some (us[i]'(by omega)) := List.getElem?_eq_getElem (by omega)
    refine hb i _ hui H1 e _ fun v H2 tv e2 => ?_
    have hd2 := e2 D _ hd
    have lz := pairedLen hp
    rw [List.length_take] at lz
    refine ⟨zs, hd2, Nat.lt_of_le_of_lt (show zs.length ≤ 1000 by omega) (by decide), zs ++ [v], ExB.ex (Evl.Ex.trans e e2) hD ExB.upd, upd_same, ?_⟩
    rw [List.take_succ, hui]
    exact pairedSnoc (trsUpB hd2 (fun _ z => nomatch z) ExB.upd (trsUp e2 hp)) (tv.upB hd2 (fun _ z => nomatch z) ExB.upd)
  · obtain ⟨zs, e, hd, hp⟩ := p
    rw [hn, List.take_length] at hp
    exact q D H2 zs hD e hd hp
end
/-! ## an offer that stands is not refused -/
theorem isTr_of {t : Tr} (k : isTK t.1 = true) (g : Good t) : isTr t = true := by
  obtain ⟨a, b, c, d⟩ := g
  unfold isTr
  rw [k, decide_eq_true a, decide_eq_true b, decide_eq_true c, decide_eq_true d]
  rfl
theorem OfferOk.isTr {ts : List Tr} (ok : OfferOk ts) : ∀ t ∈ ts, isTr t = true := fun t ht => isTr_of (ok.kinds t ht).1 (ok.fair.1.2 t ht)
theorem nodup_take {ts : List Tr} (nd : (ts.map (·.1)).Nodup) {k : Nat} {t : Tr} (h : ts[k]? = some t) : t.1 ∉ (ts.take k).map (·.1) := fun z => by
  obtain ⟨u, hu, e⟩ := List.mem_map.mp z
  obtain ⟨i, hi⟩ := List.mem_iff_getElem?.mp hu
  have ik : i < k := by
    have := (List.getElem?_eq_some_iff.mp hi).1
    rw [List.length_take] at this
    omega
  rw [List.getElem?_take_of_lt ik] at hi
  have a : (ts.map (·.1))[i]? = some u.1 := by rw [List.getElem?_map, hi]; rfl
  have b : (ts.map (·.1))[k]? = some t.1 := by rw [List.getElem?_map, h]; rfl
  have := nodup_ix nd a (e ▸ b)
  omega
theorem due_fine {ts : List Tr} (ok : OfferOk ts) : due ts = .fine := by
  have l := ok.fair.1.1
  rw [due_good (fun z => by have := ok.one; rw [z] at this; cases this) fun j hj => ?_, if_neg (by have := ok.fair.2; omega)]
  have ht : ts[j]? = some ts[j] := List.getElem?_eq_getElem hj
  rw [badAt_some ht, ok.isTr _ (List.mem_of_getElem? ht), decide_eq_false (nodup_take ok.nodup ht), decide_eq_false (show ¬ j = 3 by omega)]
  rfl
/-- one less trade -/
theorem lessK_eq {ts : List Tr} (ok : OfferOk ts) {t : Tr} (ht : t ∈ ts) : lessK t.1 ts = ts.filter fun u => !decide (u = t) := by
  unfold lessK
  refine List.filter_congr fun u hu => ?_
  congr 1
  refine decide_eq_decide.mpr ⟨fun e => ?_, fun e => by rw [e]⟩
  obtain ⟨i, hi⟩ := List.mem_iff_getElem?.mp hu
  obtain ⟨j, hj⟩ := List.mem_iff_getElem?.mp ht
  have a : (ts.map (·.1))[i]? = some t.1 := by rw [List.getElem?_map, hi, ← e]; rfl
  have b : (ts.map (·.1))[j]? = some t.1 := by rw [List.getElem?_map, hj]; rfl
  have := nodup_ix ok.nodup a b
  subst this
  rw [hi] at hj
  exact Option.some.inj hj
theorem bo_sub {ts us : List Tr} (h : List.Sublist us ts) (g : ∀ t ∈ ts, Good t) {d : Int} (d0 : 0 ≤ d) : bo us d ≤ bo ts d := by
  induction h with
  | slnil => exact Int.le_refl _
  | cons t s ih =>
    obtain ⟨a, b, c, e⟩ := g t List.mem_cons_self
    have := ih fun u hu => g u (List.mem_cons_of_mem _ hu)
    rw [bo_cons]
    have : 0 ≤ t.2.1 * d / t.2.2 := Int.ediv_nonneg (Int.mul_nonneg a d0) (by omega)
    omega
  | cons_cons t s ih =>
    have := ih fun u hu => g u (List.mem_cons_of_mem _ hu)
    rw [bo_cons, bo_cons]
    omega
theorem lessK_ok {ts : List Tr} (ok : OfferOk ts) {z : Str} (ne : lessK z ts ≠ []) : OfferOk (lessK z ts) := by
  have sub : List.Sublist (lessK z ts) ts := List.filter_sublist
  have mem : ∀ t ∈ lessK z ts, t ∈ ts := fun t h => sub.subset h
  refine ⟨⟨⟨Nat.le_trans sub.length_le ok.fair.1.1, fun t h => ok.fair.1.2 t (mem t h)⟩, ?_⟩, List.length_pos_iff.mpr ne, fun t h => ok.kinds t (mem t h), ok.nodup.sublist (sub.map _)⟩
  have := bo_sub sub ok.fair.1.2 (d := 27720) (by decide)
  have := ok.fair.2
  omega
theorem few_one {ts : List Tr} (f : Fair ts) {F : Int} (h : IsFew ts 1 F) : F = 1 := by
  refine h.unique ⟨by decide, drk_ge f (by decide), fun n n0 n1 => ?_⟩
  obtain rfl : n = 0 := by omega
  rw [drk_zero f]
  decide
section
variable {K : PySem.W.Frag}
theorem unk_err {K : PySem.W.Frag} {H : Hp} {R : VK} (r : ∀ p H', Ex H H' → H' p = some (.tup [.str "kind"]) → R (.ref p) H') : unkE K H (ErrQ K R) := fun H2 e2 => ⟨[.str "kind"], .plain "UnknownKind" (by decide) (by decide) (by decide), fun p H3 e3 h3 => r p H3 (Evl.Ex.trans e2 e3) h3⟩
/-- a tuple that tells a word -/
def IsW (w : Str) (H : Hp) (v : V) : Prop := ∃ r, v = .ref r ∧ H r = some (.tup [.str w])
theorem isW_dp {w : Str} {H : Hp} : ∀ {zs : List V}, (∀ z ∈ zs, IsW w H z) → DpAll K H zs (List.replicate zs.length (.tuple [.str w]))
  | [], _ => .nil
  | z :: zs, h => by
    obtain ⟨r, e, hr⟩ := h z List.mem_cons_self
    rw [e]
    exact .cons (.tup (Evl.st_of hr) (.cons (.str _) .nil)) (isW_dp fun y hy => h y (List.mem_cons_of_mem _ hy))
theorem eqv_words {w : Str} : ∀ n : Nat, PyData.eqvAll (List.replicate n (PyData.tuple [.str w])) (List.replicate n (PyData.tuple [.str w])) = true
  | 0 => rfl
  | n + 1 => by
    rw [List.replicate_succ]
    simp only [PyData.eqvAll, eqv_words n, Bool.and_true]
    simp [PyData.eqv, PyData.eqvAll]
theorem w_neWords {w : Str} {H : Hp} {Q : VK} {a b r : Addr} {zs : List V} {n : Nat} (so : PyData.strOk w = true) (hn : n ≤ 100) (h1 : H a = some (.lst zs)) (l : zs.length = n) (f : ∀ z ∈ zs, IsW w H z) (h2 : H b = some (.lst (List.replicate n (.ref r)))) (hr : H r = some (.tup [.str w])) (q : Q (.bl false) H) : rNeD K (.ref a) (.ref b) H Q := by
  have sh : SeqAt.shaped (.list (List.replicate n (PyData.tuple [.str w]))) = true := by
    refine okD_shaped (n := 4) ?_ ?_ (by decide)
    · refine Bool.and_eq_true_iff.mpr ⟨decide_eq_true (by rw [List.length_replicate]; omega), List.all_eq_true.mpr fun d hd => ?_⟩
      rw [(List.mem_replicate.mp hd).2]
      simp [okD, so]
    · show noDics (List.replicate n (PyData.tuple [.str w])) = true
      clear h1 l f h2 q hn
      induction n with
      | zero => rfl
      | succ n ih =>
        rw [List.replicate_succ]
        show (noDic (PyData.tuple [.str w]) && noDics (List.replicate n (PyData.tuple [.str w]))) = true
        rw [ih]
        rfl
  have d2 : DpAll K H (List.replicate n (.ref r)) (List.replicate n (.tuple [.str w])) := by
    have := isW_dp (K := K) (w := w) (H := H) (zs := List.replicate n (.ref r)) fun z hz => ⟨r, (List.mem_replicate.mp hz).2, hr⟩
    rwa [List.length_replicate] at this
  have d1 := isW_dp (K := K) f
  rw [l] at d1
  refine w_neD (d := .list (List.replicate n (.tuple [.str w]))) (e := .list (List.replicate n (.tuple [.str w]))) (.lst (Evl.sq_of h1) d1) (.lst (Evl.sq_of h2) d2) sh sh ?_
  rw [show PyData.eqv (.list (List.replicate n (PyData.tuple [.str w]))) (.list (List.replicate n (PyData.tuple [.str w]))) = true by simpa [PyData.eqv] using eqv_words (w := w) n]
  exact q
theorem isW_up {w : Str} : ∀ (H1 H2 : Hp) (v : V), Ex H1 H2 → IsW w H1 v → IsW w H2 v := fun _ _ _ e ⟨r, h1, h2⟩ => ⟨r, h1, e _ _ h2⟩
theorem isW_upB {w : Str} : ∀ (H1 H2 : Hp) (D : Addr) (zs : List V) (v : V), H1 D = some (.lst zs) → ExB D H1 H2 → IsW w H1 v → IsW w H2 v := fun _ _ _ _ _ hD e ⟨r, h1, h2⟩ => ⟨r, h1, e _ _ (ne_of h2 hD fun z => nomatch z) h2⟩
end
end EB
namespace EB
open PySem PySem.Spec L2 StX ClX
set_option maxHeartbeats 1000000
/-! ## the missing numbers of an interval -/
section
variable {ts : List Tr}
open Classical in
noncomputable def missC (ts : List Tr) (a : Int) (i : Nat) : Bool := !decide (Com ts (a + i))
noncomputable def misL (ts : List Tr) (a : Int) (n : Nat) : List Int := ((List.range n).filter (missC ts a)).map fun (i : Nat) => a + i
theorem missC_iff {a : Int} {i : Nat} : missC ts a i = true ↔ ¬ Com ts (a + i) := by
  unfold missC
  simp
theorem misL_succ {a : Int} {n : Nat} : misL ts a (n + 1) = misL ts a n ++ (if missC ts a n = true then [a + n] else []) := by
  unfold misL
  rw [List.range_succ, List.filter_append, List.map_append]
  by_cases h : missC ts a n = true
  · simp [h]
  · simp [h]
theorem misL_com {a : Int} {n : Nat} (c : Com ts (a + n)) : misL ts a (n + 1) = misL ts a n := by
  rw [misL_succ, if_neg fun h => missC_iff.mp h c, List.append_nil]
theorem misL_not {a : Int} {n : Nat} (c : ¬ Com ts (a + n)) : misL ts a (n + 1) = misL ts a n ++ [a + n] := by
  rw [misL_succ, if_pos (missC_iff.mpr c)]
theorem misL_le {a : Int} {n : Nat} : (misL ts a n).length ≤ n := by
  unfold misL
  rw [List.length_map]
  exact Nat.le_trans (List.length_filter_le _ _) (by rw [List.length_range]; exact Nat.le_refl _)
theorem misL_v {a : Int} {n : Nat} : ((List.range n).filter (missC ts a)).map (fun (i : Nat) => V.int (a + i)) = (misL ts a n).map V.int := by
  unfold misL
  rw [List.map_map]
  rfl
theorem misL_len (f : Fair ts) (h1 : 1 ≤ ts.length) {a : Int} (h : 0 ≤ a) : ∀ n : Nat, ((misL ts a n).length : Int) = mis ts (a + n - 1) - mis ts (a - 1)
  | 0 => by simp [misL]
  | n + 1 => by
    have ih := misL_len f h1 h n
    have e : a + ((n + 1 : Nat) : Int) - 1 = a + n := by omega
    rw [e]
    by_cases c : Com ts (a + n)
    · rw [misL_com c, mis_com f h1 (by omega) c]
      exact ih
    · have := mis_not f h1 (d := a + n) (by omega) c
      rw [misL_not c, List.length_append, List.length_singleton]
      omega
theorem misL_mem {a : Int} {n : Nat} {x : Int} (h : x ∈ misL ts a n) : ∃ i : Nat, i < n ∧ x = a + i ∧ ¬ Com ts x := by
  obtain ⟨i, hi, e⟩ := List.mem_map.mp h
  obtain ⟨m, c⟩ := List.mem_filter.mp hi
  exact ⟨i, List.mem_range.mp m, e.symm, by rw [← e]; exact missC_iff.mp c⟩
theorem misL_nth (f : Fair ts) (h1 : 1 ≤ ts.length) : ∀ (n k : Nat) (x : Int), (misL ts 0 n)[k]? = some x → IsNth ts (k + 1) x
  | 0, k, x, h => by simp [misL] at h
  | n + 1, k, x, h => by
    by_cases c : Com ts (0 + (n : Int))
    · rw [misL_com c] at h
      exact misL_nth f h1 n k x h
    · rw [misL_not c] at h
      by_cases l : k < (misL ts 0 n).length
      · rw [List.getElem?_append_left l] at h
        exact misL_nth f h1 n k x h
      · rw [List.getElem?_append_right (by omega)] at h
        have z : k - (misL ts 0 n).length = 0 := by
          cases q : k - (misL ts 0 n).length with
          | zero => rfl
          | succ j => rw [q] at h; simp at h
        rw [z] at h
        have ex : x = 0 + (n : Int) := by simpa using h.symm
        have ln := misL_len f h1 (a := 0) (by decide) n
        rw [show (0 : Int) - 1 = -1 by decide, mis_none f] at ln
        have e := nth_of f h1 (by omega) c
        have mn := mis_not f h1 (d := 0 + (n : Int)) (by omega) c
        rw [ex, show ((k : Int) + 1) = mis ts (0 + (n : Int)) by omega]
        exact e
theorem misL_gives (f : Fair ts) {a : Int} (h : 0 ≤ a) {n : Nat} (g : gives ts = false) : misL ts a n = [] := by
  refine List.eq_nil_iff_forall_not_mem.mpr fun x hx => ?_
  obtain ⟨i, _, e, c⟩ := misL_mem hx
  exact c (gives_not f g (by omega))
theorem few_up (f : Fair ts) (h1 : 1 ≤ ts.length) {d : Int} (h : 0 ≤ d) : (Com ts d → few ts (d + 1) = few ts d + 1) ∧ (¬ Com ts d → few ts (d + 1) = few ts d) := by
  have e : mis ts (d - 1) = d - few ts d := by
    unfold mis
    rw [Int.sub_add_cancel]
  have e2 : mis ts d = d + 1 - few ts (d + 1) := rfl
  refine ⟨fun c => ?_, fun c => ?_⟩
  · have := mis_com f h1 h c
    omega
  · have := mis_not f h1 h c
    omega
end
def sp_Offer_missing (K : PySem.W.Frag) : SpG := fun vs H Q _ => ∃ (o : Addr) (ts : List Tr) (a b : Int), vs = [.ref o, .int a, .int b] ∧ OfferAt K H o ts ∧ OfferOk ts ∧ (0 ≤ a ∧ a ≤ b ∧ b ≤ 1000000000000000000 ∧ b ≤ a + 9999) ∧
  ∀ H', Ex H H' → Q ((misL ts a (b + 1 - a).toNat).map V.int) H'
theorem len_Offer_missing {K} : ∀ vs H Q E, sp_Offer_missing K vs H Q E → vs.length = 3 := by rintro _ _ _ _ ⟨_, _, _, _, rfl, _⟩; rfl
theorem ap_Offer_missing {K : PySem.W.Frag} {H : Hp} {Q : List V → Hp → Prop} {E : XK} {o : Addr} {ts : List Tr} {a b : Int} (h : OfferAt K H o ts) (ok : OfferOk ts) (l : 0 ≤ a ∧ a ≤ b ∧ b ≤ 1000000000000000000 ∧ b ≤ a + 9999) (k : ∀ H', Ex H H' → Q ((misL ts a (b + 1 - a).toNat).map V.int) H') : sp_Offer_missing K [.ref o, .int a, .int b] H Q E :=
  ⟨o, ts, a, b, rfl, h, ok, l, k⟩
theorem w_gIf {c : TT} {ta tb : TGn} {D : GEnds} {ys : List V} {σ : St} {H : Hp} (q : c σ H fun b H1 => if b = true then ta D ys σ H1 else tb D ys σ H1) : tGIf c ta tb D ys σ H := q
theorem w_gForR2 {ts : TA} {g : TG} {tb : TGn} {D : GEnds} {ys : List V} {σ : St} {H : Hp} {lo hi : Int} {n : Nat} (Pv : Nat → List V → St → Hp → Prop) (hl : -1000000000000000000 ≤ lo ∧ lo ≤ 1000000000000000000) (eh : (hi - lo).toNat = n) (hh : -1000000000000000000 ≤ hi ∧ hi ≤ 2000000000000000000)
    (ht : ∀ R : List V → Hp → Prop, R [.int lo, .int hi] H → ts σ H R) (h0 : Pv 0 ys σ H) (hs : ∀ (i : Nat) ys σ' H', i < n → Pv i ys σ' H' → g (.int (lo + i)) σ' H' fun σ2 H2 => tb { D with nx := Pv (i + 1), ct := Pv (i + 1), bk := D.nx } ys σ2 H2) (hd : ∀ ys σ' H', Pv n ys σ' H' → D.nx ys σ' H') : tGFor (iRng2 ts) g tb D ys σ H := by
  refine ht _ ⟨lo, hi, rfl, ⟨by omega, by omega, by omega, by omega⟩, ?_⟩
  rw [eh]
  refine ⟨fun i m ys σ H => m = n - i ∧ i ≤ n ∧ Pv i ys σ H, ⟨n, by simp, Nat.zero_le _, h0⟩, ?_⟩
  rintro i m ys σ H ⟨rfl, hi, p⟩
  by_cases hlt : i < n
  · refine .inr ⟨hlt, Pv (i + 1), fun ys' σ' H' p' => ⟨n - (i + 1), by omega, rfl, hlt, p'⟩, fun x H' y => ?_⟩
    obtain ⟨e, y⟩ := y
    subst e y
    exact hs i ys σ _ hlt p
  · have e : i = n := by omega
    subst e
    exact .inl ⟨Nat.le_refl _, hd ys σ H p⟩
theorem w_boolO {K : PySem.W.Frag} {σ : St} {H : Hp} {Q : VK} {E : XK} {o : Addr} {ts : List Tr} {te : TE} (ht : ∀ Q : VK, Q (.ref o) H → te σ H Q) (h : OfferAt K H o ts) (ok : OfferOk ts) (k : ∀ H', Ex H H' → Q (.bl (gives ts)) H') : tBoolO (He.ga K "Offer") (sp_Offer_bool K) E te σ H Q := by
  obtain ⟨dx, a, h1, hT⟩ := id h
  exact ht _ ⟨o, rfl, ⟨dx, _, h1⟩, o, ts, rfl, h, ok, fun H' e => ⟨_, rfl, k H' e⟩⟩
end EB
namespace EB
/-! ## counting what agrees -/
def cnt (p : Int → Bool) : Nat → Nat
  | 0 => 0
  | n + 1 => cnt p n + if p n then 1 else 0
theorem cnt_le (p : Int → Bool) : ∀ n, cnt p n ≤ n
  | 0 => Nat.le_refl _
  | n + 1 => by
    have := cnt_le p n
    unfold cnt
    split <;> omega
theorem cnt_add (p : Int → Bool) (m : Nat) : ∀ n : Nat, cnt p (m + n) = cnt p m + cnt (fun i => p (m + i)) n
  | 0 => rfl
  | n + 1 => by
    show cnt p (m + n) + (if p ((m + n : Nat) : Int) then 1 else 0) = _
    rw [cnt_add p m n]
    show _ = cnt p m + (cnt (fun i => p (m + i)) n + if p ((m : Int) + (n : Int)) then 1 else 0)
    rw [Int.natCast_add]
    omega
theorem cnt_mono (p : Int → Bool) {m n : Nat} (h : m ≤ n) : cnt p m ≤ cnt p n := by
  obtain ⟨k, rfl⟩ : ∃ k, n = m + k := ⟨n - m, by omega⟩
  rw [cnt_add]
  omega
theorem cnt_congr {p q : Int → Bool} : ∀ {n : Nat}, (∀ i : Nat, i < n → p i = q i) → cnt p n = cnt q n
  | 0, _ => rfl
  | n + 1, h => by
    unfold cnt
    rw [cnt_congr fun i hi => h i (by omega), h n (by omega)]
/-- the first m numbers that agree -/
def ups (p : Int → Bool) (m : Nat) : List Int := ((List.range m).filter fun i : Nat => p (i : Int)).map fun i : Nat => (i : Int)
theorem ups_succ (p : Int → Bool) (m : Nat) : ups p (m + 1) = ups p m ++ if p m then [(m : Int)] else [] := by
  unfold ups
  rw [List.range_succ, List.filter_append, List.map_append]
  by_cases h : p m = true
  · simp [h]
  · simp [h]
theorem ups_len (p : Int → Bool) : ∀ m, (ups p m).length = cnt p m
  | 0 => rfl
  | m + 1 => by
    rw [ups_succ, List.length_append, ups_len p m]
    show _ = cnt p m + _
    split <;> rfl
theorem ups_mem {p : Int → Bool} {m : Nat} {x : Int} (h : x ∈ ups p m) : 0 ≤ x ∧ x < m ∧ p x = true := by
  unfold ups at h
  obtain ⟨i, hi, rfl⟩ := List.mem_map.mp h
  obtain ⟨a, b⟩ := List.mem_filter.mp hi
  have := List.mem_range.mp a
  exact ⟨by omega, by omega, b⟩
theorem ups_cap (p : Int → Bool) (l : Int) : ∀ m : Nat, ((ups p m).filter fun x => decide (x ≤ l)).length = cnt p (min m (l + 1).toNat)
  | 0 => by simp [ups, cnt]
  | m + 1 => by
    rw [ups_succ, List.filter_append, List.length_append, ups_cap p l m]
    by_cases h : (m : Int) ≤ l
    · have e1 : min m (l + 1).toNat = m := by omega
      have e2 : min (m + 1) (l + 1).toNat = m + 1 := by omega
      rw [e1, e2]
      show _ = cnt p m + _
      by_cases hp : p m = true
      · simp [hp, h]
      · simp [hp]
    · have e2 : min (m + 1) (l + 1).toNat = min m (l + 1).toNat := by omega
      rw [e2]
      by_cases hp : p m = true
      · simp [hp, h]
      · simp [hp]
theorem ups_at (p : Int → Bool) : ∀ (m i : Nat), i < (ups p m).length → ∃ n : Nat, (ups p m)[i]? = some (n : Int) ∧ n < m ∧ p n = true ∧ cnt p n = i
  | 0, i, h => by simp [ups] at h
  | m + 1, i, h => by
    rw [ups_succ] at h ⊢
    by_cases hi : i < (ups p m).length
    · obtain ⟨n, a, b, c, d⟩ := ups_at p m i hi
      exact ⟨n, by rw [List.getElem?_append_left hi]; exact a, by omega, c, d⟩
    · by_cases hp : p m = true
      · rw [if_pos hp, List.length_append, List.length_singleton] at h
        rw [if_pos hp]
        have e : i = (ups p m).length := by omega
        subst e
        exact ⟨m, by simp, by omega, hp, (ups_len p m).symm⟩
      · rw [if_neg hp, List.append_nil] at h
        exact absurd h hi
/-- from b on the same after every T -/
structure PerT (p : Int → Bool) (b T : Nat) : Prop where
  pos : 0 < T
  per : ∀ n : Int, b ≤ n → p (n + T) = p n
theorem PerT.many {p : Int → Bool} {b T : Nat} (h : PerT p b T) {n : Int} (hn : b ≤ n) : ∀ w : Nat, p (n + w * T) = p n
  | 0 => by simp
  | w + 1 => by
    have e : n + ((w + 1 : Nat) : Int) * T = (n + w * T) + T := by
      rw [Int.natCast_add, Int.add_mul, Int.natCast_one, Int.one_mul, Int.add_assoc]
    have : 0 ≤ (w : Int) * T := Int.mul_nonneg (by omega) (by omega)
    rw [e, h.per _ (by omega), h.many hn w]
theorem PerT.cnt {p : Int → Bool} {b T : Nat} (h : PerT p b T) : ∀ (w r : Nat), EB.cnt p (b + (w * T + r)) = EB.cnt p b + (w * EB.cnt (fun i => p (b + i)) T + EB.cnt (fun i => p (b + i)) r)
  | 0, r => by rw [cnt_add, Nat.zero_mul, Nat.zero_add, Nat.zero_mul, Nat.zero_add]
  | w + 1, r => by
    have ih := h.cnt w r
    rw [cnt_add] at ih ⊢
    have e : (w + 1) * T + r = T + (w * T + r) := by rw [Nat.add_mul, Nat.one_mul]; omega
    have sh : EB.cnt (fun i => p (b + (↑T + i))) (w * T + r) = EB.cnt (fun i => p (b + i)) (w * T + r) := cnt_congr fun i _ => by
      show p (b + (↑T + (i : Int))) = p (b + i)
      have := h.per (b + i) (by omega)
      rw [show (b : Int) + (↑T + (i : Int)) = b + i + T by omega]
      exact this
    rw [e, cnt_add, sh, Nat.add_mul, Nat.one_mul]
    omega
/-- how the program counts -/
def countF (p : Int → Bool) (b T : Nat) (l : Int) : Int :=
  let early := ((ups p b).filter fun x => decide (x ≤ l)).length
  if l < b then (early : Int) else early + (l - b) / T * (ups (fun i => p (b + i)) T).length + ((ups (fun i => p (b + i)) T).filter fun x => decide (x ≤ (l - b) % T)).length
theorem countF_eq {p : Int → Bool} {b T : Nat} (h : PerT p b T) {l : Int} (l0 : 0 ≤ l) : countF p b T l = cnt p (l + 1).toNat := by
  unfold countF
  dsimp only
  rw [ups_cap, ups_cap, ups_len]
  by_cases c : l < b
  · rw [if_pos c, show min b (l + 1).toNat = (l + 1).toNat by omega]
  · rw [if_neg c, show min b (l + 1).toNat = b by omega]
    have tp : (0 : Int) < T := by have := h.pos; omega
    have m0 := Int.emod_nonneg (l - b) (show (T : Int) ≠ 0 by omega)
    have m1 := Int.emod_lt_of_pos (l - b) tp
    have d0 := Int.ediv_nonneg (show 0 ≤ l - b by omega) (show (0 : Int) ≤ T by omega)
    have e := Int.mul_ediv_add_emod (l - b) T
    obtain ⟨w, hw⟩ := Int.eq_ofNat_of_zero_le d0
    obtain ⟨r, hr⟩ := Int.eq_ofNat_of_zero_le m0
    rw [hw, hr] at e ⊢
    rw [hr] at m1
    have k := h.cnt w (r + 1)
    have key : (l + 1).toNat = b + (w * T + (r + 1)) := by
      have : (T : Int) * w = ((w * T : Nat) : Int) := by rw [Int.natCast_mul, Int.mul_comm]
      omega
    rw [key, k, show min T ((r : Int) + 1).toNat = r + 1 by omega, Int.natCast_add, Int.natCast_add, Int.natCast_mul]
    omega
/-- the k-th number that agrees, up to M -/
structure IsNP (p : Int → Bool) (k n : Int) : Prop where
  pos : 0 ≤ n
  at_ : p n = true
  cnt : (EB.cnt p n.toNat : Int) = k - 1
theorem IsNP.unique {p : Int → Bool} {k n m : Int} (a : IsNP p k n) (b : IsNP p k m) : n = m := by
  have lt : ∀ {n m : Int}, IsNP p k n → IsNP p k m → ¬ n < m := fun {n m} a b l => by
    have z : EB.cnt p (n.toNat + 1) ≤ EB.cnt p m.toNat := cnt_mono p (by have := a.pos; omega)
    have e : EB.cnt p (n.toNat + 1) = EB.cnt p n.toNat + 1 := by
      show EB.cnt p n.toNat + (if p ((n.toNat : Nat) : Int) then 1 else 0) = _
      rw [Int.toNat_of_nonneg a.pos, if_pos a.at_]
    have := a.cnt
    have := b.cnt
    omega
  have := lt a b
  have := lt b a
  omega
theorem np_early {p : Int → Bool} {b : Nat} {k : Int} (k1 : 1 ≤ k) (hk : k ≤ (ups p b).length) : ∃ n : Int, (ups p b)[(k - 1).toNat]? = some n ∧ n < b ∧ IsNP p k n := by
  obtain ⟨n, a, c, d, e⟩ := ups_at p b (k - 1).toNat (by omega)
  exact ⟨n, a, by omega, by omega, d, by rw [Int.toNat_natCast]; omega⟩
theorem np_late {p : Int → Bool} {b T : Nat} (h : PerT p b T) {k : Int} (hk : (ups p b).length < k) (ne : 0 < (ups (fun i => p (b + i)) T).length) :
    ∃ j : Int, (ups (fun i => p (b + i)) T)[((k - (ups p b).length - 1) % (ups (fun i => p (b + i)) T).length).toNat]? = some j ∧ 0 ≤ j ∧ j < T ∧ IsNP p k (b + (k - (ups p b).length - 1) / (ups (fun i => p (b + i)) T).length * T + j) := by
  generalize hP : ups (fun i => p (b + i)) T = Pl at *
  have lp : Pl.length = cnt (fun i => p (b + i)) T := by rw [← hP, ups_len]
  have lpos : (0 : Int) < Pl.length := by omega
  have m0 := Int.emod_nonneg (k - (ups p b).length - 1) (show (Pl.length : Int) ≠ 0 by omega)
  have m1 := Int.emod_lt_of_pos (k - (ups p b).length - 1) lpos
  have d0 := Int.ediv_nonneg (show 0 ≤ k - (ups p b).length - 1 by omega) (show (0 : Int) ≤ Pl.length by omega)
  have e := Int.mul_ediv_add_emod (k - (ups p b).length - 1) Pl.length
  obtain ⟨w, hw⟩ := Int.eq_ofNat_of_zero_le d0
  obtain ⟨r, hr⟩ := Int.eq_ofNat_of_zero_le m0
  rw [hw, hr] at e ⊢
  rw [hr] at m1
  obtain ⟨j, a, c, d, f⟩ := ups_at (fun i => p (b + i)) T r (by rw [hP]; omega)
  rw [hP] at a
  have wT : 0 ≤ (w : Int) * T := Int.mul_nonneg (by omega) (by omega)
  refine ⟨j, by rw [Int.toNat_natCast]; exact a, by omega, by omega, by omega, ?_, ?_⟩
  · have := h.many (n := b + j) (by omega) w
    rw [show (b : Int) + w * T + j = b + j + w * T by omega, this]
    exact d
  · have key : ((b : Int) + w * T + j).toNat = b + (w * T + j) := by
      have : (w : Int) * T = ((w * T : Nat) : Int) := by rw [Int.natCast_mul]
      omega
    have g := h.cnt w j
    rw [key, g, f, ← lp, ← ups_len p b]
    have : ((w * Pl.length : Nat) : Int) = Pl.length * w := by rw [Int.natCast_mul, Int.mul_comm]
    omega
/-- too many are asked for -/
theorem np_none {p : Int → Bool} {b T : Nat} (h : PerT p b T) {k : Int} (hk : (ups p b).length < k) (ne : (ups (fun i => p (b + i)) T).length = 0) (m : Nat) : (cnt p m : Int) < k := by
  rw [ups_len] at ne hk
  have le : cnt p m ≤ cnt p (b + (m * T + 0)) := cnt_mono p (by
    have := h.pos
    have : m * 1 ≤ m * T := Nat.mul_le_mul_left m this
    omega)
  rw [h.cnt m 0, ne, Nat.mul_zero] at le
  have z : cnt (fun i => p (b + i)) 0 = 0 := rfl
  omega
theorem np_over {p : Int → Bool} {k n : Int} (h : IsNP p k n) {M : Int} (lt : M < n) : (cnt p (M + 1).toNat : Int) < k := by
  have := cnt_mono p (show (M + 1).toNat ≤ n.toNat by omega)
  have := h.cnt
  omega
end EB
namespace EB
open PySem PySem.Spec L2 StX ClX
set_option maxHeartbeats 1000000
/-! ## observations -/
inductive Ob where
  | left (z : Str) (c : Int)
  | round (m q : Int)
noncomputable def agr (ts : List Tr) (o : Ob) (n : Int) : Bool := match o with
  | .left z c => (match ts.find? fun t => decide (t.1 = z) with
    | some t => decide (t.2.1 * drk ts n % t.2.2 = c)
    | none => false)
  | .round m q => decide ((if m = 1 then n else bo ts n) % 2 = q)
noncomputable def agrs (ts : List Tr) (N : List Ob) (n : Int) : Bool := N.all fun o => agr ts o n
theorem agrs_snoc {ts : List Tr} {N : List Ob} {o : Ob} {n : Int} : agrs ts (N ++ [o]) n = (agrs ts N n && agr ts o n) := by
  unfold agrs
  rw [List.all_append]
  simp
def turnI (ts : List Tr) : Int := lcmI (nd ts) (2 * ndm ts)
def turnT (ts : List Tr) : Nat := (turnI ts).toNat
theorem turn_pos {ts : List Tr} (f : Fair ts) : 0 < turnI ts := lcmI_pos (nd_pos f) (by have := ndm_pos f.1.2; omega)
theorem turn_cast {ts : List Tr} (f : Fair ts) : (turnT ts : Int) = turnI ts := by
  have := turn_pos f
  unfold turnT
  omega
theorem turn_le {ts : List Tr} (f : Fair ts) : turnI ts ≤ 6000000 := by
  have a := nd_small f
  have b := ndm_small f.1
  have := lcmI_small (nd_pos f) (show 0 < 2 * ndm ts by have := ndm_pos f.1.2; omega) a (show 2 * ndm ts ≤ 3456 by omega)
  exact Int.le_trans this (by decide)
theorem agr_per {ts : List Tr} (f : Fair ts) {b : Nat} (s : Std ts b) (o : Ob) (n : Int) (hn : b ≤ n) : agr ts o (n + turnT ts) = agr ts o n := by
  rw [turn_cast f]
  have g := f.1.2
  have np := nd_pos f
  have mp := ndm_pos g
  cases o with
  | left z c =>
    unfold agr
    dsimp only
    cases h : ts.find? fun t => decide (t.1 = z) with
    | none => rfl
    | some t =>
      dsimp only
      have ht := List.mem_of_find?_eq_some h
      obtain ⟨k, hk⟩ := lcmI_dl np (show 0 < 2 * ndm ts by omega)
      have k0 : 0 ≤ k := by
        refine Int.le_of_lt (Int.lt_of_mul_lt_mul_left (a := nd ts) ?_ (by omega))
        have := turn_pos f
        unfold turnI at this
        omega
      obtain ⟨kn, rfl⟩ := Int.eq_ofNat_of_zero_le k0
      have e : n + turnI ts = n + kn * nd ts := by
        unfold turnI
        rw [hk, Int.mul_comm]
      rw [e, std_many f (by omega) (s.mono hn) kn]
      obtain ⟨c', hc⟩ := perd_fit g t ht
      have e2 : t.2.1 * (drk ts n + kn * perd ts) = t.2.1 * drk ts n + kn * c' * t.2.2 := by
        rw [Int.mul_add, ← Int.mul_assoc, Int.mul_comm t.2.1 (kn : Int), Int.mul_assoc, hc, ← Int.mul_assoc, Int.mul_right_comm, Int.mul_comm (kn : Int)]
      rw [e2, Int.add_mul_emod_self_right]
  | round m q =>
    unfold agr
    dsimp only
    obtain ⟨k, hk⟩ := lcmI_dr np (show 0 < 2 * ndm ts by omega)
    have e : turnI ts = 2 * (ndm ts * k) := by
      unfold turnI
      rw [hk, Int.mul_assoc]
    by_cases h1 : m = 1
    · rw [if_pos h1, if_pos h1, e, Int.add_mul_emod_self_left]
    · rw [if_neg h1, if_neg h1]
      have dv : ∀ t ∈ ts, t.2.2 ∣ t.2.1 * (ndm ts * k) := fun t ht => Int.dvd_trans (Int.dvd_trans (ndm_dvd g t ht) (Int.dvd_mul_right ..)) (Int.dvd_mul_left ..)
      rw [e, show n + 2 * (ndm ts * k) = (n + ndm ts * k) + ndm ts * k by omega, bo_shift g dv, bo_shift g dv, Int.add_assoc, ← Int.two_mul, Int.add_mul_emod_self_left]
theorem agrs_per {ts : List Tr} (f : Fair ts) {b : Nat} (s : Std ts b) (N : List Ob) : PerT (agrs ts N) b (turnT ts) := by
  refine ⟨by have := turn_pos f; unfold turnT; omega, fun n hn => ?_⟩
  unfold agrs
  induction N with
  | nil => rfl
  | cons o N ih => rw [List.all_cons, List.all_cons, ih, agr_per f s o n hn]
/-! ## what stands in the heap -/
def ObV : Ob → List V
  | .left z c => [.str "left", .str z, .int c]
  | .round m q => [.str "round", .int m, .int q]
def ObAt (H : Hp) (v : V) (o : Ob) : Prop := ∃ r, v = .ref r ∧ H r = some (.tup (ObV o))
def ObsL (H : Hp) (l : Addr) (N : List Ob) : Prop := ∃ xs, H l = some (.lst xs) ∧ Paired (ObAt H) xs N
theorem obsBy {H H' : Hp} (k : ∀ a xs, H a = some (.tup xs) → H' a = some (.tup xs)) : ∀ {xs : List V} {N : List Ob}, Paired (ObAt H) xs N → Paired (ObAt H') xs N
  | _, _, .nil => .nil
  | _, _, .cons ⟨r, e, hr⟩ t => .cons ⟨r, e, k _ _ hr⟩ (obsBy k t)
/-- an observer at o: Z are lists that it does not hold -/
def WatchAt (K : PySem.W.Frag) (H : Hp) (o : Addr) (ts : List Tr) (b : Nat) (N : List Ob) (Z : Addr → Prop) : Prop := ∃ dx oo e p n, H o = some (.ins (He.ga K "BottleObserver") dx [("offer", .ref oo), ("begin", .int b), ("turn", .int (turnT ts)), ("early", .ref e), ("places", .ref p), ("noted", .ref n)]) ∧
  OfferAt K H oo ts ∧ H e = some (.lst ((ups (agrs ts N) b).map V.int)) ∧ H p = some (.lst ((ups (fun i => agrs ts N (b + i)) (turnT ts)).map V.int)) ∧ ObsL H n N ∧ ¬ Z e ∧ ¬ Z p ∧ ¬ Z n
section
variable {K : PySem.W.Frag} {H H' : Hp} {o : Addr} {ts : List Tr} {b : Nat} {N : List Ob} {Z Z' : Addr → Prop}
theorem WatchAt.by (w : WatchAt K H o ts b N Z) (n : NL H H') (l : ∀ a xs, ¬ Z a → H a = some (.lst xs) → H' a = some (.lst xs)) : WatchAt K H' o ts b N Z := by
  obtain ⟨dx, oo, e, p, m, h1, h2, h3, h4, ⟨xs, h5, h6⟩, z1, z2, z3⟩ := w
  exact ⟨dx, oo, e, p, m, n.ins h1, h2.upN n, l _ _ z1 h3, l _ _ z2 h4, ⟨xs, l _ _ z3 h5, obsBy (fun a xs h => n.tup h) h6⟩, z1, z2, z3⟩
theorem WatchAt.up (w : WatchAt K H o ts b N Z) (e : Ex H H') : WatchAt K H' o ts b N Z := w.by (NL.ofEx e) fun a xs _ h => e _ _ h
theorem WatchAt.upX (w : WatchAt K H o ts b N Z) (e : LamX.ExtN H H') : WatchAt K H' o ts b N Z := w.by (NL.ofN e) fun a xs _ h => e _ _ h fun _ z => nomatch z
theorem WatchAt.upB (w : WatchAt K H o ts b N Z) {l : Addr} {zs : List V} (hl : H l = some (.lst zs)) (hz : Z l) (e : ExB l H H') : WatchAt K H' o ts b N Z := w.by (NL.ofB hl e) fun a xs nz h => e _ _ (fun q => nz (q ▸ hz)) h
theorem WatchAt.upS (w : WatchAt K H o ts b N Z) {h c : Addr} (s : Src H h c) (hz : Z h) (cz : Z c) (u : SrcUp h c H H') : WatchAt K H' o ts b N Z := w.by (NL.ofS s u) fun a xs nz q => u.keep a _ (fun z => nz (z ▸ hz)) (fun z => nz (z ▸ cz)) q
theorem WatchAt.less (w : WatchAt K H o ts b N Z) (h : ∀ a, Z' a → Z a ∨ H a = none) : WatchAt K H o ts b N Z' := by
  obtain ⟨dx, oo, e, p, m, h1, h2, h3, h4, ⟨xs, h5, h6⟩, z1, z2, z3⟩ := w
  have k : ∀ a u, H a = some u → ¬ Z a → ¬ Z' a := fun a u ha nz z => by
    rcases h a z with q | q
    · exact nz q
    · rw [ha] at q
      cases q
  exact ⟨dx, oo, e, p, m, h1, h2, h3, h4, ⟨xs, h5, h6⟩, k _ _ h3 z1, k _ _ h4 z2, k _ _ h5 z3⟩
end
/-! ## the promises -/
abbrev M18 : Int := 1000000000000000000
noncomputable def cntN (ts : List Tr) (N : List Ob) (l : Int) : Int := cnt (agrs ts N) (l + 1).toNat
def sp_BottleObserver_init (K : PySem.W.Frag) : Sp := fun vs H Q _ => ∃ x dx oo ts, vs = [.ref x, .ref oo] ∧ H x = some (.ins (He.ga K "BottleObserver") dx []) ∧ OfferAt K H oo ts ∧ OfferOk ts ∧
  ∀ H' (b : Nat), IsStd ts b → ExB x H H' → WatchAt K H' x ts b [] (fun a => ∃ u, H a = some u) → Q .non H'
theorem len_BottleObserver_init {K} : ∀ vs H Q E, sp_BottleObserver_init K vs H Q E → vs.length = 2 := by rintro _ _ _ _ ⟨_, _, _, _, rfl, _⟩; rfl
def sp_BottleObserver_records (K : PySem.W.Frag) : Sp := fun vs H Q _ => ∃ o ts b N Z, vs = [.ref o] ∧ WatchAt K H o ts b N Z ∧ ∀ p H', H p = none → Ex H H' → ObsL H' p N → Q (.ref p) H'
theorem len_BottleObserver_records {K} : ∀ vs H Q E, sp_BottleObserver_records K vs H Q E → vs.length = 1 := by rintro _ _ _ _ ⟨_, _, _, _, _, rfl, _⟩; rfl
/-- counted in two lists, the observer's numbers begin and turn -/
abbrev obsFs (oo e0 p0 n0 : Addr) (b T : Nat) : List (Str × V) := [("offer", .ref oo), ("begin", .int b), ("turn", .int T), ("early", .ref e0), ("places", .ref p0), ("noted", .ref n0)]
def sp_BottleObserver_count_in (K : PySem.W.Frag) : Sp := fun vs H Q _ => ∃ (o dx e p oo e0 p0 n0 : Addr) (b T : Nat) (q : Int → Bool) (l : Int), vs = [.ref o, .ref e, .ref p, .int l] ∧ H o = some (.ins (He.ga K "BottleObserver") dx (obsFs oo e0 p0 n0 b T)) ∧
  b ≤ 10 ∧ T ≤ 6000000 ∧ PerT q b T ∧ H e = some (.lst ((ups q b).map V.int)) ∧ H p = some (.lst ((ups (fun i => q (b + i)) T).map V.int)) ∧ 0 ≤ l ∧ l ≤ M18 ∧ ∀ H', Ex H H' → Q (.int (cnt q (l + 1).toNat)) H'
theorem len_BottleObserver_count_in {K} : ∀ vs H Q E, sp_BottleObserver_count_in K vs H Q E → vs.length = 4 := by rintro _ _ _ _ ⟨_, _, _, _, _, _, _, _, _, _, _, _, rfl, _⟩; rfl
def sp_BottleObserver_count_up_to (K : PySem.W.Frag) : Sp := fun vs H Q _ => ∃ o ts b N Z l, vs = [.ref o, .int l] ∧ WatchAt K H o ts b N Z ∧ OfferOk ts ∧ IsStd ts b ∧ 0 ≤ l ∧ l ≤ M18 ∧ ∀ H', Ex H H' → Q (.int (cntN ts N l)) H'
theorem len_BottleObserver_count_up_to {K} : ∀ vs H Q E, sp_BottleObserver_count_up_to K vs H Q E → vs.length = 2 := by rintro _ _ _ _ ⟨_, _, _, _, _, _, rfl, _⟩; rfl
theorem ap_BottleObserver_count_up_to {K : PySem.W.Frag} {H : Hp} {Q : VK} {E : XK} {o : Addr} {ts : List Tr} {b : Nat} {N : List Ob} {Z : Addr → Prop} {l : Int} (w : WatchAt K H o ts b N Z) (ok : OfferOk ts) (s : IsStd ts b) (l0 : 0 ≤ l) (l1 : l ≤ M18) (k : ∀ H', Ex H H' → Q (.int (cntN ts N l)) H') : sp_BottleObserver_count_up_to K [.ref o, .int l] H Q E :=
  ⟨o, ts, b, N, Z, l, rfl, w, ok, s, l0, l1, k⟩
/-- what nth_possible returns -/
def NpV (p : Int → Bool) (k : Int) (v : V) : Prop := (∃ n, v = .int n ∧ IsNP p k n ∧ n ≤ M18) ∨ (v = .non ∧ (cnt p (M18 + 1).toNat : Int) < k)
def sp_BottleObserver_nth_possible (K : PySem.W.Frag) : Sp := fun vs H Q _ => ∃ o ts b N Z k, vs = [.ref o, .int k] ∧ WatchAt K H o ts b N Z ∧ OfferOk ts ∧ IsStd ts b ∧ 1 ≤ k ∧ k ≤ M18 + 1 ∧ ∀ v H', Ex H H' → NpV (agrs ts N) k v → Q v H'
theorem len_BottleObserver_nth_possible {K} : ∀ vs H Q E, sp_BottleObserver_nth_possible K vs H Q E → vs.length = 2 := by rintro _ _ _ _ ⟨_, _, _, _, _, _, rfl, _⟩; rfl
def sp_BottleObserver_round_size (K : PySem.W.Frag) : Sp := fun vs H Q _ => ∃ (o dx oo e0 p0 n0 : Addr) (b T : Nat) (ts : List Tr) (m n : Int), vs = [.ref o, .int m, .int n] ∧ H o = some (.ins (He.ga K "BottleObserver") dx (obsFs oo e0 p0 n0 b T)) ∧ OfferAt K H oo ts ∧ OfferOk ts ∧ 0 ≤ n ∧ n ≤ 6000010 ∧ ∀ H', Ex H H' → Q (.int (if m = 1 then n else bo ts n)) H'
theorem len_BottleObserver_round_size {K} : ∀ vs H Q E, sp_BottleObserver_round_size K vs H Q E → vs.length = 3 := by rintro _ _ _ _ ⟨_, _, _, _, _, _, _, _, _, _, _, rfl, _⟩; rfl
def conE (K : PySem.W.Frag) (H : Hp) (E : XK) : Prop := ∀ H', Ex H H' → E (.ref (He.ga K "Contradiction")) none H'
/-- what an accepted observation leaves -/
def Noted (K : PySem.W.Frag) (Q : VK) (E : XK) (H : Hp) (o : Addr) (ts : List Tr) (b : Nat) (N : List Ob) (Z : Addr → Prop) : Prop := (cntN ts N M18 = 0 → conE K H E) ∧
  (cntN ts N M18 ≠ 0 → ∀ H', ExB o H H' → WatchAt K H' o ts b N (fun a => Z a ∧ ∃ u, H a = some u) → Q (.int (cntN ts N M18)) H')
theorem Noted.up {K : PySem.W.Frag} {Q : VK} {E : XK} {H H' : Hp} {o : Addr} {ts : List Tr} {b : Nat} {N : List Ob} {Z : Addr → Prop} (h : Noted K Q E H o ts b N Z) (e : Ex H H') : Noted K Q E H' o ts b N Z :=
  ⟨fun c H2 e2 => h.1 c H2 (Evl.Ex.trans e e2), fun c H2 e2 w => h.2 c H2 ((ExB.of e).trans e2) (w.less fun a ⟨z, u, hu⟩ => .inl ⟨z, u, e _ _ hu⟩)⟩
theorem ExB.none {l p : Addr} {H H' : Hp} (e : ExB l H H') {o : HO} (hl : H' l = some o) (n : H' p = none) : ¬ ∃ u, H p = some u := fun ⟨u, hu⟩ => by
  have ne : p ≠ l := fun z => by
    rw [z, hl] at n
    cases n
  rw [e _ _ ne hu] at n
  cases n
def spx_BottleObserver_note (K : PySem.W.Frag) : Sp := fun vs H Q E => ∃ (o r e p : Addr) (ts : List Tr) (b : Nat) (N : List Ob) (x : Ob) (Z : Addr → Prop), vs = [.ref o, .ref r, .ref e, .ref p] ∧ WatchAt K H o ts b N Z ∧ OfferOk ts ∧ IsStd ts b ∧ N.length ≤ 100 ∧ H r = some (.tup (ObV x)) ∧ ¬ Z e ∧ ¬ Z p ∧
  H e = some (.lst ((ups (agrs ts (N ++ [x])) b).map V.int)) ∧ H p = some (.lst ((ups (fun i => agrs ts (N ++ [x]) (b + i)) (turnT ts)).map V.int)) ∧ Noted K Q E H o ts b (N ++ [x]) Z
theorem lenx_BottleObserver_note {K} : ∀ vs H Q E, spx_BottleObserver_note K vs H Q E → vs.length = 4 := by rintro _ _ _ _ ⟨_, _, _, _, _, _, _, _, _, rfl, _⟩; rfl
def spx_BottleObserver_see_left (K : PySem.W.Frag) : Sp := fun vs H Q E => ∃ o ts b N z c Z, vs = [.ref o, .str z, .int c] ∧ WatchAt K H o ts b N Z ∧ OfferOk ts ∧ IsStd ts b ∧ N.length ≤ 100 ∧ (z ∉ ts.map (·.1) → unkE K H E) ∧ (z ∈ ts.map (·.1) → Noted K Q E H o ts b (N ++ [.left z c]) Z)
theorem lenx_BottleObserver_see_left {K} : ∀ vs H Q E, spx_BottleObserver_see_left K vs H Q E → vs.length = 3 := by rintro _ _ _ _ ⟨_, _, _, _, _, _, _, rfl, _⟩; rfl
def numE (K : PySem.W.Frag) (H : Hp) (E : XK) : Prop := ∀ H', Ex H H' → E (.ref (He.ga K "InvalidNumber")) none H'
def spx_BottleObserver_see_round (K : PySem.W.Frag) : Sp := fun vs H Q E => ∃ o ts b N m q Z, vs = [.ref o, .int m, .int q] ∧ WatchAt K H o ts b N Z ∧ OfferOk ts ∧ IsStd ts b ∧ N.length ≤ 100 ∧ (¬ ((1 ≤ m ∧ m ≤ 2) ∧ 0 ≤ q ∧ q ≤ 1) → numE K H E) ∧ ((1 ≤ m ∧ m ≤ 2) ∧ 0 ≤ q ∧ q ≤ 1 → Noted K Q E H o ts b (N ++ [.round m q]) Z)
theorem lenx_BottleObserver_see_round {K} : ∀ vs H Q E, spx_BottleObserver_see_round K vs H Q E → vs.length = 3 := by rintro _ _ _ _ ⟨_, _, _, _, _, _, _, rfl, _⟩; rfl
def spx_validate_number (K : PySem.W.Frag) : Sp := fun vs H Q E => ∃ n lo hi : Int, vs = [.int n, .int lo, .int hi] ∧ (¬ (lo ≤ n ∧ n ≤ hi) → numE K H E) ∧ (lo ≤ n ∧ n ≤ hi → ∀ H', Ex H H' → Q .non H')
theorem lenx_validate_number {K} : ∀ vs H Q E, spx_validate_number K vs H Q E → vs.length = 3 := by rintro _ _ _ _ ⟨_, _, _, rfl, _⟩; rfl
/-- observations that the law makes -/
def OkN (ts : List Tr) (N : List Ob) : Prop := ∀ o ∈ N, match o with
  | .left z _ => z ∈ ts.map (·.1)
  | .round m _ => m = 1 ∨ m = 2
def sp__law_agrees (K : PySem.W.Frag) : Sp := fun vs H Q _ => ∃ (o l : Addr) (ts : List Tr) (n : Int) (N : List Ob), vs = [.ref o, .int n, .ref l] ∧ OfferAt K H o ts ∧ OfferOk ts ∧ ObsL H l N ∧ OkN ts N ∧ N.length ≤ 100 ∧ 0 ≤ n ∧ n ≤ M18 ∧ ∀ H', Ex H H' → Q (.bl (agrs ts N n)) H'
theorem len__law_agrees {K} : ∀ vs H Q E, sp__law_agrees K vs H Q E → vs.length = 3 := by rintro _ _ _ _ ⟨_, _, _, _, _, rfl, _⟩; rfl
def sp__law_first_right (K : PySem.W.Frag) : Sp := fun vs H Q _ => ∃ (o w l : Addr) (ts : List Tr) (b : Nat) (N : List Ob) (Z : Addr → Prop), vs = [.ref o, .ref w, .ref l] ∧ OfferAt K H o ts ∧ OfferOk ts ∧ IsStd ts b ∧ WatchAt K H w ts b N Z ∧ ObsL H l N ∧ OkN ts N ∧ N.length ≤ 100 ∧ ∀ H', Ex H H' → Q (.bl true) H'
theorem len__law_first_right {K} : ∀ vs H Q E, sp__law_first_right K vs H Q E → vs.length = 3 := by rintro _ _ _ _ ⟨_, _, _, _, _, _, _, rfl, _⟩; rfl
theorem OfferAt.upI {K : PySem.W.Frag} {H H' : Hp} {x o C dx : Addr} {fs : List (Str × V)} {ts : List Tr} (h : OfferAt K H o ts) (hx : H x = some (.ins C dx fs)) (nf : ∀ a : Addr, fs ≠ [(("parts" : Str), V.ref a)]) (e : ExB x H H') : OfferAt K H' o ts := by
  obtain ⟨dy, a, h1, h2⟩ := h
  exact ⟨dy, a, e _ _ (ne_of h1 hx fun z => by cases z; exact nf _ rfl) h1, h2.upB hx (fun _ z => nomatch z) e⟩
end EB
namespace EB
open PySem PySem.Spec L2 StX ClX
set_option maxHeartbeats 1000000
section
variable {K : PySem.W.Frag} {H : Hp} {Q : VK} {σ : L2.St} {g : TG} {tt : TT} {te : TE} {vs : List Nat} {a : Addr}
theorem ups_filter (p c : Int → Bool) (m : Nat) : (ups p m).filter c = ups (fun i => p i && c i) m := by
  unfold ups
  rw [List.filter_map, List.filter_filter]
  congr 1
  refine List.filter_congr fun i _ => ?_
  show (c (i : Int) && p (i : Int)) = (p i && c i)
  rw [Bool.and_comm]
theorem ups_congr {p q : Int → Bool} {m : Nat} (h : ∀ i : Nat, i < m → p i = q i) : ups p m = ups q m := by
  unfold ups
  congr 1
  exact List.filter_congr fun i hi => h i (List.mem_range.mp hi)
theorem ups_all (m : Nat) : (ups (fun _ => true) m).map V.int = (List.range m).map fun i : Nat => V.int i := by
  unfold ups
  rw [List.filter_eq_self.mpr (fun _ _ => rfl), List.map_map]
  rfl
/-- list(range(n)) -/
theorem w_lstRg {n : Nat} {ta : TE} (hn : n ≤ 6000010) (ht : ∀ R : VK, R (.int (n : Int)) H → ta σ H R) (q : ∀ p H2, H p = none → Ex H H2 → H2 p = some (.lst ((ups (fun _ => true) n).map V.int)) → Q (.ref p) H2) : tLstRg (tRg1 ta) σ H Q := by
  refine ht _ ⟨n, rfl, RgOk.of_le (by decide) (by omega) (by decide) (by omega), fun p hp => q p _ hp (Evl.Ex.new hp) ?_⟩
  rw [upd_same, ups_all]
  unfold rgV
  have e : ((n : Int) - 0).toNat = n := by omega
  rw [e]
  congr 2
  refine List.map_congr_left fun i _ => ?_
  rw [Int.zero_add]
/-- [x for x in l if test], l of numbers -/
theorem w_lcLfI {ns : List Int} (c : Int → Bool) (hx : SqL K H a (ns.map V.int)) (hz : ns.length ≤ 6000010)
    (hb : ∀ n ∈ ns, ∀ H1, Ex H H1 → ∀ (R : VK) (N : Hp → Prop), (c n = true → ∀ H2, Ex H1 H2 → R (.int n) H2) → (c n = false → ∀ H2, Ex H1 H2 → N H2) → g (.int n) (wipe σ vs) H1 fun σ2 H2 => wipe σ2 vs = wipe σ vs ∧ tt σ2 H2 fun b H3 => if b = true then te σ2 H3 R else N H3)
    (q : ∀ p H2, H p = none → Ex H H2 → H2 p = some (.lst ((ns.filter c).map V.int)) → Q (.ref p) H2) : lcTL K g tt te vs σ Q (.ref a) H := by
  refine ⟨a, rfl, ⟨_, hx⟩, fun D hD => ?_⟩
  refine lc_list (K := K) (a := a) (xs := ns.map V.int) (fun i H' => Ex H H' ∧ H' D = some (.lst (((ns.take i).filter c).map V.int))) ⟨Evl.Ex.new hD, by simpa using upd_same⟩ (fun i H' _ ⟨e, _⟩ => ex_sqL e hx) ?_ ?_
  · rintro i x H' hi ⟨e, hd⟩
    rw [List.getElem?_map] at hi
    cases hn : ns[i]? with
    | none => rw [hn] at hi; cases hi
    | some n =>
      rw [hn] at hi
      obtain rfl := (Option.some.inj hi).symm
      have lt := (List.getElem?_eq_some_iff.mp hn).1
      refine hb n (List.mem_of_getElem? hn) H' e _ _ (fun ct H2 e2 => ?_) (fun cf H2 e2 => ?_)
      · refine ⟨_, e2 D _ hd, ?_, ExB.ex (Evl.Ex.trans e e2) hD ExB.upd, ?_⟩
        · rw [List.length_map]
          refine Nat.lt_of_le_of_lt (List.length_filter_le _ _) ?_
          rw [List.length_take]
          exact Nat.lt_of_le_of_lt (show min i ns.length ≤ 6000010 by omega) (by decide)
        · rw [upd_same, List.take_succ, hn, List.filter_append, List.map_append]
          simp [ct]
      · refine ⟨Evl.Ex.trans e e2, ?_⟩
        rw [e2 D _ hd, List.take_succ, hn, List.filter_append, List.map_append]
        simp [cf]
  · rintro H' ⟨e, hd⟩
    rw [List.length_map, List.take_length] at hd
    exact q D H' hD e hd
theorem ups_small {p : Int → Bool} {m : Nat} (h : m ≤ 6000000) : (ups p m).length ≤ 6000010 := by
  rw [ups_len]
  exact Nat.le_trans (cnt_le p m) (by omega)
end
/-- the class BottleObserver as the walk asks it -/
structure OfO (K : PySem.W.Frag) : Prop where
  o : OfK K
  c : Cls K (He.ga K "BottleObserver")
  f1 : NoAttr K (He.ga K "BottleObserver") "offer"
  f2 : NoAttr K (He.ga K "BottleObserver") "begin"
  f3 : NoAttr K (He.ga K "BottleObserver") "turn"
  f4 : NoAttr K (He.ga K "BottleObserver") "early"
  f5 : NoAttr K (He.ga K "BottleObserver") "places"
  f6 : NoAttr K (He.ga K "BottleObserver") "noted"
theorem Noted.upZ {K : PySem.W.Frag} {Q : VK} {E : XK} {H H' : Hp} {o : Addr} {ts : List Tr} {b : Nat} {N : List Ob} {Z : Addr → Prop} (h : Noted K Q E H o ts b N Z) (e : Ex H H') : Noted K Q E H' o ts b N (fun a => Z a ∧ ∃ u, H a = some u) :=
  ⟨fun c H2 e2 => h.1 c H2 (Evl.Ex.trans e e2), fun c H2 e2 w => h.2 c H2 ((ExB.of e).trans e2) (w.less fun a ⟨z, u, hu⟩ => .inl ⟨⟨z, u, hu⟩, u, e _ _ hu⟩)⟩
theorem find_kind : ∀ {ts : List Tr} {t : Tr}, (ts.map (·.1)).Nodup → t ∈ ts → (ts.find? fun u => decide (u.1 = t.1)) = some t
  | [], _, _, h => nomatch h
  | u :: ts, t, nd, h => by
    rw [List.map_cons, List.nodup_cons] at nd
    rw [List.find?_cons]
    rcases List.mem_cons.mp h with rfl | h
    · rw [decide_eq_true rfl]
    · have ne : ¬ u.1 = t.1 := fun z => nd.1 (z ▸ List.mem_map_of_mem h)
      rw [decide_eq_false ne]
      exact find_kind nd.2 h
theorem agr_left {ts : List Tr} {t : Tr} (nd : (ts.map (·.1)).Nodup) (h : t ∈ ts) (c n : Int) : agr ts (.left t.1 c) n = decide (t.2.1 * drk ts n % t.2.2 = c) := by
  unfold agr
  dsimp only
  rw [find_kind nd h]
theorem ups_more {ts : List Tr} {N : List Ob} {o : Ob} {b m : Nat} : (ups (fun i => agrs ts N (b + i)) m).filter (fun i => agr ts o (b + i)) = ups (fun i => agrs ts (N ++ [o]) (b + i)) m := by
  rw [ups_filter]
  exact ups_congr fun i _ => agrs_snoc.symm
theorem ups_more0 {ts : List Tr} {N : List Ob} {o : Ob} {m : Nat} : (ups (agrs ts N) m).filter (agr ts o) = ups (agrs ts (N ++ [o])) m := by
  rw [ups_filter]
  exact ups_congr fun i _ => agrs_snoc.symm
theorem turnT_le {ts : List Tr} (f : Fair ts) : turnT ts ≤ 6000000 := by
  have := turn_le f
  have := turn_cast f
  omega
variable {K : PySem.W.Frag} {H : Hp} {Q : VK}
theorem w_ixLn {l : Addr} {ns : List Int} {i m : Int} (h : SqL K H l (ns.map V.int)) (i0 : 0 ≤ i) (hi : ns[i.toNat]? = some m) (q : Q (.int m) H) : rIxL K (.ref l) (.int i) H Q := by
  refine w_ixL h (atI_pos i0 ?_) q
  rw [List.getElem?_map, hi]
  rfl
theorem shapedN (ys : List Int) : SeqAt.shaped (.list (ys.map PyData.int)) = true := by
  have := okD_can.all 1 (ys.map PyData.int) (okD_can 1) (List.all_eq_true.mpr fun x hx => by
    obtain ⟨i, _, rfl⟩ := List.mem_map.mp hx
    rfl) (noDics_ints ys)
  unfold SeqAt.shaped
  exact Bool.and_eq_true_iff.mpr ⟨this.1, decide_eq_true (by show PyData.depthAll _ + 1 ≤ 64; omega)⟩
theorem w_eqIntsN {a b : Addr} (ys zs : List Int) (h1 : H a = some (.lst (ys.map V.int))) (h2 : H b = some (.lst (zs.map V.int))) (q : Q (.bl (decide (ys = zs))) H) : rEqD K (.ref a) (.ref b) H Q := by
  refine w_eqD (d := .list (ys.map PyData.int)) (e := .list (zs.map PyData.int)) (Dq.dp _ _ (noDics_ints ys) (.lst h1 dqI)) (Dq.dp _ _ (noDics_ints zs) (.lst h2 dqI)) (shapedN ys) (shapedN zs) ?_
  show Q (.bl (PyData.eqvAll _ _)) H
  rw [eqv_ints]
  exact q
end EB
namespace EB
open PySem PySem.Spec L2 StX ClX
set_option maxHeartbeats 1000000
/-! ## the table of the steps -/
/-- the numbers of pieces by kinds -/
def pcD (ts : List Tr) (pc : List Int) : List (Str × Int) := (ts.map (·.1)).zip pc
theorem pcD_keys : ∀ {ts : List Tr} {pc : List Int}, pc.length = ts.length → (pcD ts pc).map (·.1) = ts.map (·.1)
  | [], [], _ => rfl
  | t :: ts, p :: pc, h => by
    have ih := pcD_keys (ts := ts) (pc := pc) (by simpa using h)
    unfold pcD at ih ⊢
    rw [List.map_cons, List.zip_cons_cons, List.map_cons, ih]
  | [], _ :: _, h => by simp at h
  | _ :: _, [], h => by simp at h
theorem pcD_len {ts : List Tr} {pc : List Int} (h : pc.length = ts.length) : (pcD ts pc).length = ts.length := by
  unfold pcD
  rw [List.length_zip, List.length_map, h, Nat.min_self]
theorem pcD_at : ∀ {ts : List Tr} {pc : List Int} {i : Nat} {t : Tr} {p : Int}, ts[i]? = some t → pc[i]? = some p → (t.1, p) ∈ pcD ts pc
  | t :: ts, q :: pc, 0, t', p, h1, h2 => by
    simp at h1 h2
    subst h1 h2
    unfold pcD
    rw [List.map_cons, List.zip_cons_cons]
    exact List.mem_cons_self
  | t :: ts, q :: pc, i + 1, t', p, h1, h2 => by
    have ih := pcD_at (ts := ts) (pc := pc) (i := i) (t := t') (p := p) (by simpa using h1) (by simpa using h2)
    unfold pcD at ih ⊢
    rw [List.map_cons, List.zip_cons_cons]
    exact List.mem_cons_of_mem _ ih
  | [], _, _, _, _, h, _ => by simp at h
  | _ :: _, [], _, _, _, _, h => by simp at h
theorem val_pc {ts : List Tr} {pc : List Int} (l : pc.length = ts.length) (nd : (ts.map (·.1)).Nodup) {i : Nat} {t : Tr} {p : Int} (h1 : ts[i]? = some t) (h2 : pc[i]? = some p) : valV (dKv (pcD ts pc)) (.inr t.1) = some (.int p) :=
  valV_mem (by rw [pcD_keys l]; exact nd) _ (pcD_at h1 h2)
theorem val_no {z : Str} : ∀ {kvs : List (Str × Int)}, z ∉ kvs.map (·.1) → valV (dKv kvs) (.inr z) = none
  | [], _ => rfl
  | q :: kvs, h => by
    have ne : ¬ q.1 = z := fun e => h (e ▸ List.mem_cons_self)
    have ih := val_no (kvs := kvs) fun w => h (List.mem_cons_of_mem _ w)
    unfold dKv valV at ih ⊢
    rw [List.map_cons, List.find?_cons]
    have e : decide ((Sum.inr q.1 : Key) = .inr z) = false := decide_eq_false fun w => ne (Sum.inr.inj w)
    simp only [e]
    exact ih
theorem map_put : ∀ {ts : List Tr} {pc : List Int} {i : Nat} {t : Tr} {v : Int}, pc.length = ts.length → (ts.map (·.1)).Nodup → ts[i]? = some t → (dKv (pcD ts pc)).map (fun kv => if kv.1 = (.inr t.1 : Key) then (kv.1, V.int v) else kv) = dKv (pcD ts (pc.set i v))
  | u :: ts, q :: pc, 0, t, v, l, nd, h => by
    simp at h
    subst h
    rw [List.map_cons, List.nodup_cons] at nd
    have rest : (dKv (pcD ts pc)).map (fun kv => if kv.1 = (.inr u.1 : Key) then (kv.1, V.int v) else kv) = dKv (pcD ts pc) := by
      conv => rhs; rw [← List.map_id (dKv (pcD ts pc))]
      refine List.map_congr_left fun kv hkv => if_neg fun e => nd.1 ?_
      unfold dKv at hkv
      obtain ⟨p, hp, rfl⟩ := List.mem_map.mp hkv
      have : p.1 = u.1 := Sum.inr.inj e
      have m : p.1 ∈ (pcD ts pc).map (·.1) := List.mem_map_of_mem hp
      rw [pcD_keys (by simpa using l)] at m
      rwa [this] at m
    show ((.inr u.1, V.int q) :: dKv (pcD ts pc)).map _ = (.inr u.1, V.int v) :: dKv (pcD ts pc)
    rw [List.map_cons, rest, if_pos rfl]
  | u :: ts, q :: pc, i + 1, t, v, l, nd, h => by
    rw [List.map_cons, List.nodup_cons] at nd
    have h' : ts[i]? = some t := by simpa using h
    have ih := map_put (ts := ts) (pc := pc) (i := i) (t := t) (v := v) (by simpa using l) nd.2 h'
    have ne : ¬ (.inr u.1 : Key) = .inr t.1 := fun e => nd.1 (by
      rw [Sum.inr.inj e]
      exact List.mem_map.mpr ⟨t, List.mem_of_getElem? h', rfl⟩)
    show ((.inr u.1, V.int q) :: dKv (pcD ts pc)).map _ = (.inr u.1, V.int q) :: dKv (pcD ts (pc.set i v))
    rw [List.map_cons, ih, if_neg ne]
  | [], _, _, _, _, _, _, h => by simp at h
  | _ :: _, [], _, _, _, l, _, _ => by simp at l
theorem put_pc {ts : List Tr} {pc : List Int} (l : pc.length = ts.length) (nd : (ts.map (·.1)).Nodup) {i : Nat} {t : Tr} {v : Int} (h : ts[i]? = some t) : putK (dKv (pcD ts pc)) (.inr t.1) (.int v) = dKv (pcD ts (pc.set i v)) := by
  unfold putK
  rw [if_pos, map_put l nd h]
  have lt := (List.getElem?_eq_some_iff.mp h).1
  have hp : pc[i]? = some (pc[i]'(by omega)) := List.getElem?_eq_getElem (by omega)
  refine List.any_eq_true.mpr ⟨(.inr t.1, .int (pc[i]'(by omega))), List.mem_map.mpr ⟨_, pcD_at h hp, rfl⟩, decide_eq_true rfl⟩
/-- the pieces behind so many drinks -/
def drunkP (ts : List Tr) (pc : List Int) (c : Int) : List Int := List.zipWith (fun t p => p + t.2.1 * c) ts pc
theorem drunkP_len {ts : List Tr} {pc : List Int} {c : Int} (h : pc.length = ts.length) : (drunkP ts pc c).length = ts.length := by
  unfold drunkP
  rw [List.length_zipWith, h, Nat.min_self]
abbrev tabFs (o pd : Addr) (d f : Int) : List (Str × V) := [("offer", .ref o), ("drunk", .int d), ("full", .int f), ("pieces", .ref pd)]
/-- a table at x, its dict at pd -/
structure TabAt (K : PySem.W.Frag) (H : Hp) (x dx o pd : Addr) (ts : List Tr) (d f : Int) (pc : List Int) : Prop where
  ins : H x = some (.ins (He.ga K "Table") dx (tabFs o pd d f))
  of : OfferAt K H o ts
  pcs : H pd = some (.dK (dKv (pcD ts pc)))
  len : pc.length = ts.length
/-- all stays but x and pd -/
def ExT (x pd : Addr) (H H' : Hp) : Prop := ∀ b o, b ≠ x → b ≠ pd → H b = some o → H' b = some o
theorem ExT.of {x pd : Addr} {H H' : Hp} (e : Ex H H') : ExT x pd H H' := fun b o _ _ h => e b o h
theorem ExT.trans {x pd : Addr} {H1 H2 H3 : Hp} (a : ExT x pd H1 H2) (b : ExT x pd H2 H3) : ExT x pd H1 H3 := fun c o h1 h2 h => b c o h1 h2 (a c o h1 h2 h)
theorem ExT.updX {x pd : Addr} {H : Hp} {o : HO} : ExT x pd H (upd H x o) := fun b u h1 _ h => by rw [upd_ne h1]; exact h
theorem ExT.updP {x pd : Addr} {H : Hp} {o : HO} : ExT x pd H (upd H pd o) := fun b u _ h2 h => by rw [upd_ne h2]; exact h
theorem ExT.ex {x pd : Addr} {H0 H H' : Hp} (e : Ex H0 H) (hx : H0 x = none) (hp : H0 pd = none) (t : ExT x pd H H') : Ex H0 H' := fun b o h => t b o (fun z => by rw [z, hx] at h; cases h) (fun z => by rw [z, hp] at h; cases h) (e b o h)
section
variable {K : PySem.W.Frag} {H H' : Hp} {x dx o pd : Addr} {ts : List Tr} {d f d' f' : Int} {pc pc' : List Int}
theorem TabAt.up (h : TabAt K H x dx o pd ts d f pc) (e : Ex H H') : TabAt K H' x dx o pd ts d f pc := ⟨e _ _ h.ins, h.of.up e, e _ _ h.pcs, h.len⟩
theorem trsBy (k : ∀ a xs, H a = some (.tup xs) → H' a = some (.tup xs)) : ∀ {xs : List V} {us : List Tr}, Paired (TrAt H) xs us → Paired (TrAt H') xs us
  | _, _, .nil => .nil
  | _, _, .cons ⟨p, e, h⟩ r => .cons ⟨p, e, k _ _ h⟩ (trsBy k r)
theorem TabAt.ofT (h : TabAt K H x dx o pd ts d f pc) (e : ExT x pd H H') : OfferAt K H' o ts := by
  obtain ⟨dy, a, h1, xs, h2, h3⟩ := h.of
  have ne : ∀ b u, H b = some u → (∀ dz, u ≠ .ins (He.ga K "Table") dz (tabFs o pd d f)) → (∀ kvs, u ≠ .dK kvs) → H' b = some u := fun b u hb n1 n2 => e b u (fun z => by
    rw [z, h.ins] at hb
    exact n1 _ (Option.some.inj hb).symm) (fun z => by
    rw [z, h.pcs] at hb
    exact n2 _ (Option.some.inj hb).symm) hb
  refine ⟨dy, a, ne _ _ h1 (fun dz z => ?_) fun _ z => (by cases z), xs, ne _ _ h2 (fun _ z => by cases z) fun _ z => (by cases z), trsBy (fun b ys hb => ne _ _ hb (fun _ z => by cases z) fun _ z => (by cases z)) h3⟩
  obtain ⟨_, _, z3⟩ := HO.ins.inj z
  have z4 : (1 : Nat) = 4 := congrArg List.length z3
  omega
theorem TabAt.neq (h : TabAt K H x dx o pd ts d f pc) : x ≠ pd := fun z => by
  have := h.ins
  rw [z, h.pcs] at this
  cases this
/-- another number in the table -/
theorem TabAt.fld (h : TabAt K H x dx o pd ts d f pc) (e : H' = upd H x (.ins (He.ga K "Table") dx (tabFs o pd d' f'))) : TabAt K H' x dx o pd ts d' f' pc ∧ ExT x pd H H' := by
  have t : ExT x pd H H' := by
    rw [e]
    exact .updX
  refine ⟨⟨by rw [e]; exact upd_same, h.ofT t, ?_, h.len⟩, t⟩
  rw [e, upd_ne (Ne.symm h.neq)]
  exact h.pcs
/-- another number of pieces -/
theorem TabAt.put (h : TabAt K H x dx o pd ts d f pc) (l : pc'.length = ts.length) (e : H' = upd H pd (.dK (dKv (pcD ts pc')))) : TabAt K H' x dx o pd ts d f pc' ∧ ExT x pd H H' := by
  have t : ExT x pd H H' := by
    rw [e]
    exact .updP
  refine ⟨⟨?_, h.ofT t, by rw [e]; exact upd_same, l⟩, t⟩
  rw [e, upd_ne h.neq]
  exact h.ins
end
/-! ### promises -/
def sp_Table_init (K : PySem.W.Frag) : Sp := fun vs H Q _ => ∃ (x dx o : Addr) (ts : List Tr) (n : Int), vs = [.ref x, .ref o, .int n] ∧ H x = some (.ins (He.ga K "Table") dx []) ∧ OfferAt K H o ts ∧ OfferOk ts ∧
  ∀ pd H', H pd = none → ExB x H H' → TabAt K H' x dx o pd ts 0 n (ts.map fun _ => 0) → Q .non H'
theorem len_Table_init {K} : ∀ vs H Q E, sp_Table_init K vs H Q E → vs.length = 3 := by rintro _ _ _ _ ⟨_, _, _, _, _, rfl, _⟩; rfl
def sp_Table_can_drink (K : PySem.W.Frag) : Sp := fun vs H Q _ => ∃ (x dx o pd : Addr) (ts : List Tr) (d f : Int) (pc : List Int) (c : Int), vs = [.ref x, .int c] ∧ TabAt K H x dx o pd ts d f pc ∧ OfferOk ts ∧ (f < c → ∀ H', Ex H H' → Q (.bl false) H') ∧
  (c ≤ f → ∀ H', ExT x pd H H' → TabAt K H' x dx o pd ts (d + c) (f - c) (drunkP ts pc c) → Q (.bl true) H')
theorem len_Table_can_drink {K} : ∀ vs H Q E, sp_Table_can_drink K vs H Q E → vs.length = 2 := by rintro _ _ _ _ ⟨_, _, _, _, _, _, _, _, _, rfl, _⟩; rfl
def sp_Table_can_trade (K : PySem.W.Frag) : Sp := fun vs H Q _ => ∃ (x dx o pd : Addr) (ts : List Tr) (d f : Int) (pc : List Int) (z : Str) (c : Int), vs = [.ref x, .str z, .int c] ∧ TabAt K H x dx o pd ts d f pc ∧ OfferOk ts ∧ (z ∉ ts.map (·.1) → ∀ H', Ex H H' → Q (.bl false) H') ∧
  ∀ (i : Nat) t p, ts[i]? = some t → t.1 = z → pc[i]? = some p → (p < t.2.2 * c → ∀ H', Ex H H' → Q (.bl false) H') ∧
    (t.2.2 * c ≤ p → ∀ H', ExT x pd H H' → TabAt K H' x dx o pd ts d (f + c) (pc.set i (p - t.2.2 * c)) → Q (.bl true) H')
theorem len_Table_can_trade {K} : ∀ vs H Q E, sp_Table_can_trade K vs H Q E → vs.length = 3 := by rintro _ _ _ _ ⟨_, _, _, _, _, _, _, _, _, _, rfl, _⟩; rfl
/-! ### steps -/
/-- drinks, full bottles, pieces -/
abbrev TSt : Type := Int × Int × List Int
def oneT (ts : List Tr) (z : Str) (c : Int) (s s' : TSt) : Prop := (0 ≤ c ∧ c ≤ M18) ∧ ((z = "drink" ∧ c ≤ s.2.1 ∧ s' = (s.1 + c, s.2.1 - c, drunkP ts s.2.2 c)) ∨
  (z ≠ "drink" ∧ ∃ (i : Nat) (t : Tr) (p : Int), ts[i]? = some t ∧ t.1 = z ∧ s.2.2[i]? = some p ∧ t.2.2 * c ≤ p ∧ s' = (s.1, s.2.1 + c, s.2.2.set i (p - t.2.2 * c))))
def noT (ts : List Tr) (z : Str) (c : Int) (s : TSt) : Prop := ¬ (0 ≤ c ∧ c ≤ M18) ∨ (z = "drink" ∧ s.2.1 < c) ∨ (z ≠ "drink" ∧ z ∉ ts.map (·.1)) ∨
  (z ≠ "drink" ∧ ∃ (i : Nat) (t : Tr) (p : Int), ts[i]? = some t ∧ t.1 = z ∧ s.2.2[i]? = some p ∧ p < t.2.2 * c)
/-- what comes of some steps: a state, or the first step that is not possible -/
inductive OutT (ts : List Tr) : List (Str × Int) → TSt → TSt ⊕ Nat → Prop
  | nil {s : TSt} : OutT ts [] s (.inl s)
  | bad {z : Str} {c : Int} {r : List (Str × Int)} {s : TSt} : noT ts z c s → OutT ts ((z, c) :: r) s (.inr 0)
  | ok {z : Str} {c : Int} {r : List (Str × Int)} {s s1 s' : TSt} : oneT ts z c s s1 → OutT ts r s1 (.inl s') → OutT ts ((z, c) :: r) s (.inl s')
  | on {z : Str} {c : Int} {r : List (Str × Int)} {s s1 : TSt} {n : Nat} : oneT ts z c s s1 → OutT ts r s1 (.inr n) → OutT ts ((z, c) :: r) s (.inr (n + 1))
def StepAt (H : Hp) (v : V) (s : Str × Int) : Prop := ∃ p, v = .ref p ∧ H p = some (.tup [.str s.1, .int s.2])
def StepsL (H : Hp) (l : Addr) (ss : List (Str × Int)) : Prop := ∃ xs, H l = some (.lst xs) ∧ Paired (StepAt H) xs ss
theorem stepsBy {H H' : Hp} (k : ∀ a xs, H a = some (.tup xs) → H' a = some (.tup xs)) : ∀ {xs : List V} {ss : List (Str × Int)}, Paired (StepAt H) xs ss → Paired (StepAt H') xs ss
  | _, _, .nil => .nil
  | _, _, .cons ⟨p, e, h⟩ r => .cons ⟨p, e, k _ _ h⟩ (stepsBy k r)
theorem StepsL.up {H H' : Hp} {l : Addr} {ss : List (Str × Int)} (h : StepsL H l ss) (e : Ex H H') : StepsL H' l ss := by
  obtain ⟨xs, h1, h2⟩ := h
  exact ⟨xs, e _ _ h1, stepsBy (fun _ _ z => e _ _ z) h2⟩
def numE' (K : PySem.W.Frag) (H : Hp) (E : XK) : Prop := numE K H E
def stepE (K : PySem.W.Frag) (H : Hp) (E : XK) (i : Nat) : Prop := ∀ H' dd, Ex H H' → H' dd = some (.xd [("index", .int i)]) → E (.ref (He.ga K "InvalidStep")) (some dd) H'
theorem stepE.up {K : PySem.W.Frag} {H H' : Hp} {E : XK} {i : Nat} (h : stepE K H E i) (e : Ex H H') : stepE K H' E i := fun H2 dd e2 hd => h H2 dd (Evl.Ex.trans e e2) hd
def spx_play (K : PySem.W.Frag) : Sp := fun vs H Q E => ∃ (o l : Addr) (ts : List Tr) (n : Int) (ss : List (Str × Int)) (r : TSt ⊕ Nat), vs = [.ref o, .int n, .ref l] ∧ OfferAt K H o ts ∧ OfferOk ts ∧ StepsL H l ss ∧ ss.length ≤ 100000 ∧ (¬ (0 ≤ n ∧ n ≤ M18) → numE K H E) ∧
  (0 ≤ n ∧ n ≤ M18 → OutT ts ss (0, n, ts.map fun _ => 0) r ∧ (∀ i, r = .inr i → stepE K H E i) ∧
    ∀ s' : TSt, r = .inl s' → ∀ p pd H', H p = none → H pd = none → Ex H H' → H' p = some (.tup [.int s'.1, .int s'.2.1, .ref pd]) → H' pd = some (.dK (dKv (pcD ts s'.2.2))) → s'.2.2.length = ts.length → Q (.ref p) H')
theorem lenx_play {K} : ∀ vs H Q E, spx_play K vs H Q E → vs.length = 3 := by rintro _ _ _ _ ⟨_, _, _, _, _, _, rfl, _⟩; rfl
/-- the trades between two numbers of drinks -/
def tradesT (ts : List Tr) (d D : Int) : List (Str × Int) := (ts.map fun t => (t.1, t.2.1 * D / t.2.2 - t.2.1 * d / t.2.2)).filter fun s => decide (0 < s.2)
inductive Greedy (ts : List Tr) : Int → Int → List (Str × Int) → Prop
  | nil {d : Int} : Greedy ts d 0 []
  | cons {d f : Int} {r : List (Str × Int)} : 0 < f → Greedy ts (d + f) (bo ts (d + f) - bo ts d) r → Greedy ts d f (("drink", f) :: (tradesT ts d (d + f) ++ r))
theorem Greedy.unique {ts : List Tr} : ∀ {d f : Int} {xs ys : List (Str × Int)}, Greedy ts d f xs → Greedy ts d f ys → xs = ys
  | _, _, _, _, .nil, .nil => rfl
  | _, _, _, _, .nil, .cons h _ => absurd h (by decide)
  | _, _, _, _, .cons h _, .nil => absurd h (by decide)
  | _, _, _, _, .cons _ a, .cons _ b => by rw [a.unique b]
def spx_greedy_steps (K : PySem.W.Frag) : Sp := fun vs H Q E => ∃ (o : Addr) (ts : List Tr) (n : Int), vs = [.ref o, .int n] ∧ OfferAt K H o ts ∧ OfferOk ts ∧ (¬ (0 ≤ n ∧ n ≤ M18) → numE K H E) ∧
  (0 ≤ n ∧ n ≤ M18 → ∀ p ss H', H p = none → Ex H H' → StepsL H' p ss → Greedy ts 0 n ss → ss.length ≤ 5000 → Q (.ref p) H')
theorem lenx_greedy_steps {K} : ∀ vs H Q E, spx_greedy_steps K vs H Q E → vs.length = 2 := by rintro _ _ _ _ ⟨_, _, _, rfl, _⟩; rfl
/-- facts of the class -/
structure OfT (K : PySem.W.Frag) : Prop where
  o : OfK K
  c : Cls K (He.ga K "Table")
  f1 : NoAttr K (He.ga K "Table") "offer"
  f2 : NoAttr K (He.ga K "Table") "drunk"
  f3 : NoAttr K (He.ga K "Table") "full"
  f4 : NoAttr K (He.ga K "Table") "pieces"
  st : OexC K (He.ga K "InvalidStep")
  sn : PySem.W.findIn K (.ref (He.ga K "InvalidStep")) "index" = some none
/-! ### the law of repeated calls -/
@[reducible] def vD : V → PyData
  | .int i => .int i
  | _ => .none
@[reducible] def stepD (s : Str × Int) : PyData := .tuple [.str s.1, .int s.2]
@[reducible] def obsD : Ob → PyData
  | .left z c => .tuple [.str "left", .str z, .int c]
  | .round m q => .tuple [.str "round", .int m, .int q]
noncomputable def allD (ts : List Tr) (N : List Ob) (far st D F : Int) (com le lt : Bool) (fs : List Int) (ss : List (Str × Int)) (nv pv : V) : List PyData :=
  [.tuple (ts.map fun t => PyData.tuple [.str t.1, .int t.2.1, .int t.2.2]), .tuple ((ts.map (·.1)).map PyData.str), .tuple [.int (nd ts), .int (perd ts)], .int st, .int (drk ts far), .int D, .bool com,
   dicD (made ts far), dicD (left ts far), .list (fs.map PyData.int), .int F,
   .list ((misL ts 0 31).map PyData.int), .int (mis ts far), vD nv, .int (drk ts ([3, far] : List Int).sum - drks ts [3, far]),
   .list (ss.map stepD), dicD (pcD ts (drunkP ts (ts.map fun _ => 0) 5)), .list (N.map obsD), vD pv,
   .bool le, .bool lt, .bool (gives ts), dicD (made ts 9)]
/-- what all functions tell -/
def AllD (ts : List Tr) (N : List Ob) (far : Int) (ds : List PyData) : Prop := ∃ (st D F : Int) (com le lt : Bool) (fs : List Int) (ss : List (Str × Int)) (nv pv : V), ds = allD ts N far st D F com le lt fs ss nv pv ∧
  IsStd ts st ∧ IsCred ts far D ∧ IsFew ts far F ∧ (com = true ↔ Com ts far) ∧ (le = true ↔ Never ts ts) ∧ (lt = true ↔ Never ts ts ∧ ¬ Same ts ts) ∧ (Rounds ts far 0 far fs ∧ fs.length ≤ 1000) ∧ (Greedy ts 0 far ss ∧ ss.length ≤ 5000) ∧ NthV ts 5 nv ∧ NpV (agrs ts N) 2 pv
theorem NthV.same {ts : List Tr} {k : Int} {v w : V} (a : NthV ts k v) (b : NthV ts k w) : v = w := by
  rcases a with ⟨rfl, a⟩ | ⟨n, rfl, g, a, _⟩
  · rcases b with ⟨rfl, b⟩ | ⟨m, rfl, g2, b, _⟩
    · rfl
    · rw [a] at g2
      cases g2
  · rcases b with ⟨rfl, b⟩ | ⟨m, rfl, g2, b, _⟩
    · rw [b] at g
      cases g
    · rw [a.unique b]
theorem NpV.same {p : Int → Bool} {k : Int} {v w : V} (a : NpV p k v) (b : NpV p k w) : v = w := by
  have ex : ∀ {n : Int}, IsNP p k n → n ≤ M18 → (cnt p (M18 + 1).toNat : Int) < k → False := fun {n} h l c => by
    have h1 := h.cnt
    have h2 := h.at_
    have h3 := h.pos
    have m : cnt p (n.toNat + 1) ≤ cnt p (M18 + 1).toNat := cnt_mono p (by omega)
    have e : cnt p (n.toNat + 1) = cnt p n.toNat + 1 := by
      show cnt p n.toNat + (if p ((n.toNat : Nat) : Int) then 1 else 0) = _
      rw [Int.toNat_of_nonneg h3, if_pos h2]
    omega
  rcases a with ⟨n, rfl, a, la⟩ | ⟨rfl, a⟩
  · rcases b with ⟨m, rfl, b, lb⟩ | ⟨rfl, b⟩
    · rw [a.unique b]
    · exact (ex a la b).elim
  · rcases b with ⟨m, rfl, b, lb⟩ | ⟨rfl, b⟩
    · exact (ex b lb a).elim
    · rfl
theorem iffBool {a b : Bool} {P : Prop} (h1 : a = true ↔ P) (h2 : b = true ↔ P) : a = b := by
  have := h1.trans h2.symm
  cases a <;> cases b <;> simp_all
theorem AllD.same {ts : List Tr} {N : List Ob} {far : Int} {ds es : List PyData} (a : AllD ts N far ds) (b : AllD ts N far es) : ds = es := by
  obtain ⟨st, D, F, com, le, lt, fs, ss, nv, pv, rfl, a1, a2, a3, a4, a5, a6, a7, a8, a9, a10⟩ := a
  obtain ⟨st', D', F', com', le', lt', fs', ss', nv', pv', rfl, b1, b2, b3, b4, b5, b6, b7, b8, b9, b10⟩ := b
  rw [a1.unique b1, a2.unique b2, a3.unique b3, iffBool a4 b4, iffBool a5 b5, iffBool a6 b6, a7.1.unique b7.1, a8.1.unique b8.1, a9.same b9, a10.same b10]
/-- a result: where it is a list or a dict, it is a new one -/
inductive Item (n : Nat) (H0 H : Hp) : V → Prop
  | int (i : Int) : Item n H0 H (.int i)
  | bl (b : Bool) : Item n H0 H (.bl b)
  | non : Item n H0 H .non
  | tup {a : Addr} {ys : List V} : H a = some (.tup ys) → Item n H0 H (.ref a)
  | lst {a : Addr} {zs : List V} : H0 a = none → H a = some (.lst zs) → zs.length ≤ n → Item n H0 H (.ref a)
  | dic {a : Addr} {kvs : List (Key × V)} : H0 a = none → H a = some (.dK kvs) → Item n H0 H (.ref a)
theorem Item.up {n m : Nat} {H0 H H' : Hp} {v : V} (h : Item n H0 H v) (e : Ex H H') (l : n ≤ m) : Item m H0 H' v := by
  cases h with
  | int i => exact .int i
  | bl b => exact .bl b
  | non => exact .non
  | tup h => exact .tup (e _ _ h)
  | lst n h l' => exact .lst n (e _ _ h) (Nat.le_trans l' l)
  | dic n h => exact .dic n (e _ _ h)
/-- what is new since H0 and stands at H, and the tuples of H, stand in Hg -/
def Keep (H0 H Hg : Hp) : Prop := ∀ a u, H a = some u → (H0 a = none ∨ ∃ ys, u = .tup ys) → Hg a = some u
theorem Keep.back {H0 H1 H2 Hg : Hp} (k : Keep H0 H2 Hg) (e : Ex H1 H2) : Keep H0 H1 Hg := fun a u h c => k a u (e _ _ h) c
theorem Keep.refl {H0 H : Hp} : Keep H0 H H := fun _ _ h _ => h
def sp__law_all (K : PySem.W.Frag) : Sp := fun vs H Q _ => ∃ (o w : Addr) (ts : List Tr) (b : Nat) (N : List Ob) (Z : Addr → Prop) (far : Int), vs = [.ref o, .ref w, .int far] ∧ OfferAt K H o ts ∧ OfferOk ts ∧ WatchAt K H w ts b N Z ∧ IsStd ts b ∧ N.length ≤ 100 ∧ 0 ≤ far ∧ far ≤ 100000000000000000 ∧
  ∀ p xs ds H', H p = none → Ex H H' → H' p = some (.lst xs) → (∀ Hg, Keep H H' Hg → DqAll Hg xs ds) → AllD ts N far ds → (∀ x ∈ xs, Item 10000 H H' x) → (∀ x ∈ xs, x ≠ .ref p) → Q (.ref p) H'
theorem len__law_all {K} : ∀ vs H Q E, sp__law_all K vs H Q E → vs.length = 3 := by rintro _ _ _ _ ⟨_, _, _, _, _, _, _, rfl, _⟩; rfl
end EB
namespace EB
open PySem PySem.Spec L2 StX ClX
set_option maxHeartbeats 4000000
def top (i : Nat) : Stmt := PySem.Challenge.pw_emptiesback_k14_repeated_calls.main.body.getD i (.Pass ⟨0, 0, 0, 0⟩)
abbrev s_common_divisor : Stmt := top 3
def d_common_divisor : He5.DefA := ⟨fun K => He.ga K "common_divisor", "common_divisor", "common_divisor", defArgs s_common_divisor, defBody s_common_divisor, defScope s_common_divisor, [], []⟩
abbrev s_common_multiple : Stmt := top 4
def d_common_multiple : He5.DefA := ⟨fun K => He.ga K "common_multiple", "common_multiple", "common_multiple", defArgs s_common_multiple, defBody s_common_multiple, defScope s_common_multiple, [], []⟩
abbrev s_bought : Stmt := top 5
def d_bought : He5.DefA := ⟨fun K => He.ga K "bought", "bought", "bought", defArgs s_bought, defBody s_bought, defScope s_bought, [], []⟩
abbrev s_least_point : Stmt := top 6
def d_least_point : He5.DefA := ⟨fun K => He.ga K "least_point", "least_point", "least_point", defArgs s_least_point, defBody s_least_point, defScope s_least_point, [], []⟩
abbrev s_needed_multiple : Stmt := top 8
def d_needed_multiple : He5.DefA := ⟨fun K => He.ga K "needed_multiple", "needed_multiple", "needed_multiple", defArgs s_needed_multiple, defBody s_needed_multiple, defScope s_needed_multiple, [], []⟩
abbrev s_period_of : Stmt := top 10
def d_period_of : He5.DefA := ⟨fun K => He.ga K "period_of", "period_of", "period_of", defArgs s_period_of, defBody s_period_of, defScope s_period_of, [], []⟩
abbrev s_total : Stmt := top 7
def d_total : He5.DefA := ⟨fun K => He.ga K "total", "total", "total", defArgs s_total, defBody s_total, defScope s_total, [], []⟩
abbrev s_is_kind : Stmt := top 29
def d_is_kind : He5.DefA := ⟨fun K => He.ga K "is_kind", "is_kind", "is_kind", defArgs s_is_kind, defBody s_is_kind, defScope s_is_kind, [], []⟩
abbrev s_is_trade_kind : Stmt := top 30
def d_is_trade_kind : He5.DefA := ⟨fun K => He.ga K "is_trade_kind", "is_trade_kind", "is_trade_kind", defArgs s_is_trade_kind, defBody s_is_trade_kind, defScope s_is_trade_kind, [], []⟩
abbrev s_is_trade : Stmt := top 31
def d_is_trade : He5.DefA := ⟨fun K => He.ga K "is_trade", "is_trade", "is_trade", defArgs s_is_trade, defBody s_is_trade, defScope s_is_trade, [], []⟩
abbrev s_validate_number : Stmt := top 32
def d_validate_number : He5.DefA := ⟨fun K => He.ga K "validate_number", "validate_number", "validate_number", defArgs s_validate_number, defBody s_validate_number, defScope s_validate_number, [], []⟩
abbrev s_Offer_init : Stmt := inClass (top 33) 2
def d_Offer_init : He5.DefA := ⟨fun K => He.ma K (He.ga K "Offer") "__init__", "__init__", "Offer.__init__", defArgs s_Offer_init, defBody s_Offer_init, defScope s_Offer_init, [], []⟩
abbrev s_Offer_call : Stmt := inClass (top 33) 8
def d_Offer_call : He5.DefA := ⟨fun K => He.ma K (He.ga K "Offer") "__call__", "__call__", "Offer.__call__", defArgs s_Offer_call, defBody s_Offer_call, defScope s_Offer_call, [], []⟩
abbrev s_with_credit : Stmt := top 9
def d_with_credit : He5.DefA := ⟨fun K => He.ga K "with_credit", "with_credit", "with_credit", defArgs s_with_credit, defBody s_with_credit, defScope s_with_credit, [], []⟩
abbrev s_steady_begin : Stmt := top 11
def d_steady_begin : He5.DefA := ⟨fun K => He.ga K "steady_begin", "steady_begin", "steady_begin", defArgs s_steady_begin, defBody s_steady_begin, defScope s_steady_begin, [], []⟩
abbrev s_fewest : Stmt := top 12
def d_fewest : He5.DefA := ⟨fun K => He.ga K "fewest", "fewest", "fewest", defArgs s_fewest, defBody s_fewest, defScope s_fewest, [], []⟩
abbrev s_common_of : Stmt := top 14
def d_common_of : He5.DefA := ⟨fun K => He.ga K "common_of", "common_of", "common_of", defArgs s_common_of, defBody s_common_of, defScope s_common_of, [], []⟩
abbrev s_is_never_more : Stmt := top 15
def d_is_never_more : He5.DefA := ⟨fun K => He.ga K "is_never_more", "is_never_more", "is_never_more", defArgs s_is_never_more, defBody s_is_never_more, defScope s_is_never_more, [], []⟩
abbrev s_first_gap : Stmt := top 16
def d_first_gap : He5.DefA := ⟨fun K => He.ga K "first_gap", "first_gap", "first_gap", defArgs s_first_gap, defBody s_first_gap, defScope s_first_gap, [], []⟩
abbrev s_Offer_period : Stmt := inClass (top 33) 6
def d_Offer_period : He5.DefA := ⟨fun K => pGet K (He.ga K "Offer") "period", "period", "Offer.period", defArgs s_Offer_period, defBody s_Offer_period, defScope s_Offer_period, [], []⟩
abbrev s_Offer_steady_from : Stmt := inClass (top 33) 7
def d_Offer_steady_from : He5.DefA := ⟨fun K => pGet K (He.ga K "Offer") "steady_from", "steady_from", "Offer.steady_from", defArgs s_Offer_steady_from, defBody s_Offer_steady_from, defScope s_Offer_steady_from, [], []⟩
abbrev s_Offer_trades : Stmt := inClass (top 33) 4
def d_Offer_trades : He5.DefA := ⟨fun K => pGet K (He.ga K "Offer") "trades", "trades", "Offer.trades", defArgs s_Offer_trades, defBody s_Offer_trades, defScope s_Offer_trades, [], []⟩
abbrev s_Offer_kinds : Stmt := inClass (top 33) 5
def d_Offer_kinds : He5.DefA := ⟨fun K => pGet K (He.ga K "Offer") "kinds", "kinds", "Offer.kinds", defArgs s_Offer_kinds, defBody s_Offer_kinds, defScope s_Offer_kinds, [], []⟩
abbrev s_Offer_bool : Stmt := inClass (top 33) 9
def d_Offer_bool : He5.DefA := ⟨fun K => He.ma K (He.ga K "Offer") "__bool__", "__bool__", "Offer.__bool__", defArgs s_Offer_bool, defBody s_Offer_bool, defScope s_Offer_bool, [], []⟩
abbrev s_Offer_getitem : Stmt := inClass (top 33) 12
def d_Offer_getitem : He5.DefA := ⟨fun K => He.ma K (He.ga K "Offer") "__getitem__", "__getitem__", "Offer.__getitem__", defArgs s_Offer_getitem, defBody s_Offer_getitem, defScope s_Offer_getitem, [], []⟩
abbrev s_Offer_contains : Stmt := inClass (top 33) 14
def d_Offer_contains : He5.DefA := ⟨fun K => He.ma K (He.ga K "Offer") "__contains__", "__contains__", "Offer.__contains__", defArgs s_Offer_contains, defBody s_Offer_contains, defScope s_Offer_contains, [], []⟩
abbrev s_Offer_le : Stmt := inClass (top 33) 15
def d_Offer_le : He5.DefA := ⟨fun K => He.ma K (He.ga K "Offer") "__le__", "__le__", "Offer.__le__", defArgs s_Offer_le, defBody s_Offer_le, defScope s_Offer_le, [], []⟩
abbrev s_Offer_lt : Stmt := inClass (top 33) 16
def d_Offer_lt : He5.DefA := ⟨fun K => He.ma K (He.ga K "Offer") "__lt__", "__lt__", "Offer.__lt__", defArgs s_Offer_lt, defBody s_Offer_lt, defScope s_Offer_lt, [], []⟩
abbrev s_Offer_trades_made : Stmt := inClass (top 33) 19
def d_Offer_trades_made : He5.DefA := ⟨fun K => He.ma K (He.ga K "Offer") "trades_made", "trades_made", "Offer.trades_made", defArgs s_Offer_trades_made, defBody s_Offer_trades_made, defScope s_Offer_trades_made, [], []⟩
abbrev s_Offer_left_over : Stmt := inClass (top 33) 20
def d_Offer_left_over : He5.DefA := ⟨fun K => He.ma K (He.ga K "Offer") "left_over", "left_over", "Offer.left_over", defArgs s_Offer_left_over, defBody s_Offer_left_over, defScope s_Offer_left_over, [], []⟩
abbrev s_Offer_rounds : Stmt := inClass (top 33) 21
def d_Offer_rounds : He5.DefA := ⟨fun K => He.ma K (He.ga K "Offer") "rounds", "rounds", "Offer.rounds", defArgs s_Offer_rounds, defBody s_Offer_rounds, defScope s_Offer_rounds, [], []⟩
abbrev s_Offer_credit : Stmt := inClass (top 33) 22
def d_Offer_credit : He5.DefA := ⟨fun K => He.ma K (He.ga K "Offer") "credit", "credit", "Offer.credit", defArgs s_Offer_credit, defBody s_Offer_credit, defScope s_Offer_credit, [], []⟩
abbrev s_Offer_fewest_bottles : Stmt := inClass (top 33) 23
def d_Offer_fewest_bottles : He5.DefA := ⟨fun K => He.ma K (He.ga K "Offer") "fewest_bottles", "fewest_bottles", "Offer.fewest_bottles", defArgs s_Offer_fewest_bottles, defBody s_Offer_fewest_bottles, defScope s_Offer_fewest_bottles, [], []⟩
abbrev s_Offer_missing : Stmt := inClass (top 33) 24
def d_Offer_missing : He5.DefA := ⟨fun K => He.ma K (He.ga K "Offer") "missing", "missing", "Offer.missing", defArgs s_Offer_missing, defBody s_Offer_missing, defScope s_Offer_missing, [], []⟩
abbrev s_Offer_count_up_to : Stmt := inClass (top 33) 25
def d_Offer_count_up_to : He5.DefA := ⟨fun K => He.ma K (He.ga K "Offer") "count_up_to", "count_up_to", "Offer.count_up_to", defArgs s_Offer_count_up_to, defBody s_Offer_count_up_to, defScope s_Offer_count_up_to, [], []⟩
abbrev s_Offer_count_missing : Stmt := inClass (top 33) 26
def d_Offer_count_missing : He5.DefA := ⟨fun K => He.ma K (He.ga K "Offer") "count_missing", "count_missing", "Offer.count_missing", defArgs s_Offer_count_missing, defBody s_Offer_count_missing, defScope s_Offer_count_missing, [], []⟩
abbrev s_Offer_nth_missing : Stmt := inClass (top 33) 27
def d_Offer_nth_missing : He5.DefA := ⟨fun K => He.ma K (He.ga K "Offer") "nth_missing", "nth_missing", "Offer.nth_missing", defArgs s_Offer_nth_missing, defBody s_Offer_nth_missing, defScope s_Offer_nth_missing, [], []⟩
abbrev s_Offer_pooled : Stmt := inClass (top 33) 28
def d_Offer_pooled : He5.DefA := ⟨fun K => He.ma K (He.ga K "Offer") "pooled", "pooled", "Offer.pooled", defArgs s_Offer_pooled, defBody s_Offer_pooled, defScope s_Offer_pooled, [], []⟩
abbrev s_BottleObserver_init : Stmt := inClass (top 35) 0
def d_BottleObserver_init : He5.DefA := ⟨fun K => He.ma K (He.ga K "BottleObserver") "__init__", "__init__", "BottleObserver.__init__", defArgs s_BottleObserver_init, defBody s_BottleObserver_init, defScope s_BottleObserver_init, [], []⟩
abbrev s_BottleObserver_records : Stmt := inClass (top 35) 1
def d_BottleObserver_records : He5.DefA := ⟨fun K => pGet K (He.ga K "BottleObserver") "records", "records", "BottleObserver.records", defArgs s_BottleObserver_records, defBody s_BottleObserver_records, defScope s_BottleObserver_records, [], []⟩
abbrev s_BottleObserver_count_in : Stmt := inClass (top 35) 2
def d_BottleObserver_count_in : He5.DefA := ⟨fun K => He.ma K (He.ga K "BottleObserver") "count_in", "count_in", "BottleObserver.count_in", defArgs s_BottleObserver_count_in, defBody s_BottleObserver_count_in, defScope s_BottleObserver_count_in, [], []⟩
abbrev s_BottleObserver_note : Stmt := inClass (top 35) 3
def d_BottleObserver_note : He5.DefA := ⟨fun K => He.ma K (He.ga K "BottleObserver") "note", "note", "BottleObserver.note", defArgs s_BottleObserver_note, defBody s_BottleObserver_note, defScope s_BottleObserver_note, [], []⟩
abbrev s_BottleObserver_see_left : Stmt := inClass (top 35) 4
def d_BottleObserver_see_left : He5.DefA := ⟨fun K => He.ma K (He.ga K "BottleObserver") "see_left", "see_left", "BottleObserver.see_left", defArgs s_BottleObserver_see_left, defBody s_BottleObserver_see_left, defScope s_BottleObserver_see_left, [], []⟩
abbrev s_BottleObserver_nth_possible : Stmt := inClass (top 35) 8
def d_BottleObserver_nth_possible : He5.DefA := ⟨fun K => He.ma K (He.ga K "BottleObserver") "nth_possible", "nth_possible", "BottleObserver.nth_possible", defArgs s_BottleObserver_nth_possible, defBody s_BottleObserver_nth_possible, defScope s_BottleObserver_nth_possible, [], []⟩
abbrev s_InvalidStep_init : Stmt := inClass (top 23) 0
def d_InvalidStep_init : He5.DefA := ⟨fun K => He.ma K (He.ga K "InvalidStep") "__init__", "__init__", "InvalidStep.__init__", defArgs s_InvalidStep_init, defBody s_InvalidStep_init, defScope s_InvalidStep_init, [], []⟩
abbrev s_Table_init : Stmt := inClass (top 38) 0
def d_Table_init : He5.DefA := ⟨fun K => He.ma K (He.ga K "Table") "__init__", "__init__", "Table.__init__", defArgs s_Table_init, defBody s_Table_init, defScope s_Table_init, [], []⟩
abbrev s_Table_can_drink : Stmt := inClass (top 38) 1
def d_Table_can_drink : He5.DefA := ⟨fun K => He.ma K (He.ga K "Table") "can_drink", "can_drink", "Table.can_drink", defArgs s_Table_can_drink, defBody s_Table_can_drink, defScope s_Table_can_drink, [], []⟩
abbrev s_Table_can_trade : Stmt := inClass (top 38) 2
def d_Table_can_trade : He5.DefA := ⟨fun K => He.ma K (He.ga K "Table") "can_trade", "can_trade", "Table.can_trade", defArgs s_Table_can_trade, defBody s_Table_can_trade, defScope s_Table_can_trade, [], []⟩
abbrev s_play : Stmt := top 39
def d_play : He5.DefA := ⟨fun K => He.ga K "play", "play", "play", defArgs s_play, defBody s_play, defScope s_play, [], []⟩
abbrev s_greedy_steps : Stmt := top 40
def d_greedy_steps : He5.DefA := ⟨fun K => He.ga K "greedy_steps", "greedy_steps", "greedy_steps", defArgs s_greedy_steps, defBody s_greedy_steps, defScope s_greedy_steps, [], []⟩
abbrev s__law_mix : Stmt := top 42
def d__law_mix : He5.DefA := ⟨fun K => He.ga K "_law_mix", "_law_mix", "_law_mix", defArgs s__law_mix, defBody s__law_mix, defScope s__law_mix, [], []⟩
abbrev s__law_next : Stmt := top 43
def d__law_next : He5.DefA := ⟨fun K => He.ga K "_law_next", "_law_next", "_law_next", defArgs s__law_next, defBody s__law_next, defScope s__law_next, [], []⟩
abbrev s__law_alike : Stmt := top 44
def d__law_alike : He5.DefA := ⟨fun K => He.ga K "_law_alike", "_law_alike", "_law_alike", defArgs s__law_alike, defBody s__law_alike, defScope s__law_alike, [], []⟩
abbrev s__law_trades : Stmt := top 45
def d__law_trades : He5.DefA := ⟨fun K => He.ga K "_law_trades", "_law_trades", "_law_trades", defArgs s__law_trades, defBody s__law_trades, defScope s__law_trades, [], []⟩
abbrev s__law_offer : Stmt := top 46
def d__law_offer : He5.DefA := ⟨fun K => He.ga K "_law_offer", "_law_offer", "_law_offer", defArgs s__law_offer, defBody s__law_offer, defScope s__law_offer, [], []⟩
abbrev s__law_all : Stmt := top 48
def d__law_all : He5.DefA := ⟨fun K => He.ga K "_law_all", "_law_all", "_law_all", defArgs s__law_all, defBody s__law_all, defScope s__law_all, [], []⟩
abbrev s_law : Stmt := top 49
def d_law : He5.DefA := ⟨fun K => He.ga K "law", "law", "law", defArgs s_law, defBody s_law, defScope s_law, [], []⟩
def fn : List He5.DefA := [d_common_divisor, d_common_multiple, d_bought, d_least_point, d_needed_multiple, d_period_of, d_total, d_is_kind, d_is_trade_kind, d_is_trade, d_validate_number, d_Offer_init, d_Offer_call, d_with_credit, d_steady_begin, d_fewest, d_common_of, d_is_never_more, d_first_gap, d_Offer_period, d_Offer_steady_from, d_Offer_trades, d_Offer_kinds, d_Offer_bool, d_Offer_getitem, d_Offer_contains, d_Offer_le, d_Offer_lt, d_Offer_trades_made, d_Offer_left_over, d_Offer_rounds, d_Offer_credit, d_Offer_fewest_bottles, d_Offer_missing, d_Offer_count_up_to, d_Offer_count_missing, d_Offer_nth_missing, d_Offer_pooled, d_BottleObserver_init, d_BottleObserver_records, d_BottleObserver_count_in, d_BottleObserver_note, d_BottleObserver_see_left, d_BottleObserver_nth_possible, d_InvalidStep_init, d_Table_init, d_Table_can_drink, d_Table_can_trade, d_play, d_greedy_steps, d__law_mix, d__law_next, d__law_alike, d__law_trades, d__law_offer, d__law_all, d_law]
def fa : List He.Fa := [.free "int", .glo "common_divisor", .free "sum", .glo "bought", .glo "common_multiple", .glo "least_point", .glo "period_of", .free "len", .int "MAX_LETTERS" (8), .str "LETTERS" "abcdefghijklmnopqrstuvwxyz", .free "all", .glo "is_kind", .glo "is_trade_kind", .glo "Offer", .exc "InvalidNumber", .glo "InvalidNumber", .noat "Offer" "parts", .glo "needed_multiple", .free "enumerate", .glo "is_trade", .glo "total", .int "MAX_BOTTLES" (1000000000000000000), .glo "validate_number", .glo "steady_begin", .free "range", .glo "common_of", .free "tuple", .free "any", .exc "UnknownKind", .glo "UnknownKind", .glo "fewest", .glo "is_never_more", .glo "first_gap", .glo "with_credit", .int "MAX_LISTED" (10000), .meth "Offer" "count_up_to", .cls "Offer", .noat "BottleObserver" "noted", .noat "BottleObserver" "turn", .free "list", .noat "BottleObserver" "places", .noat "BottleObserver" "begin", .noat "BottleObserver" "early", .noat "BottleObserver" "offer", .meth "BottleObserver" "count_in", .cls "BottleObserver", .exc "Contradiction", .glo "Contradiction", .meth "BottleObserver" "note", .glo "TradeError", .noat "Table" "pieces", .noat "Table" "full", .noat "Table" "drunk", .noat "Table" "offer", .str "DRINK" "drink", .meth "Table" "can_drink", .cls "Table", .meth "Table" "can_trade", .mkr "Table", .glo "Table", .glo "InvalidStep", .free "max", .free "isinstance", .free "bool", .free "str", .glo "_law_alike", .free "dict", .glo "_law_next", .mkr "Offer", .meth "Offer" "trades_made", .meth "BottleObserver" "nth_possible", .glo "play", .glo "greedy_steps", .meth "Offer" "pooled", .meth "Offer" "nth_missing", .meth "Offer" "count_missing", .meth "Offer" "missing", .meth "Offer" "fewest_bottles", .meth "Offer" "rounds", .meth "Offer" "left_over", .meth "Offer" "credit", .glo "_law_all", .meth "BottleObserver" "see_left", .mkr "BottleObserver", .glo "BottleObserver", .glo "_law_trades", .glo "_law_offer", .glo "_law_mix", .glo "law"]
def fb : List Fb := [.cread "Offer", .cval "Offer" "MAX_NEEDED" (12), .cval "Offer" "MAX_TRADES" (3), .callO "Offer", .own "Offer" "__bool__", .prop "Offer" "trades", .own "Offer" "__getitem__", .prop "Offer" "kinds", .cread "TradeError", .own "Offer" "__lt__", .own "Offer" "__le__", .prop "BottleObserver" "records", .own "Offer" "__contains__", .prop "Offer" "steady_from", .prop "Offer" "period"]
def fx : List Fx := [.tin "TradeError", .oex "InvalidStep", .err]
abbrev Tx (K : PySem.W.Frag) (mg : Str → Option Value) : Prop := Tx1 fa fn fb fx K mg
end EB
namespace EB
open PySem PySem.Spec PyProof.Rows L2
abbrev theRow : PySem.W.OpenRow := PySem.W.OpenLaw.row PySem.Challenge.rw_emptiesback_k14_repeated_calls
def tf : List He.Defn := []
def ob (s : PySem.W.SharedT) : AlL := obsL 5 fa fn fb fx tf (HandSHeadRun.getT s)
theorem ob_eq (s : PySem.W.SharedT) : ob s = (hookL 5 fa fn fb fx tf).obs s.abs := obsL_eq (HandSHeadRun.getT_eq s)
def names : List Str := (["_wall", "MAX_BOTTLES", "common_divisor", "common_multiple", "bought", "least_point", "total", "needed_multiple", "with_credit", "period_of", "steady_begin", "fewest", "common_of", "is_never_more", "first_gap", "TradeError", "InvalidOffer", "TooGenerous", "UnknownKind", "InvalidNumber", "InvalidStep", "Contradiction", "LETTERS", "MAX_LETTERS"] : List Str) ++ (["MAX_LISTED", "is_kind", "is_trade_kind", "is_trade", "validate_number", "Offer", "BottleObserver", "DRINK", "Table", "play", "greedy_steps", "_law_mix", "_law_next", "_law_alike", "_law_trades", "_law_offer", "_law_buys", "_law_all"] : List Str)
theorem run (w : World) : HandSHeadRun.RunEq theRow (PySem.W.view theRow.prog [49]) (hookL 5 fa fn fb fx tf) ob 9000 names w := by
  intro os
  kernel_rfl
end EB
/-! the words of the stepping: keys of walk_at -/
open PySem PySem.Spec L2 EB
local macro_rules | `(tactic| walk_at "ex") => `(tactic| first
  | assumption
  | exact Evl.Ex.refl _
  | ((with_reducible apply ex2); (focus (assumption)); (focus (walk_at "ex")))
  | ((with_reducible apply exN); (focus (assumption)); (focus (walk_at "ex"))))
local macro_rules | `(tactic| walk_at "factE") => `(tactic| first
  | assumption
  | with_reducible exact upd_same
  | ((with_reducible apply exE); (focus (assumption)); (focus (walk_at "ex"))))
/-- what is known of an object, carried to the heap at hand -/
local macro_rules | `(tactic| walk_at "fact") => `(tactic| first
  | assumption
  | ((with_reducible apply Evl.st_of); walk_at "factE")
  | ((with_reducible apply Evl.sq_of); walk_at "factE")
  | ((with_reducible apply exT); (focus (assumption)); (focus (walk_at "ex")))
  | ((with_reducible apply exL); (focus (assumption)); (focus (walk_at "ex")))
  | walk_at "factE")
local macro_rules | `(tactic| walk_at "num") => `(tactic| first
  | exact cmul_l (by omega) (by omega)
  | exact cmul_r (by omega) (by omega)
  | exact cdiv (by omega) (by omega)
  | exact cdivW (by omega) (by omega)
  | exact cpow (by omega) (by omega) (by omega) (by omega)
  | omega)
local macro_rules | `(tactic| walk_at "ap") => `(tactic| fail "no promise")
local macro_rules | `(tactic| walk_at "go1") => `(tactic| first
  | ((with_reducible apply w_var); (focus (exact rfl)))
  | with_reducible refine w_c ?_
  | with_reducible refine w_op ?_
  | with_reducible refine w_seq ?_
  | with_reducible refine w_asg ?_
  | ((with_reducible refine w_name ?_); (intro s' hs; dsimp only [List.set] at hs; subst hs))
  | with_reducible refine w_cons ?_
  | with_reducible refine w_nil ?_
  | with_reducible refine w_call ?_
  | with_reducible refine w_CB ?_
  | with_reducible refine w_add ?_
  | with_reducible refine w_sub ?_
  | ((with_reducible apply w_mul); (focus (walk_at "num")))
  | ((with_reducible apply w_fd); (focus (walk_at "num")))
  | ((with_reducible apply w_fdW); (focus (walk_at "num")))
  | ((with_reducible apply w_mod); (focus (omega)))
  | ((with_reducible apply w_pow); (focus (walk_at "num")))
  | with_reducible refine w_lt ?_
  | with_reducible refine w_le ?_
  | with_reducible refine w_gt ?_
  | with_reducible refine w_ge ?_
  | with_reducible refine w_eqI ?_
  | with_reducible refine w_neI ?_
  | with_reducible refine w_eqS ?_
  | with_reducible refine w_neS ?_
  | with_reducible refine w_eqB ?_
  | with_reducible refine w_neB ?_
  | with_reducible refine w_isN ?_
  | with_reducible refine w_notN ?_
  | with_reducible refine w_test ?_
  | with_reducible refine w_tB ?_
  | with_reducible refine w_exb ?_
  | with_reducible refine w_and ?_
  | with_reducible refine w_or ?_
  | with_reducible refine w_not ?_
  | with_reducible refine w_andV ?_
  | with_reducible refine w_orV ?_
  | with_reducible refine w_notV ?_
  | with_reducible refine w_chain ?_
  | with_reducible refine w_if ?_
  | with_reducible refine w_next ?_
  | with_reducible refine w_ret ?_
  | with_reducible refine w_drop ?_
  | with_reducible refine w_ifS ?_
  | with_reducible refine w_parP ?_
  | ((with_reducible refine w_par2 ?_); dsimp only [List.set])
  | with_reducible refine w_parP3 ?_
  | ((with_reducible refine w_par23 ?_); dsimp only [List.set])
  | with_reducible refine w_un ?_
  | with_reducible refine w_rU ?_
  | ((with_reducible apply w_aug); (focus (exact rfl)))
  | ((with_reducible refine w_ip ?_); dsimp only [List.set])
  | with_reducible refine w_int ?_
  | with_reducible refine w_intB ?_
  | with_reducible refine w_mx2 ?_
  | with_reducible refine w_mn2 ?_
  | with_reducible refine w_tProp ?_
  | with_reducible refine w_dcTs ?_
  | ((with_reducible apply w_gTup); (focus (walk_at "fact")); (focus (exact rfl)))
  | with_reducible refine w_gCons ?_
  | with_reducible refine w_gNil ?_
  | ((with_reducible apply w_t); (focus (first | exact rfl | assumption)))
  | ((with_reducible apply w_f); (focus (first | exact rfl | assumption)))
  | with_reducible refine w_callR ?_
  | with_reducible refine w_CO ?_
  | with_reducible refine w_exref ?_
  | ((with_reducible apply w_isC); (focus (walk_at "fact")))
  | with_reducible refine w_makeR ?_
  | with_reducible refine w_methR ?_
  | ((with_reducible apply w_methR2); (focus (walk_at "fact")); (focus (exact rfl)))
  | with_reducible refine w_tFld ?_
  | ((with_reducible apply w_fld2); (focus (walk_at "fact")); (focus (assumption)); (focus (assumption)); (focus (exact rfl)))
  | ((with_reducible apply w_CVal); (focus (assumption)); (focus (assumption)))
  | with_reducible refine w_sFld ?_
  | with_reducible refine w_tSl ?_
  | with_reducible refine w_noPart ?_
  | with_reducible refine w_part ?_
  | with_reducible refine w_exint ?_
  | with_reducible refine w_lcTs ?_
  | with_reducible refine w_lcLs ?_
  | with_reducible refine w_foTs ?_
  | with_reducible refine w_foLs ?_
  | with_reducible refine w_BM ?_
  | ((with_reducible apply w_BML); (focus (walk_at "fact")))
  | with_reducible refine w_gSub ?_
  | with_reducible refine w_wCmp ?_
  | ((with_reducible refine w_wNmE ?_); dsimp only [List.set])
  | with_reducible refine w_inS ?_
  | with_reducible refine w_lst ?_
  | with_reducible refine w_tup ?_
  | ((with_reducible apply w_short); (focus (first | decide | (simp; done))); (intro p' H' hn' he' hp'))
  | ((with_reducible apply w_sFld2); (focus (walk_at "fact")); (focus (assumption)); (focus (assumption)); (focus (first | decide | (simp; done))); (intro H' he' hp'))
  | ((with_reducible apply w_catL); (focus (walk_at "fact")); (focus (walk_at "fact")); (focus (first | decide | (simp; done) | (simp; omega))); (intro p' H' hn' he' hp'))
  | ((with_reducible apply w_tupL); (focus (walk_at "fact")); (intro p' H' hn' he' hp'))
  | ((with_reducible apply w_tupT); (focus (walk_at "fact")))
  | ((with_reducible apply w_listL); (focus (walk_at "fact")); (intro p' H' hn' he' hp'))
  | ((with_reducible apply w_listT); (focus (walk_at "fact")); (intro p' H' hn' he' hp'))
  | ((with_reducible apply w_ixL); (focus (walk_at "fact")); (focus (exact rfl)))
  | ((with_reducible apply w_ixT); (focus (walk_at "fact")); (focus (exact rfl)))
  | ((with_reducible apply w_setL); (focus (walk_at "fact")); (focus (exact rfl)); (intro H' he' hp'))
  | ((with_reducible apply w_append); (focus (walk_at "fact")); (focus (first | assumption | decide | (simp; omega))); (intro H' he' hp'))
  | ((with_reducible apply w_lenT); (focus (walk_at "fact")))
  | ((with_reducible apply w_lenL); (focus (walk_at "fact")))
  | walk_at "ap")
local macro_rules | `(tactic| walk_at "go") => `(tactic| repeat walk_at "go1")
/-! the same with the package's own calls -/
local macro_rules | `(tactic| walk_at "offer") => `(tactic| first
  | assumption
  | ((with_reducible apply OfferAt.upE); (focus (assumption)); (focus (walk_at "ex"))))
local macro_rules | `(tactic| walk_at "trs") => `(tactic| first
  | assumption
  | ((with_reducible apply Trs.upE); (focus (assumption)); (focus (walk_at "ex"))))
local macro_rules | `(tactic| walk_at "own1") => `(tactic| first
  | ((with_reducible apply w_offer); (focus (walk_at "offer")); (focus (assumption)); (focus (omega)); (focus (omega)); (intro H' e'))
  | ((with_reducible apply OfferAt.meth); (focus (walk_at "offer")); (focus (exact rfl)))
  | ((with_reducible apply OfferAt.prop); (focus (walk_at "offer"))))
local macro_rules | `(tactic| walk_at "own2") => `(tactic| with_reducible refine w_listG ?_)
local macro_rules | `(tactic| walk_at "own3") => `(tactic| repeat first | walk_at "go1" | walk_at "own1" | walk_at "own2")
local macro_rules | `(tactic| walk_at "own") => `(tactic| repeat first | walk_at "go1" | walk_at "own1")
local macro_rules | `(tactic| walk_at "dq") => `(tactic| first
  | with_reducible apply Dq.int
  | with_reducible apply Dq.str
  | with_reducible apply Dq.bl
  | with_reducible apply Dq.non
  | ((with_reducible apply Dq.lst); (focus (walk_at "factE")); (focus (walk_at "dqs")))
  | ((with_reducible apply Dq.tup); (focus (walk_at "factE")); (focus (walk_at "dqs"))))
local macro_rules | `(tactic| walk_at "dqs") => `(tactic| first
  | with_reducible apply DqAll.nil
  | ((with_reducible apply DqAll.cons); (focus (walk_at "dq")); (focus (walk_at "dqs"))))
namespace EB
open PySem PySem.Spec L2 StX ClX
def t_common_divisor (K : PySem.W.Frag) : TS := (tSeq (tWhile (tTest (tOp rNe (tVar 1) (tC (.int 0)))) (tPar 0 1 (tCons (tVar 1) (tCons (tOp rModI (tCB (rInt) (tCons (tVar 0) tNil)) (tCB (rInt) (tCons (tVar 1) tNil))) tNil))))
    (tRet (tVar 0)))
abbrev N_common_divisor : List Str := ["one", "other"]
theorem st_common_divisor {x0 x1 : V} : start N_common_divisor [x0, x1] = [some x0, some x1] := rfl
def t_common_multiple (K : PySem.W.Frag) : TS := (tRet (tOp rMulI (tOp rFdI (tVar 0) (tCallR (sp_common_divisor K) E0 (tCons (tVar 0) (tCons (tVar 1) tNil)))) (tVar 1)))
abbrev N_common_multiple : List Str := ["one", "other"]
theorem st_common_multiple {x0 x1 : V} : start N_common_multiple [x0, x1] = [some x0, some x1] := rfl
def t_bought (K : PySem.W.Frag) : TS := (tRet (tCB (rSum K) (tCons (tLc (iTup K (tVar 0)) (gTup K 3 (gCons (gName 2) (gCons (gName 3) (gCons (gName 4) gNil)))) tYes (tOp rFdI (tOp rMulI (tVar 3) (tVar 1)) (tVar 4)) [2, 3, 4]) tNil)))
abbrev N_bought : List Str := ["trades", "drinks", "kind", "left", "needed"]
theorem st_bought {x0 x1 : V} : start N_bought [x0, x1] = [some x0, some x1, none, none, none] := rfl
def t_least_point (K : PySem.W.Frag) : TS := (tSeq (tWhileW (wCmp rNe (wNm (wE (tOp rAddI (tVar 1) (tCallR (sp_bought K) E0 (tCons (tVar 0) (tCons (tVar 2) tNil))))) 3) (tVar 2)) (tAsg (tVar 3) (gName 2)) tNext)
    (tRet (tVar 2)))
abbrev N_least_point : List Str := ["trades", "bottles", "drinks", "following"]
theorem st_least_point {x0 x1 x2 : V} : start N_least_point [x0, x1, x2] = [some x0, some x1, some x2, none] := rfl
def t_needed_multiple (K : PySem.W.Frag) : TS := (tSeq (tAsg (tC (.int 1)) (gName 1))
    (tSeq (tFor (iTup K (tVar 0)) (gTup K 3 (gCons (gName 2) (gCons (gName 3) (gCons (gName 4) gNil)))) (tAsg (tCallR (sp_common_multiple K) E0 (tCons (tVar 1) (tCons (tVar 4) tNil))) (gName 1)))
    (tRet (tVar 1))))
abbrev N_needed_multiple : List Str := ["trades", "found", "kind", "left", "needed"]
theorem st_needed_multiple {x0 : V} : start N_needed_multiple [x0] = [some x0, none, none, none, none] := rfl
def t_period_of (K : PySem.W.Frag) : TS := (tSeq (tAsg (tC (.int 1)) (gName 1))
    (tSeq (tFor (iTup K (tVar 0)) (gTup K 3 (gCons (gName 2) (gCons (gName 3) (gCons (gName 4) gNil)))) (tAsg (tCallR (sp_common_multiple K) E0 (tCons (tVar 1) (tCons (tOp rFdI (tVar 4) (tCallR (sp_common_divisor K) E0 (tCons (tVar 3) (tCons (tVar 4) tNil)))) tNil))) (gName 1)))
    (tRet (tTup (clA (tCons (tOp rSubI (tVar 1) (tCallR (sp_bought K) E0 (tCons (tVar 0) (tCons (tVar 1) tNil)))) (tCons (tVar 1) tNil)))))))
abbrev N_period_of : List Str := ["trades", "drinks", "kind", "left", "needed"]
theorem st_period_of {x0 : V} : start N_period_of [x0] = [some x0, none, none, none, none] := rfl
def t_total (K : PySem.W.Frag) : TS := (tSeq (tAsg (tCallR (sp_period_of K) E0 (tCons (tVar 0) tNil)) (gTup K 2 (gCons (gName 2) (gCons (gName 3) gNil))))
    (tSeq (tAsg (tOp rFdI (tOp rMulI (tOp rSubI (tVar 1) (tC (.int 3))) (tVar 3)) (tVar 2)) (gName 4))
    (tRet (tCallR (sp_least_point K) E0 (tCons (tVar 0) (tCons (tVar 1) (tCons (tIf (tTest (tOp rGtI (tVar 4) (tVar 1))) (tVar 4) (tVar 1)) tNil)))))))
abbrev N_total : List Str := ["trades", "bottles", "need", "drinks", "start"]
theorem st_total {x0 x1 : V} : start N_total [x0, x1] = [some x0, some x1, none, none, none] := rfl
def t_is_kind (K : PySem.W.Frag) : TS := (tRet (tAndV (tChain rLeI rLeI (tC (.int 1)) (tCB (rLen K) (tCons (tVar 0) tNil)) (tC (.int (8)))) (tCB (rAll K) (tCons (tLc (iStr (tVar 0)) (gName 1) tYes (tOp rInS (tVar 1) (tC (.str "abcdefghijklmnopqrstuvwxyz"))) [1]) tNil))))
abbrev N_is_kind : List Str := ["kind", "letter"]
theorem st_is_kind {x0 : V} : start N_is_kind [x0] = [some x0, none] := rfl
def t_is_trade_kind (K : PySem.W.Frag) : TS := (tRet (tAndV (tCallR (sp_is_kind K) E0 (tCons (tVar 0) tNil)) (tOp rNe (tVar 0) (tC (.str "drink")))))
abbrev N_is_trade_kind : List Str := ["kind"]
theorem st_is_trade_kind {x0 : V} : start N_is_trade_kind [x0] = [some x0] := rfl
def t_is_trade (K : PySem.W.Frag) : TS := (tSeq (tAsg (tVar 0) (gTup K 3 (gCons (gName 1) (gCons (gName 2) (gCons (gName 3) gNil)))))
    (tRet (tAndV (tCallR (sp_is_trade_kind K) E0 (tCons (tVar 1) tNil)) (tAndV (tChain rLeI rLeI (tC (.int 0)) (tVar 2) (tCVal K (tC (.ref (He.ga K "Offer"))) "MAX_NEEDED")) (tChain rLeI rLeI (tC (.int 1)) (tVar 3) (tCVal K (tC (.ref (He.ga K "Offer"))) "MAX_NEEDED"))))))
abbrev N_is_trade : List Str := ["trade", "kind", "left", "needed"]
theorem st_is_trade {x0 : V} : start N_is_trade [x0] = [some x0, none, none, none] := rfl
def t_validate_number (K : PySem.W.Frag) : TS := (tIfS (tNot (tTest (tChain rLeI rLeI (tVar 1) (tVar 0) (tVar 2)))) tNever tNext)
def tx_validate_number (K : PySem.W.Frag) (E : XK) : TS := (tIfS (tNot (tTest (tChain rLeI rLeI (tVar 1) (tVar 0) (tVar 2)))) (tRs (tMkT (He.ga K "InvalidNumber")) E) tNext)
abbrev N_validate_number : List Str := ["number", "smallest", "largest"]
theorem st_validate_number {x0 x1 x2 : V} : start N_validate_number [x0, x1, x2] = [some x0, some x1, some x2] := rfl
def t_Offer_init (K : PySem.W.Frag) : TS := (tSeq (tIfS (tTest (tOp (rEqD K) (tVar 1) (tTup (clA tNil)))) tNever tNext)
    (tSeq (tFor (iEnumT K (tCons (tVar 1) tNil)) (gTup K 2 (gCons (gName 2) (gCons (gName 3) gNil))) (tSeq (tAsg (tLc (iTup K (tSl (rSlA K) (tVar 1) tNoPart (tPart (tVar 2)))) (gTup K 3 (gCons (gName 6) (gCons (gName 7) (gCons (gName 8) gNil)))) tYes (tVar 6) [6, 7, 8]) (gName 4))
    (tIfS (tOr (tTest (tOp rEq (tVar 2) (tCVal K (tC (.ref (He.ga K "Offer"))) "MAX_TRADES"))) (tOr (tNot (tB (tCallR (sp_is_trade K) E0 (tCons (tVar 3) tNil)))) (tTest (tOp (rIn K false) (tOp (rIxT K) (tVar 3) (tC (.int 0))) (tVar 4))))) tNever tNext)))
    (tSeq (tAsg (tCallR (sp_needed_multiple K) E0 (tCons (tVar 1) tNil)) (gName 5))
    (tSeq (tIfS (tTest (tOp rGtI (tOp rMulI (tC (.int 10)) (tCallR (sp_bought K) E0 (tCons (tVar 1) (tCons (tVar 5) tNil)))) (tOp rMulI (tC (.int 9)) (tVar 5)))) tNever tNext)
    (sFld K (tVar 0) (tVar 1) "parts")))))
abbrev N_Offer_init : List Str := ["self", "trades", "index", "trade", "earlier", "whole", "kind", "left", "needed"]
theorem st_Offer_init {x0 x1 : V} : start N_Offer_init [x0, x1] = [some x0, some x1, none, none, none, none, none, none, none] := rfl
def t_Offer_call (K : PySem.W.Frag) : TS := (tSeq (tDrop (tCallR (sp_validate_number K) E0 (tCons (tVar 1) (tCons (tC (.int 0)) (tCons (tC (.int (1000000000000000000))) tNil)))))
    (tRet (tCallR (sp_total K) E0 (tCons (tFld K (tVar 0) "parts") (tCons (tVar 1) tNil)))))
abbrev N_Offer_call : List Str := ["self", "bottles"]
theorem st_Offer_call {x0 x1 : V} : start N_Offer_call [x0, x1] = [some x0, some x1] := rfl
def t_with_credit (K : PySem.W.Frag) : TS := (tSeq (tAsg (tCallR (sp_needed_multiple K) E0 (tCons (tVar 0) tNil)) (gName 2))
    (tSeq (tAsg (tOp rFdI (tOp rMulI (tVar 1) (tVar 2)) (tOp rSubI (tVar 2) (tCallR (sp_bought K) E0 (tCons (tVar 0) (tCons (tVar 2) tNil))))) (gName 3))
    (tSeq (tWhileW (wCmp rLtI (wNm (wE (tOp rAddI (tVar 1) (tCallR (sp_bought K) E0 (tCons (tVar 0) (tCons (tVar 3) tNil))))) 4) (tVar 3)) (tAsg (tVar 4) (gName 3)) tNext)
    (tRet (tVar 3)))))
abbrev N_with_credit : List Str := ["trades", "bottles", "whole", "drinks", "following"]
theorem st_with_credit {x0 x1 : V} : start N_with_credit [x0, x1] = [some x0, some x1, none, none, none] := rfl
def t_steady_begin (K : PySem.W.Frag) : TS := (tSeq (tAsg (tCallR (sp_period_of K) E0 (tCons (tVar 0) tNil)) (gTup K 2 (gCons (gName 1) (gCons (gName 2) gNil))))
    (tSeq (tAsg (tC (.int 0)) (gName 3))
    (tSeq (tWhile (tTest (tOp rLtI (tCallR (sp_least_point K) E0 (tCons (tVar 0) (tCons (tVar 3) (tCons (tOp rSubI (tC (.int 0)) (tVar 2)) tNil)))) (tC (.int 0)))) (tAug 3 (tC (.int 1)) (ipI fun i j => i + j)))
    (tRet (tVar 3)))))
abbrev N_steady_begin : List Str := ["trades", "bottles", "drinks", "begin"]
theorem st_steady_begin {x0 : V} : start N_steady_begin [x0] = [some x0, none, none, none] := rfl
def t_fewest (K : PySem.W.Frag) : TS := (tSeq (tAsg (tCallR (sp_period_of K) E0 (tCons (tVar 0) tNil)) (gTup K 2 (gCons (gName 2) (gCons (gName 3) gNil))))
    (tSeq (tAsg (tOp rSubI (tC (.int 0)) (tOp rFdI (tCB (rInt) (tCons (tOp rSubI (tC (.int 0)) (tOp rMulI (tCB (rInt) (tCons (tVar 1) tNil)) (tVar 2))) tNil)) (tVar 3))) (gName 4))
    (tSeq (tFor (iTup K (tTup (clA (tCons (tVar 4) (tCons (tOp rAddI (tVar 4) (tC (.int 1))) (tCons (tOp rAddI (tVar 4) (tC (.int 2))) tNil)))))) (gName 5) (tIfS (tTest (tOp rGeI (tCallR (sp_total K) E0 (tCons (tVar 0) (tCons (tVar 5) tNil))) (tCB (rInt) (tCons (tVar 1) tNil)))) (tRet (tVar 5)) tNext))
    (tRet (tOp rAddI (tVar 4) (tC (.int 3)))))))
abbrev N_fewest : List Str := ["trades", "drinks", "need", "given", "least", "bottles"]
theorem st_fewest {x0 x1 : V} : start N_fewest [x0, x1] = [some x0, some x1, none, none, none, none] := rfl
def t_common_of (K : PySem.W.Frag) : TS := (tSeq (tAsg (tCallR (sp_period_of K) E0 (tCons (tVar 0) tNil)) (gTup K 2 (gCons (gName 2) (gCons (gName 3) gNil))))
    (tSeq (tAsg (tCallR (sp_period_of K) E0 (tCons (tVar 1) tNil)) (gTup K 2 (gCons (gName 4) (gCons (gName 5) gNil))))
    (tSeq (tPar 6 7 (tCons (tCallR (sp_steady_begin K) E0 (tCons (tVar 0) tNil)) (tCons (tCallR (sp_steady_begin K) E0 (tCons (tVar 1) tNil)) tNil)))
    (tSeq (tAsg (tCallR (sp_common_multiple K) E0 (tCons (tVar 2) (tCons (tVar 4) tNil))) (gName 8))
    (tSeq (tAsg (tOp rSubI (tOp rMulI (tOp rFdI (tVar 8) (tVar 2)) (tVar 3)) (tOp rMulI (tOp rFdI (tVar 8) (tVar 4)) (tVar 5))) (gName 9))
    (tRet (tTup (clA (tCons (tIf (tTest (tOp rGtI (tVar 6) (tVar 7))) (tVar 6) (tVar 7)) (tCons (tVar 8) (tCons (tVar 9) tNil)))))))))))
abbrev N_common_of : List Str := ["trades", "others", "mine", "drinks", "yours", "other_drinks", "begin", "other_begin", "bottles", "gain"]
theorem st_common_of {x0 x1 : V} : start N_common_of [x0, x1] = [some x0, some x1, none, none, none, none, none, none, none, none] := rfl
def t_is_never_more (K : PySem.W.Frag) : TS := (tSeq (tAsg (tCallR (sp_common_of K) E0 (tCons (tVar 0) (tCons (tVar 1) tNil))) (gTup K 3 (gCons (gName 2) (gCons (gName 3) (gCons (gName 4) gNil)))))
    (tSeq (tIfS (tTest (tOp rGtI (tVar 4) (tC (.int 0)))) (tRet (tC (.bl false))) tNext)
    (tSeq (tFor (iRng1 (tCons (tOp rAddI (tOp rAddI (tVar 2) (tVar 3)) (tC (.int 1))) tNil)) (gName 5) (tIfS (tTest (tOp rGtI (tCallR (sp_total K) E0 (tCons (tVar 0) (tCons (tVar 5) tNil))) (tCallR (sp_total K) E0 (tCons (tVar 1) (tCons (tVar 5) tNil))))) (tRet (tC (.bl false))) tNext))
    (tRet (tC (.bl true))))))
abbrev N_is_never_more : List Str := ["trades", "others", "begin", "bottles", "gain", "count"]
theorem st_is_never_more {x0 x1 : V} : start N_is_never_more [x0, x1] = [some x0, some x1, none, none, none, none] := rfl
def t_first_gap (K : PySem.W.Frag) : TS := (tSeq (tAsg (tCallR (sp_common_of K) E0 (tCons (tVar 0) (tCons (tVar 1) tNil))) (gTup K 3 (gCons (gName 2) (gCons (gName 3) (gCons (gName 4) gNil)))))
    (tSeq (tFor (iRng1 (tCons (tOp rAddI (tOp rAddI (tVar 2) (tVar 3)) (tC (.int 1))) tNil)) (gName 5) (tIfS (tTest (tOp rNe (tCallR (sp_total K) E0 (tCons (tVar 0) (tCons (tVar 5) tNil))) (tCallR (sp_total K) E0 (tCons (tVar 1) (tCons (tVar 5) tNil))))) (tRet (tVar 5)) tNext))
    (tRet (tC .non))))
abbrev N_first_gap : List Str := ["trades", "others", "begin", "bottles", "gain", "count"]
theorem st_first_gap {x0 x1 : V} : start N_first_gap [x0, x1] = [some x0, some x1, none, none, none, none] := rfl
def t_Offer_period (K : PySem.W.Frag) : TS := (tRet (tCallR (sp_period_of K) E0 (tCons (tFld K (tVar 0) "parts") tNil)))
abbrev N_Offer_period : List Str := ["self"]
theorem st_Offer_period {x0 : V} : start N_Offer_period [x0] = [some x0] := rfl
def t_Offer_steady_from (K : PySem.W.Frag) : TS := (tRet (tCallR (sp_steady_begin K) E0 (tCons (tFld K (tVar 0) "parts") tNil)))
abbrev N_Offer_steady_from : List Str := ["self"]
theorem st_Offer_steady_from {x0 : V} : start N_Offer_steady_from [x0] = [some x0] := rfl
def t_Offer_trades (K : PySem.W.Frag) : TS := (tRet (tFld K (tVar 0) "parts"))
abbrev N_Offer_trades : List Str := ["self"]
theorem st_Offer_trades {x0 : V} : start N_Offer_trades [x0] = [some x0] := rfl
def t_Offer_kinds (K : PySem.W.Frag) : TS := (tRet (tCB (rTupO K) (tCons (tLc (iTup K (tFld K (tVar 0) "parts")) (gTup K 3 (gCons (gName 1) (gCons (gName 2) (gCons (gName 3) gNil)))) tYes (tVar 1) [1, 2, 3]) tNil)))
abbrev N_Offer_kinds : List Str := ["self", "kind", "left", "needed"]
theorem st_Offer_kinds {x0 : V} : start N_Offer_kinds [x0] = [some x0, none, none, none] := rfl
def t_Offer_bool (K : PySem.W.Frag) : TS := (tRet (tCB (rAny K) (tCons (tLc (iTup K (tFld K (tVar 0) "parts")) (gTup K 3 (gCons (gName 1) (gCons (gName 2) (gCons (gName 3) gNil)))) tYes (tOp rGtI (tVar 2) (tC (.int 0))) [1, 2, 3]) tNil)))
abbrev N_Offer_bool : List Str := ["self", "kind", "left", "needed"]
theorem st_Offer_bool {x0 : V} : start N_Offer_bool [x0] = [some x0, none, none, none] := rfl
def tx_Offer_getitem (K : PySem.W.Frag) (E : XK) : TS := (tSeq (tFor (iTup K (tFld K (tVar 0) "parts")) (gTup K 3 (gCons (gName 2) (gCons (gName 3) (gCons (gName 4) gNil)))) (tIfS (tTest (tOp rEq (tVar 2) (tVar 1))) (tRet (tTup (clA (tCons (tVar 3) (tCons (tVar 4) tNil))))) tNext))
    (tRs (tMkT (He.ga K "UnknownKind")) E))
abbrev N_Offer_getitem : List Str := ["self", "kind", "name", "left", "needed"]
theorem st_Offer_getitem {x0 x1 : V} : start N_Offer_getitem [x0, x1] = [some x0, some x1, none, none, none] := rfl
def t_Offer_contains (K : PySem.W.Frag) : TS := (tRet (tOp rEq (tCallR (sp_total K) E0 (tCons (tFld K (tVar 0) "parts") (tCons (tCallR (sp_fewest K) E0 (tCons (tFld K (tVar 0) "parts") (tCons (tVar 1) tNil))) tNil))) (tVar 1)))
abbrev N_Offer_contains : List Str := ["self", "drinks"]
theorem st_Offer_contains {x0 x1 : V} : start N_Offer_contains [x0, x1] = [some x0, some x1] := rfl
def t_Offer_le (K : PySem.W.Frag) : TS := (tRet (tCallR (sp_is_never_more K) E0 (tCons (tFld K (tVar 0) "parts") (tCons (tFld K (tVar 1) "parts") tNil))))
abbrev N_Offer_le : List Str := ["self", "other"]
theorem st_Offer_le {x0 x1 : V} : start N_Offer_le [x0, x1] = [some x0, some x1] := rfl
def t_Offer_lt (K : PySem.W.Frag) : TS := (tRet (tAndV (tCallR (sp_is_never_more K) E0 (tCons (tFld K (tVar 0) "parts") (tCons (tFld K (tVar 1) "parts") tNil))) (tOp rNotN (tCallR (sp_first_gap K) E0 (tCons (tFld K (tVar 0) "parts") (tCons (tFld K (tVar 1) "parts") tNil))) (tC .non))))
abbrev N_Offer_lt : List Str := ["self", "other"]
theorem st_Offer_lt {x0 x1 : V} : start N_Offer_lt [x0, x1] = [some x0, some x1] := rfl
def t_Offer_trades_made (K : PySem.W.Frag) : TS := (tSeq (tAsg (tCO (He.ga K "Offer") (sp_Offer_call K) E0 (tVar 0) (tCons (tVar 1) tNil)) (gName 2))
    (tRet (tDc (iTup K (tFld K (tVar 0) "parts")) (gTup K 3 (gCons (gName 3) (gCons (gName 4) (gCons (gName 5) gNil)))) tYes (tVar 3) (tOp rFdI (tOp rMulI (tVar 4) (tVar 2)) (tVar 5)) [3, 4, 5])))
abbrev N_Offer_trades_made : List Str := ["self", "bottles", "drinks", "kind", "left", "needed"]
theorem st_Offer_trades_made {x0 x1 : V} : start N_Offer_trades_made [x0, x1] = [some x0, some x1, none, none, none, none] := rfl
def t_Offer_left_over (K : PySem.W.Frag) : TS := (tSeq (tAsg (tCO (He.ga K "Offer") (sp_Offer_call K) E0 (tVar 0) (tCons (tVar 1) tNil)) (gName 2))
    (tRet (tDc (iTup K (tFld K (tVar 0) "parts")) (gTup K 3 (gCons (gName 3) (gCons (gName 4) (gCons (gName 5) gNil)))) tYes (tVar 3) (tOp rModI (tCB (rInt) (tCons (tOp rMulI (tVar 4) (tVar 2)) tNil)) (tVar 5)) [3, 4, 5])))
abbrev N_Offer_left_over : List Str := ["self", "bottles", "drinks", "kind", "left", "needed"]
theorem st_Offer_left_over {x0 x1 : V} : start N_Offer_left_over [x0, x1] = [some x0, some x1, none, none, none, none] := rfl
def t_Offer_rounds (K : PySem.W.Frag) : TGn := (tGThen (tPlain (tDrop (tCallR (sp_validate_number K) E0 (tCons (tVar 1) (tCons (tC (.int 0)) (tCons (tC (.int (1000000000000000000))) tNil))))))
    (tGThen (tPlain (tPar 2 3 (tCons (tC (.int 0)) (tCons (tVar 1) tNil))))
    (tGThen (tGWhile (tTest (tOp rGtI (tVar 3) (tC (.int 0)))) (tGThen (tGYield (tVar 3))
    (tGThen (tPlain (tPar 4 2 (tCons (tCallR (sp_bought K) E0 (tCons (tFld K (tVar 0) "parts") (tCons (tVar 2) tNil))) (tCons (tOp rAddI (tVar 2) (tVar 3)) tNil))))
    (tGThen (tPlain (tAsg (tOp rSubI (tCallR (sp_bought K) E0 (tCons (tFld K (tVar 0) "parts") (tCons (tVar 2) tNil))) (tVar 4)) (gName 3)))
    tG0))))
    tG0)))
abbrev N_Offer_rounds : List Str := ["self", "bottles", "drinks", "full", "before"]
theorem st_Offer_rounds {x0 x1 : V} : start N_Offer_rounds [x0, x1] = [some x0, some x1, none, none, none] := rfl
def t_Offer_credit (K : PySem.W.Frag) : TS := (tSeq (tDrop (tCallR (sp_validate_number K) E0 (tCons (tVar 1) (tCons (tC (.int 0)) (tCons (tC (.int (1000000000000000000))) tNil)))))
    (tRet (tCallR (sp_with_credit K) E0 (tCons (tFld K (tVar 0) "parts") (tCons (tVar 1) tNil)))))
abbrev N_Offer_credit : List Str := ["self", "bottles"]
theorem st_Offer_credit {x0 x1 : V} : start N_Offer_credit [x0, x1] = [some x0, some x1] := rfl
def t_Offer_fewest_bottles (K : PySem.W.Frag) : TS := (tSeq (tDrop (tCallR (sp_validate_number K) E0 (tCons (tVar 1) (tCons (tC (.int 0)) (tCons (tC (.int (1000000000000000000))) tNil)))))
    (tRet (tCallR (sp_fewest K) E0 (tCons (tFld K (tVar 0) "parts") (tCons (tVar 1) tNil)))))
abbrev N_Offer_fewest_bottles : List Str := ["self", "drinks"]
theorem st_Offer_fewest_bottles {x0 x1 : V} : start N_Offer_fewest_bottles [x0, x1] = [some x0, some x1] := rfl
def t_Offer_missing (K : PySem.W.Frag) : TGn := (tGThen (tPlain (tDrop (tCallR (sp_validate_number K) E0 (tCons (tVar 1) (tCons (tC (.int 0)) (tCons (tC (.int (1000000000000000000))) tNil))))))
    (tGThen (tPlain (tAsg (tOp rSubI (tOp rAddI (tVar 1) (tC (.int (10000)))) (tC (.int 1))) (gName 3)))
    (tGThen (tPlain (tDrop (tCallR (sp_validate_number K) E0 (tCons (tVar 2) (tCons (tVar 1) (tCons (tIf (tTest (tOp rLtI (tVar 3) (tC (.int (1000000000000000000))))) (tVar 3) (tC (.int (1000000000000000000)))) tNil))))))
    (tGThen (tPlain (tAsg (tCallR (sp_fewest K) E0 (tCons (tFld K (tVar 0) "parts") (tCons (tVar 1) tNil))) (gName 4)))
    (tGThen (tGFor (iRng2 (tCons (tVar 1) (tCons (tOp rAddI (tVar 2) (tC (.int 1))) tNil))) (gName 5) (tGThen (tGIf (tTest (tOp rEq (tCallR (sp_total K) E0 (tCons (tFld K (tVar 0) "parts") (tCons (tVar 4) tNil))) (tVar 5))) (tGThen (tPlain (tAug 4 (tC (.int 1)) (ipI fun i j => i + j)))
    tG0) (tGThen (tGYield (tVar 5))
    tG0))
    tG0))
    tG0)))))
abbrev N_Offer_missing : List Str := ["self", "first", "last", "reach", "bottles", "drinks"]
theorem st_Offer_missing {x0 x1 x2 : V} : start N_Offer_missing [x0, x1, x2] = [some x0, some x1, some x2, none, none, none] := rfl
def t_Offer_count_up_to (K : PySem.W.Frag) : TS := (tRet (tOp rSubI (tOp rAddI (tVar 1) (tC (.int 1))) (tCallR (sp_fewest K) E0 (tCons (tFld K (tVar 0) "parts") (tCons (tOp rAddI (tVar 1) (tC (.int 1))) tNil)))))
abbrev N_Offer_count_up_to : List Str := ["self", "last"]
theorem st_Offer_count_up_to {x0 x1 : V} : start N_Offer_count_up_to [x0, x1] = [some x0, some x1] := rfl
def t_Offer_count_missing (K : PySem.W.Frag) : TS := (tSeq (tDrop (tCallR (sp_validate_number K) E0 (tCons (tVar 1) (tCons (tC (.int 0)) (tCons (tC (.int (1000000000000000000))) tNil)))))
    (tRet (tMethR (He.ga K "Offer") "count_up_to" (sp_Offer_count_up_to K) E0 (tVar 0) (tCons (tVar 1) tNil))))
abbrev N_Offer_count_missing : List Str := ["self", "last"]
theorem st_Offer_count_missing {x0 x1 : V} : start N_Offer_count_missing [x0, x1] = [some x0, some x1] := rfl
def t_Offer_nth_missing (K : PySem.W.Frag) : TS := (tSeq (tDrop (tCallR (sp_validate_number K) E0 (tCons (tVar 1) (tCons (tC (.int 1)) (tCons (tC (.int (1000000000000000000))) tNil)))))
    (tSeq (tIfS (tNot (tTruO (He.ga K "Offer") (sp_Offer_bool K) E0 (tVar 0))) (tRet (tC .non)) tNext)
    (tSeq (tAsg (tC (.int 1)) (gName 2))
    (tSeq (tWhile (tTest (tOp rLtI (tMethR (He.ga K "Offer") "count_up_to" (sp_Offer_count_up_to K) E0 (tVar 0) (tCons (tVar 2) tNil)) (tVar 1))) (tAug 2 (tC (.int 2)) ipM))
    (tSeq (tAsg (tC (.int 0)) (gName 3))
    (tSeq (tWhile (tTest (tOp rLtI (tVar 3) (tVar 2))) (tSeq (tAsg (tOp rFdI (tOp rAddI (tVar 3) (tVar 2)) (tC (.int 2))) (gName 4))
    (tIfS (tTest (tOp rGeI (tMethR (He.ga K "Offer") "count_up_to" (sp_Offer_count_up_to K) E0 (tVar 0) (tCons (tVar 4) tNil)) (tVar 1))) (tAsg (tVar 4) (gName 2)) (tAsg (tOp rAddI (tVar 4) (tC (.int 1))) (gName 3)))))
    (tRet (tVar 3))))))))
abbrev N_Offer_nth_missing : List Str := ["self", "number", "high", "low", "middle"]
theorem st_Offer_nth_missing {x0 x1 : V} : start N_Offer_nth_missing [x0, x1] = [some x0, some x1, none, none, none] := rfl
def t_Offer_pooled (K : PySem.W.Frag) : TS := (tSeq (tFor (iTup K (tVar 1)) (gName 2) (tDrop (tCallR (sp_validate_number K) E0 (tCons (tVar 2) (tCons (tC (.int 0)) (tCons (tC (.int (1000000000000000000))) tNil))))))
    (tRet (tOp rSubI (tCO (He.ga K "Offer") (sp_Offer_call K) E0 (tVar 0) (tCons (tCB (rSumT K) (tCons (tVar 1) tNil)) tNil)) (tCB (rSum K) (tCons (tLc (iTup K (tVar 1)) (gName 2) tYes (tCO (He.ga K "Offer") (sp_Offer_call K) E0 (tVar 0) (tCons (tVar 2) tNil)) [2]) tNil)))))
abbrev N_Offer_pooled : List Str := ["self", "counts", "count"]
theorem st_Offer_pooled {x0 x1 : V} : start N_Offer_pooled [x0, x1] = [some x0, some x1, none] := rfl
def t_BottleObserver_init (K : PySem.W.Frag) : TS := (tSeq (sFld K (tVar 0) (tVar 1) "offer")
    (tSeq (sFld K (tVar 0) (tCallR (sp_steady_begin K) E0 (tCons (tProp (He.ga K "Offer") (sp_Offer_trades K) [] E0 (tVar 1)) tNil)) "begin")
    (tSeq (sFld K (tVar 0) (tCallR (sp_common_multiple K) E0 (tCons (tOp (rIxT K) (tCallR (sp_period_of K) E0 (tCons (tProp (He.ga K "Offer") (sp_Offer_trades K) [] E0 (tVar 1)) tNil)) (tC (.int 0))) (tCons (tOp rMulI (tC (.int 2)) (tCallR (sp_needed_multiple K) E0 (tCons (tProp (He.ga K "Offer") (sp_Offer_trades K) [] E0 (tVar 1)) tNil))) tNil))) "turn")
    (tSeq (sFld K (tVar 0) (tLstRg (tRg1 (tFld K (tVar 0) "begin"))) "early")
    (tSeq (sFld K (tVar 0) (tLstRg (tRg1 (tFld K (tVar 0) "turn"))) "places")
    (sFld K (tVar 0) (tLst (clA tNil)) "noted"))))))
abbrev N_BottleObserver_init : List Str := ["self", "offer"]
theorem st_BottleObserver_init {x0 x1 : V} : start N_BottleObserver_init [x0, x1] = [some x0, some x1] := rfl
def t_BottleObserver_records (K : PySem.W.Frag) : TS := (tRet (tCB (rListO K) (tCons (tFld K (tVar 0) "noted") tNil)))
abbrev N_BottleObserver_records : List Str := ["self"]
theorem st_BottleObserver_records {x0 : V} : start N_BottleObserver_records [x0] = [some x0] := rfl
def t_BottleObserver_count_in (K : PySem.W.Frag) : TS := (tSeq (tAsg (tCB (rLen K) (tCons (tLc (iList K (tVar 1)) (gName 7) (tTest (tOp rLeI (tVar 7) (tVar 3))) (tVar 7) [7]) tNil)) (gName 4))
    (tSeq (tIfS (tTest (tOp rLtI (tVar 3) (tFld K (tVar 0) "begin"))) (tRet (tVar 4)) tNext)
    (tSeq (tAsg (tOp rModI (tCB (rInt) (tCons (tOp rSubI (tVar 3) (tFld K (tVar 0) "begin")) tNil)) (tFld K (tVar 0) "turn")) (gName 5))
    (tSeq (tAsg (tOp rFdI (tOp rSubI (tVar 3) (tFld K (tVar 0) "begin")) (tFld K (tVar 0) "turn")) (gName 6))
    (tRet (tOp rAddI (tOp rAddI (tVar 4) (tOp rMulI (tVar 6) (tCB (rLen K) (tCons (tVar 2) tNil)))) (tCB (rLen K) (tCons (tLc (iList K (tVar 2)) (gName 8) (tTest (tOp rLeI (tVar 8) (tVar 5))) (tVar 8) [8]) tNil))))))))
abbrev N_BottleObserver_count_in : List Str := ["self", "early", "places", "last", "count", "rest", "whole", "number", "place"]
theorem st_BottleObserver_count_in {x0 x1 x2 x3 : V} : start N_BottleObserver_count_in [x0, x1, x2, x3] = [some x0, some x1, some x2, some x3, none, none, none, none, none] := rfl
def tx_BottleObserver_note (K : PySem.W.Frag) (E : XK) : TS := (tSeq (tAsg (tMethR (He.ga K "BottleObserver") "count_in" (sp_BottleObserver_count_in K) E0 (tVar 0) (tCons (tVar 2) (tCons (tVar 3) (tCons (tC (.int (1000000000000000000))) tNil)))) (gName 4))
    (tSeq (tIfS (tTest (tOp rEq (tVar 4) (tC (.int 0)))) (tRs (tMkT (He.ga K "Contradiction")) E) tNext)
    (tSeq (sFld K (tVar 0) (tVar 2) "early")
    (tSeq (sFld K (tVar 0) (tVar 3) "places")
    (tSeq (sFld K (tVar 0) (tOp rCat (tFld K (tVar 0) "noted") (tLst (clA (tCons (tVar 1) tNil)))) "noted")
    (tRet (tVar 4)))))))
abbrev N_BottleObserver_note : List Str := ["self", "record", "early", "places", "count"]
theorem st_BottleObserver_note {x0 x1 x2 x3 : V} : start N_BottleObserver_note [x0, x1, x2, x3] = [some x0, some x1, some x2, some x3, none] := rfl
def tx_BottleObserver_see_left (K : PySem.W.Frag) (E : XK) : TS := (tSeq (tIfS (tTest (tOp (rIn K true) (tVar 1) (tProp (He.ga K "Offer") (sp_Offer_kinds K) [] E0 (tFld K (tVar 0) "offer")))) (tRs (tMkT (He.ga K "UnknownKind")) E) tNext)
    (tSeq (tAsg (tOp (rIxO (He.ga K "Offer") (spx_Offer_getitem K) E) (tFld K (tVar 0) "offer") (tVar 1)) (gTup K 2 (gCons (gName 3) (gCons (gName 4) gNil))))
    (tSeq (tAsg (tProp (He.ga K "Offer") (sp_Offer_trades K) [] E0 (tFld K (tVar 0) "offer")) (gName 5))
    (tSeq (tAsg (tLc (iList K (tFld K (tVar 0) "early")) (gName 8) (tTest (tOp rEq (tOp rModI (tCB (rInt) (tCons (tOp rMulI (tVar 3) (tCallR (sp_total K) E0 (tCons (tVar 5) (tCons (tVar 8) tNil)))) tNil)) (tVar 4)) (tVar 2))) (tVar 8) [8]) (gName 6))
    (tSeq (tAsg (tLc (iList K (tFld K (tVar 0) "places")) (gName 8) (tTest (tOp rEq (tOp rModI (tCB (rInt) (tCons (tOp rMulI (tVar 3) (tCallR (sp_total K) E0 (tCons (tVar 5) (tCons (tOp rAddI (tFld K (tVar 0) "begin") (tVar 8)) tNil)))) tNil)) (tVar 4)) (tVar 2))) (tVar 8) [8]) (gName 7))
    (tRet (tMethR (He.ga K "BottleObserver") "note" (spx_BottleObserver_note K) E (tVar 0) (tCons (tTup (clA (tCons (tC (.str "left")) (tCons (tVar 1) (tCons (tVar 2) tNil))))) (tCons (tVar 6) (tCons (tVar 7) tNil))))))))))
abbrev N_BottleObserver_see_left : List Str := ["self", "kind", "count", "left", "needed", "trades", "early", "places", "one"]
theorem st_BottleObserver_see_left {x0 x1 x2 : V} : start N_BottleObserver_see_left [x0, x1, x2] = [some x0, some x1, some x2, none, none, none, none, none, none] := rfl
def t_BottleObserver_nth_possible (K : PySem.W.Frag) : TS := (tSeq (tDrop (tCallR (sp_validate_number K) E0 (tCons (tVar 1) (tCons (tC (.int 1)) (tCons (tOp rAddI (tC (.int (1000000000000000000))) (tC (.int 1))) tNil)))))
    (tSeq (tIfS (tTest (tOp rLeI (tVar 1) (tCB (rLen K) (tCons (tFld K (tVar 0) "early") tNil)))) (tRet (tOp (rIxL K) (tFld K (tVar 0) "early") (tOp rSubI (tVar 1) (tC (.int 1))))) tNext)
    (tSeq (tAsg (tOp rSubI (tOp rSubI (tVar 1) (tCB (rLen K) (tCons (tFld K (tVar 0) "early") tNil))) (tC (.int 1))) (gName 2))
    (tSeq (tIfS (tTest (tOp (rEqD K) (tFld K (tVar 0) "places") (tLst (clA tNil)))) (tRet (tC .non)) tNext)
    (tSeq (tAsg (tOp rAddI (tOp rAddI (tFld K (tVar 0) "begin") (tOp rMulI (tOp rFdI (tVar 2) (tCB (rLen K) (tCons (tFld K (tVar 0) "places") tNil))) (tFld K (tVar 0) "turn"))) (tOp (rIxL K) (tFld K (tVar 0) "places") (tOp rModI (tCB (rInt) (tCons (tVar 2) tNil)) (tCB (rLen K) (tCons (tFld K (tVar 0) "places") tNil))))) (gName 3))
    (tRet (tIf (tTest (tOp rLeI (tVar 3) (tC (.int (1000000000000000000))))) (tVar 3) (tC .non))))))))
abbrev N_BottleObserver_nth_possible : List Str := ["self", "number", "place", "found"]
theorem st_BottleObserver_nth_possible {x0 x1 : V} : start N_BottleObserver_nth_possible [x0, x1] = [some x0, some x1, none, none] := rfl
abbrev N_InvalidStep_init : List Str := ["self", "index"]
theorem st_InvalidStep_init {x0 x1 : V} : start N_InvalidStep_init [x0, x1] = [some x0, some x1] := rfl
def t_Table_init (K : PySem.W.Frag) : TS := (tSeq (sFld K (tVar 0) (tVar 1) "offer")
    (tSeq (sFld K (tVar 0) (tC (.int 0)) "drunk")
    (tSeq (sFld K (tVar 0) (tVar 2) "full")
    (sFld K (tVar 0) (tDc (iTup K (tProp (He.ga K "Offer") (sp_Offer_kinds K) [] E0 (tVar 1))) (gName 3) tYes (tVar 3) (tC (.int 0)) [3]) "pieces"))))
abbrev N_Table_init : List Str := ["self", "offer", "bottles", "kind"]
theorem st_Table_init {x0 x1 x2 : V} : start N_Table_init [x0, x1, x2] = [some x0, some x1, some x2, none] := rfl
def t_Table_can_drink (K : PySem.W.Frag) : TS := (tSeq (tIfS (tTest (tOp rGtI (tVar 1) (tFld K (tVar 0) "full"))) (tRet (tC (.bl false))) tNext)
    (tSeq (sFldAug K (tVar 0) (tVar 1) L2.rSub "full")
    (tSeq (sFldAug K (tVar 0) (tVar 1) L2.rAdd "drunk")
    (tSeq (tFor (iTup K (tProp (He.ga K "Offer") (sp_Offer_trades K) [] E0 (tFld K (tVar 0) "offer"))) (gTup K 3 (gCons (gName 2) (gCons (gName 3) (gCons (gName 4) gNil)))) (sDAug (tFld K (tVar 0) "pieces") (tVar 2) (tOp rMulI (tVar 3) (tVar 1)) L2.rAdd))
    (tRet (tC (.bl true)))))))
abbrev N_Table_can_drink : List Str := ["self", "count", "kind", "left", "needed"]
theorem st_Table_can_drink {x0 x1 : V} : start N_Table_can_drink [x0, x1] = [some x0, some x1, none, none, none] := rfl
def t_Table_can_trade (K : PySem.W.Frag) : TS := (tSeq (tIfS (tOr (tB (tDNotIn (tVar 1) (tFld K (tVar 0) "pieces"))) (tTest (tOp rGtI (tOp rMulI (tOp (rIxT K) (tOp (rIxO (He.ga K "Offer") (spx_Offer_getitem K) E0) (tFld K (tVar 0) "offer") (tVar 1)) (tC (.int 1))) (tVar 2)) (tDGet (tFld K (tVar 0) "pieces") (tVar 1))))) (tRet (tC (.bl false))) tNext)
    (tSeq (sDAug (tFld K (tVar 0) "pieces") (tVar 1) (tOp rMulI (tOp (rIxT K) (tOp (rIxO (He.ga K "Offer") (spx_Offer_getitem K) E0) (tFld K (tVar 0) "offer") (tVar 1)) (tC (.int 1))) (tVar 2)) L2.rSub)
    (tSeq (sFldAug K (tVar 0) (tVar 2) L2.rAdd "full")
    (tRet (tC (.bl true))))))
abbrev N_Table_can_trade : List Str := ["self", "kind", "count"]
theorem st_Table_can_trade {x0 x1 x2 : V} : start N_Table_can_trade [x0, x1, x2] = [some x0, some x1, some x2] := rfl
def tx_play (K : PySem.W.Frag) (E : XK) : TS := (tSeq (tDrop (tCallR (spx_validate_number K) E (tCons (tVar 1) (tCons (tC (.int 0)) (tCons (tC (.int (1000000000000000000))) tNil)))))
    (tSeq (tAsg (tMakeR (He.ga K "Table") (sp_Table_init K) E0 (clA (tCons (tVar 0) (tCons (tVar 1) tNil)))) (gName 3))
    (tSeq (tFor (iEnum K (tCons (tVar 2) tNil)) (gTup K 2 (gCons (gName 4) (gCons (gTup K 2 (gCons (gName 5) (gCons (gName 6) gNil))) gNil))) (tSeq (tIfS (tNot (tTest (tChain rLeI rLeI (tC (.int 0)) (tVar 6) (tC (.int (1000000000000000000)))))) (tRs (tMkF K (He.ga K "InvalidStep") "index" (tVar 4)) E) tNext)
    (tSeq (tAsg (tIf (tTest (tOp rEq (tVar 5) (tC (.str "drink")))) (tMethR (He.ga K "Table") "can_drink" (sp_Table_can_drink K) E0 (tVar 3) (tCons (tVar 6) tNil)) (tMethR (He.ga K "Table") "can_trade" (sp_Table_can_trade K) E0 (tVar 3) (tCons (tVar 5) (tCons (tVar 6) tNil)))) (gName 7))
    (tIfS (tNot (tB (tVar 7))) (tRs (tMkF K (He.ga K "InvalidStep") "index" (tVar 4)) E) tNext))))
    (tRet (tTup (clA (tCons (tFld K (tVar 3) "drunk") (tCons (tFld K (tVar 3) "full") (tCons (tFld K (tVar 3) "pieces") tNil)))))))))
abbrev N_play : List Str := ["offer", "bottles", "steps", "table", "index", "word", "count", "is_done"]
theorem st_play {x0 x1 x2 : V} : start N_play [x0, x1, x2] = [some x0, some x1, some x2, none, none, none, none, none] := rfl
def tx_greedy_steps (K : PySem.W.Frag) (E : XK) : TS := (tSeq (tDrop (tCallR (spx_validate_number K) E (tCons (tVar 1) (tCons (tC (.int 0)) (tCons (tC (.int (1000000000000000000))) tNil)))))
    (tSeq (tPar 2 3 (tCons (tMakeR (He.ga K "Table") (sp_Table_init K) E0 (clA (tCons (tVar 0) (tCons (tVar 1) tNil)))) (tCons (tLst (clA tNil)) tNil)))
    (tSeq (tWhile (tTest (tOp rGtI (tFld K (tVar 2) "full") (tC (.int 0)))) (tSeq (tAsg (tFld K (tVar 2) "full") (gName 4))
    (tSeq (tIfS (tB (tMethR (He.ga K "Table") "can_drink" (sp_Table_can_drink K) E0 (tVar 2) (tCons (tVar 4) tNil))) (tDrop (tBM K "list" rAppend (tVar 3) (tCons (tTup (clA (tCons (tC (.str "drink")) (tCons (tVar 4) tNil)))) tNil))) tNext)
    (tFor (iTup K (tProp (He.ga K "Offer") (sp_Offer_trades K) [] E0 (tVar 0))) (gTup K 3 (gCons (gName 5) (gCons (gName 6) (gCons (gName 7) gNil)))) (tSeq (tAsg (tOp rFdI (tDGet (tFld K (tVar 2) "pieces") (tVar 5)) (tVar 7)) (gName 4))
    (tIfS (tAnd (tTest (tOp rGtI (tVar 4) (tC (.int 0)))) (tB (tMethR (He.ga K "Table") "can_trade" (sp_Table_can_trade K) E0 (tVar 2) (tCons (tVar 5) (tCons (tVar 4) tNil))))) (tDrop (tBM K "list" rAppend (tVar 3) (tCons (tTup (clA (tCons (tVar 5) (tCons (tVar 4) tNil)))) tNil))) tNext))))))
    (tRet (tVar 3)))))
abbrev N_greedy_steps : List Str := ["offer", "bottles", "table", "steps", "count", "kind", "left", "needed"]
theorem st_greedy_steps {x0 x1 : V} : start N_greedy_steps [x0, x1] = [some x0, some x1, none, none, none, none, none, none] := rfl
def t__law_mix (K : PySem.W.Frag) : TS := (tSeq (tAsg (tVar 1) (gName 2))
    (tSeq (tFor (iList K (tVar 0)) (gName 3) (tAsg (tOp rModI (tOp rAddI (tOp rAddI (tOp rMulI (tVar 2) (tC (.int 48271))) (tOp rModI (tVar 3) (tC (.int 2147483629)))) (tC (.int 1))) (tC (.int 2147483647))) (gName 2)))
    (tRet (tLst (clA (tCons (tVar 2) (tCons (tCB (rListO K) (tCons (tVar 0) tNil)) (tCons (tC (.int 0)) tNil))))))))
abbrev N__law_mix : List Str := ["_law_script", "_law_seed", "_law_mixed", "_law_cell"]
theorem st__law_mix {x0 x1 : V} : start N__law_mix [x0, x1] = [some x0, some x1, none, none] := rfl
def t__law_next (K : PySem.W.Frag) : TS := (tSeq (tAsg (tOp (rIxL K) (tOp rCat (tOp (rIxL K) (tVar 0) (tC (.int 1))) (tLst (clA (tCons (tC (.int 0)) tNil)))) (tOp rModI (tOp (rIxL K) (tVar 0) (tC (.int 2))) (tCB (rMx2) (tCons (tC (.int 1)) (tCons (tCB (rLen K) (tCons (tOp (rIxL K) (tVar 0) (tC (.int 1))) tNil)) tNil))))) (gName 2))
    (tSeq (tIfS (tTest (tOp rGeI (tVar 2) (tOp rPowI (tC (.int 10)) (tC (.int 18))))) (tSeq (tAsg (tOp rFdW (tVar 2) (tVar 1)) (gSub (tOp (rIxL K) (tVar 0) (tC (.int 1))) (tOp rModI (tOp (rIxL K) (tVar 0) (tC (.int 2))) (tCB (rLen K) (tCons (tOp (rIxL K) (tVar 0) (tC (.int 1))) tNil))) rSetL))
    (tRet (tOp rModI (tVar 2) (tVar 1)))) tNext)
    (tSeq (tAsg (tOp rModI (tOp rAddI (tOp rAddI (tOp rMulI (tOp (rIxL K) (tVar 0) (tC (.int 0))) (tC (.int 48271))) (tOp rMulI (tVar 2) (tC (.int 69621)))) (tC (.int 11))) (tC (.int 2147483647))) (gSub (tVar 0) (tC (.int 0)) rSetL))
    (tSeq (tAsg (tOp rAddI (tOp (rIxL K) (tVar 0) (tC (.int 2))) (tC (.int 1))) (gSub (tVar 0) (tC (.int 2)) rSetL))
    (tRet (tOp rModI (tOp rFdI (tOp (rIxL K) (tVar 0) (tC (.int 0))) (tC (.int 7))) (tVar 1)))))))
abbrev N__law_next : List Str := ["_law_h", "_law_limit", "_law_cell"]
theorem st__law_next {x0 x1 : V} : start N__law_next [x0, x1] = [some x0, some x1, none] := rfl
def t__law_alike (K : PySem.W.Frag) (sr : Sp) : TS := (tSeq (tIfS (tB (tCB (rIsi K) (tCons (tVar 1) (tCons (tC (.ty "dict")) tNil)))) (tRet (tAndV (tCB (rIsi K) (tCons (tVar 0) (tCons (tC (.ty "dict")) tNil))) (tAndV (tCallR sr E0 (tCons (tCB (rListD) (tCons (tVar 0) tNil)) (tCons (tCB (rListD) (tCons (tVar 1) tNil)) tNil))) (tOp (rEqX K) (tVar 0) (tVar 1))))) tNext)
    (tSeq (tIfS (tB (tCB (rIsiT K) (tCons (tVar 1) (tCons (tTup (clA (tCons (tC (.ty "tuple")) (tCons (tC (.ty "list")) tNil)))) tNil)))) (tSeq (tIfS (tOr (tNot (tB (tCB (rIsiT K) (tCons (tVar 0) (tCons (tTup (clA (tCons (tC (.ty "tuple")) (tCons (tC (.ty "list")) tNil)))) tNil))))) (tTest (tOp rNe (tCB (rIsi K) (tCons (tVar 0) (tCons (tC (.ty "list")) tNil))) (tCB (rIsi K) (tCons (tVar 1) (tCons (tC (.ty "list")) tNil)))))) (tRet (tC (.bl false))) tNext)
    (tSeq (tIfS (tTest (tOp rNe (tCB (rLen K) (tCons (tVar 0) tNil)) (tCB (rLen K) (tCons (tVar 1) tNil)))) (tRet (tC (.bl false))) tNext)
    (tRet (tOp (rEqD K) (tLc (iRng1 (tCons (tCB (rLen K) (tCons (tVar 1) tNil)) tNil)) (gName 2) (tNot (tB (tCallR sr E0 (tCons (tOp (rIxA K) (tVar 0) (tVar 2)) (tCons (tOp (rIxA K) (tVar 1) (tVar 2)) tNil))))) (tVar 2) [2]) (tLst (clA tNil)))))) tNext)
    (tSeq (tIfS (tOr (tTest (tOp rIsN (tVar 1) (tC .non))) (tB (tCB (rIsi K) (tCons (tVar 1) (tCons (tC (.ty "str")) tNil))))) (tRet (tAndV (tOp (rEqX K) (tVar 0) (tVar 1)) (tOp rEq (tCB (rIsi K) (tCons (tVar 0) (tCons (tC (.ty "str")) tNil))) (tCB (rIsi K) (tCons (tVar 1) (tCons (tC (.ty "str")) tNil)))))) tNext)
    (tRet (tAndV (tCB (rIsi K) (tCons (tVar 0) (tCons (tC (.ty "int")) tNil))) (tAndV (tOp rEq (tCB (rIsi K) (tCons (tVar 0) (tCons (tC (.ty "bool")) tNil))) (tCB (rIsi K) (tCons (tVar 1) (tCons (tC (.ty "bool")) tNil)))) (tOp (rEqX K) (tVar 0) (tVar 1))))))))
abbrev N__law_alike : List Str := ["_law_found", "_law_due", "_law_k"]
theorem st__law_alike {x0 x1 : V} : start N__law_alike [x0, x1] = [some x0, some x1, none] := rfl
def t__law_trades (K : PySem.W.Frag) : TS := (tSeq (tPar 3 4 (tCons (tLst (clA tNil)) (tCons (tC (.int 0)) tNil)))
    (tSeq (tFor (iList K (tSl (rSlL K) (tLst (clA (tCons (tC (.str "empty")) (tCons (tC (.str "cap")) (tCons (tC (.str "label")) tNil))))) tNoPart (tPart (tOp rAddI (tC (.int 1)) (tCallR (sp__law_next K) E0 (tCons (tVar 0) (tCons (tVar 1) tNil))))))) (gName 5) (tSeq (tAsg (tOp rAddI (tC (.int 1)) (tCallR (sp__law_next K) E0 (tCons (tVar 0) (tCons (tVar 2) tNil)))) (gName 6))
    (tSeq (tAsg (tCallR (sp__law_next K) E0 (tCons (tVar 0) (tCons (tOp rAddI (tVar 6) (tC (.int 1))) tNil))) (gName 7))
    (tSeq (tWhile (tTest (tOp rGtI (tOp rMulI (tC (.int 10)) (tOp rAddI (tOp rMulI (tVar 4) (tVar 6)) (tOp rMulI (tVar 7) (tC (.int 27720))))) (tOp rMulI (tOp rMulI (tC (.int 9)) (tC (.int 27720))) (tVar 6)))) (tAsg (tOp rSubI (tVar 7) (tC (.int 1))) (gName 7)))
    (tSeq (tAsg (tOp rAddI (tVar 4) (tOp rFdI (tOp rMulI (tVar 7) (tC (.int 27720))) (tVar 6))) (gName 4))
    (tDrop (tBM K "list" rAppend (tVar 3) (tCons (tTup (clA (tCons (tVar 5) (tCons (tVar 7) (tCons (tVar 6) tNil))))) tNil))))))))
    (tRet (tCB (rTupO K) (tCons (tVar 3) tNil)))))
abbrev N__law_trades : List Str := ["_law_h", "_law_most", "_law_largest", "_law_found", "_law_worth", "_law_kind", "_law_needed", "_law_left"]
theorem st__law_trades {x0 x1 x2 : V} : start N__law_trades [x0, x1, x2] = [some x0, some x1, some x2, none, none, none, none, none] := rfl
def t__law_offer (K : PySem.W.Frag) : TS := (tSeq (tIfS (tTest (tOp rEq (tCB (rLen K) (tCons (tVar 0) tNil)) (tC (.int 1)))) (tRet (tMakeR (He.ga K "Offer") (sp_Offer_init K) E0 (clA (tCons (tOp (rIxT K) (tVar 0) (tC (.int 0))) tNil)))) tNext)
    (tRet (tIf (tTest (tOp rEq (tCB (rLen K) (tCons (tVar 0) tNil)) (tC (.int 2)))) (tMakeR (He.ga K "Offer") (sp_Offer_init K) E0 (clA (tCons (tOp (rIxT K) (tVar 0) (tC (.int 0))) (tCons (tOp (rIxT K) (tVar 0) (tC (.int 1))) tNil)))) (tMakeR (He.ga K "Offer") (sp_Offer_init K) E0 (clA (tCons (tOp (rIxT K) (tVar 0) (tC (.int 0))) (tCons (tOp (rIxT K) (tVar 0) (tC (.int 1))) (tCons (tOp (rIxT K) (tVar 0) (tC (.int 2))) tNil))))))))
abbrev N__law_offer : List Str := ["_law_trades_here"]
theorem st__law_offer {x0 : V} : start N__law_offer [x0] = [some x0] := rfl
def t__law_all (K : PySem.W.Frag) : TS := (tSeq (tAsg (tLst (clA (tCons (tProp (He.ga K "Offer") (sp_Offer_trades K) [] E0 (tVar 0)) (tCons (tProp (He.ga K "Offer") (sp_Offer_kinds K) [] E0 (tVar 0)) (tCons (tProp (He.ga K "Offer") (sp_Offer_period K) [] E0 (tVar 0)) (tCons (tProp (He.ga K "Offer") (sp_Offer_steady_from K) [] E0 (tVar 0)) (tCons (tCO (He.ga K "Offer") (sp_Offer_call K) E0 (tVar 0) (tCons (tVar 2) tNil)) (tCons (tMethR (He.ga K "Offer") "credit" (sp_Offer_credit K) E0 (tVar 0) (tCons (tVar 2) tNil)) (tCons (tOp (rInO (He.ga K "Offer") (sp_Offer_contains K) E0 false) (tVar 2) (tVar 0)) tNil))))))))) (gName 3))
    (tSeq (tAsg (tOp rCat (tVar 3) (tLst (clA (tCons (tMethR (He.ga K "Offer") "trades_made" (sp_Offer_trades_made K) E0 (tVar 0) (tCons (tVar 2) tNil)) (tCons (tMethR (He.ga K "Offer") "left_over" (sp_Offer_left_over K) E0 (tVar 0) (tCons (tVar 2) tNil)) (tCons (tListG (tMethG (He.ga K "Offer") "rounds" (sp_Offer_rounds K) [] E0 (tVar 0) (tCons (tVar 2) tNil))) (tCons (tMethR (He.ga K "Offer") "fewest_bottles" (sp_Offer_fewest_bottles K) E0 (tVar 0) (tCons (tVar 2) tNil)) tNil))))))) (gName 3))
    (tSeq (tAsg (tOp rCat (tVar 3) (tLst (clA (tCons (tListG (tMethG (He.ga K "Offer") "missing" (sp_Offer_missing K) [] E0 (tVar 0) (tCons (tC (.int 0)) (tCons (tC (.int 30)) tNil)))) (tCons (tMethR (He.ga K "Offer") "count_missing" (sp_Offer_count_missing K) E0 (tVar 0) (tCons (tVar 2) tNil)) (tCons (tMethR (He.ga K "Offer") "nth_missing" (sp_Offer_nth_missing K) E0 (tVar 0) (tCons (tC (.int 5)) tNil)) (tCons (tMethR (He.ga K "Offer") "pooled" (sp_Offer_pooled K) E0 (tVar 0) (tCons (tC (.int 3)) (tCons (tVar 2) tNil))) tNil))))))) (gName 3))
    (tSeq (tAsg (tOp rCat (tVar 3) (tLst (clA (tCons (tCallR (spx_greedy_steps K) E0 (tCons (tVar 0) (tCons (tVar 2) tNil))) (tCons (tOp (rIxT K) (tCallR (spx_play K) E0 (tCons (tVar 0) (tCons (tC (.int 9)) (tCons (tLst (clA (tCons (tTup (clA (tCons (tC (.str "drink")) (tCons (tC (.int 5)) tNil)))) tNil))) tNil)))) (tC (.int 2))) (tCons (tProp (He.ga K "BottleObserver") (sp_BottleObserver_records K) [] E0 (tVar 1)) (tCons (tMethR (He.ga K "BottleObserver") "nth_possible" (sp_BottleObserver_nth_possible K) E0 (tVar 1) (tCons (tC (.int 2)) tNil)) tNil))))))) (gName 3))
    (tRet (tOp rCat (tVar 3) (tLst (clA (tCons (tOp (rCmpO (He.ga K "Offer") (sp_Offer_le K) E0) (tVar 0) (tVar 0)) (tCons (tOp (rCmpO (He.ga K "Offer") (sp_Offer_lt K) E0) (tVar 0) (tVar 0)) (tCons (tBoolO (He.ga K "Offer") (sp_Offer_bool K) E0 (tVar 0)) (tCons (tMethR (He.ga K "Offer") "trades_made" (sp_Offer_trades_made K) E0 (tVar 0) (tCons (tC (.int 9)) tNil)) tNil))))))))))))
abbrev N__law_all : List Str := ["_law_offer_here", "_law_observer", "_law_far", "_law_found"]
theorem st__law_all {x0 x1 x2 : V} : start N__law_all [x0, x1, x2] = [some x0, some x1, some x2, none] := rfl
def t_law (K : PySem.W.Frag) : TS := (tSeq (tAsg (tCallR (sp__law_mix K) E0 (tCons (tVar 0) (tCons (tC (.int 14)) tNil))) (gName 1))
    (tSeq (tPar 2 3 (tCons (tCallR (sp__law_offer K) E0 (tCons (tCallR (sp__law_trades K) E0 (tCons (tVar 1) (tCons (tC (.int 2)) (tCons (tC (.int 6)) tNil)))) tNil)) (tCons (tCallR (sp__law_next K) E0 (tCons (tVar 1) (tCons (tOp (rIxL K) (tLst (clA (tCons (tC (.int 50)) (tCons (tOp rPowI (tC (.int 10)) (tC (.int 17))) tNil)))) (tCallR (sp__law_next K) E0 (tCons (tVar 1) (tCons (tC (.int 2)) tNil)))) tNil))) tNil)))
    (tSeq (tPar 4 5 (tCons (tMakeR (He.ga K "BottleObserver") (sp_BottleObserver_init K) E0 (clA (tCons (tVar 2) tNil))) (tCons (tDGet (tMethR (He.ga K "Offer") "left_over" (sp_Offer_left_over K) E0 (tVar 2) (tCons (tC (.int 9)) tNil)) (tOp (rIxT K) (tProp (He.ga K "Offer") (sp_Offer_kinds K) [] E0 (tVar 2)) (tC (.int 0)))) tNil)))
    (tSeq (tDrop (tMethR (He.ga K "BottleObserver") "see_left" (spx_BottleObserver_see_left K) E0 (tVar 4) (tCons (tOp (rIxT K) (tProp (He.ga K "Offer") (sp_Offer_kinds K) [] E0 (tVar 2)) (tC (.int 0))) (tCons (tVar 5) tNil))))
    (tSeq (tAsg (tCallR (sp__law_all K) E0 (tCons (tVar 2) (tCons (tVar 4) (tCons (tVar 3) tNil)))) (gName 6))
    (tSeq (tFor (iRng1 (tCons (tOp rAddI (tC (.int 1)) (tCallR (sp__law_next K) E0 (tCons (tVar 1) (tCons (tC (.int 3)) tNil)))) tNil)) (gName 7) (tSeq (tAsg (tCallR (sp__law_all K) E0 (tCons (tVar 2) (tCons (tVar 4) (tCons (tVar 3) tNil)))) (gName 8))
    (tSeq (tIfS (tOr (tNot (tB (tCallR (sp_alike 4) E0 (tCons (tVar 8) (tCons (tVar 6) tNil))))) (tTest (tOp (rNeD K) (tProp (He.ga K "BottleObserver") (sp_BottleObserver_records K) [] E0 (tVar 4)) (tLst (clA (tCons (tTup (clA (tCons (tC (.str "left")) (tCons (tOp (rIxT K) (tProp (He.ga K "Offer") (sp_Offer_kinds K) [] E0 (tVar 2)) (tC (.int 0))) (tCons (tVar 5) tNil))))) tNil)))))) (tRet (tC (.bl false))) tNext)
    (tSeq (tFor (iList K (tVar 8)) (gName 9) (tIfS (tB (tCB (rIsi K) (tCons (tVar 9) (tCons (tC (.ty "list")) tNil)))) (tDrop (tBM K "list" rAppend (tVar 9) (tCons (tC (.int 0)) tNil))) (tIfS (tB (tCB (rIsi K) (tCons (tVar 9) (tCons (tC (.ty "dict")) tNil)))) (tDrop (tBM0 K "dict" rDClear (tVar 9))) tNext)))
    (tAsg (tIf (tTest (tOp rEq (tVar 7) (tC (.int 0)))) (tCallR (sp__law_all K) E0 (tCons (tVar 2) (tCons (tVar 4) (tCons (tVar 3) tNil)))) (tVar 6)) (gName 6))))))
    (tRet (tC (.bl true)))))))))
abbrev N_law : List Str := ["_law_script", "_law_h", "_law_offer_here", "_law_far", "_law_observer", "_law_left", "_law_kept", "_law_turn", "_law_found", "_law_one"]
theorem st_law {x0 : V} : start N_law [x0] = [some x0, none, none, none, none, none, none, none, none, none] := rfl
end EB
namespace EB
open PySem PySem.Spec L2 StX ClX
set_option maxHeartbeats 1000000
variable {K : PySem.W.Frag} {H : Hp} {Q : VK} {E : XK} {vs : List V}
/-! ## what the bodies read, against the promises -/
abbrev Dn (Q : VK) : Ends := { nx := fun _ H' => Q .non H', rt := Q }
theorem gcd_step {a b : Int} (ha : 0 ≤ a) (hb : 0 < b) : gcdI b (a % b) = gcdI a b := by
  unfold gcdI
  rw [Int.gcd_comm a b]
  congr 1
  show Int.gcd b (a % b) = Int.gcd b a
  have e : b * (a / b) + a % b = a := Int.mul_ediv_add_emod a b
  conv => rhs; rw [← e]
  rw [Int.gcd_mul_left_add_right]
theorem gcd_zero {a : Int} (ha : 0 ≤ a) : gcdI a 0 = a := by
  unfold gcdI
  rw [Int.gcd_zero_right]
  omega
theorem pure_common_divisor (h : sp_common_divisor K vs H Q E) : t_common_divisor K (Dn Q) (start N_common_divisor vs) H := by
  obtain ⟨a, b, rfl, ha, hb, k⟩ := h
  rw [st_common_divisor]
  unfold t_common_divisor
  walk_at "go"
  refine w_while (fun n σ' H' => ∃ x y : Int, σ' = [some (.int x), some (.int y)] ∧ H' = H ∧ 0 ≤ x ∧ 0 ≤ y ∧ gcdI x y = gcdI a b ∧ n = y.toNat) b.toNat ⟨a, b, rfl, rfl, ha, hb, rfl, rfl⟩ ?_
  rintro n σ' H' ⟨x, y, rfl, rfl, hx, hy, hg, rfl⟩
  walk_at "go"
  refine w_2n (fun hne => w_turn ?_) fun he => ?_
  · walk_at "go"
    have m1 := Int.emod_nonneg x hne
    have m2 := Int.emod_lt_of_pos x (show 0 < y by omega)
    exact ⟨(x % y).toNat, by omega, y, x % y, rfl, rfl, hy, m1, by rw [gcd_step hx (by omega)]; exact hg, rfl⟩
  · subst he
    walk_at "go"
    rw [gcd_zero hx] at hg
    rw [hg]
    exact k _ (Evl.Ex.refl _)
theorem pure_common_multiple (h : sp_common_multiple K vs H Q E) : t_common_multiple K (Dn Q) (start N_common_multiple vs) H := by
  obtain ⟨a, b, rfl, ha, hb, hb2, k⟩ := h
  have gp := gcdI_pos (a := a) hb
  have gl := gcdI_le (a := a) hb
  rw [st_common_multiple]
  unfold t_common_multiple
  walk_at "go"
  refine ap_common_divisor (by omega) (by omega) fun H1 e1 => ?_
  walk_at "go"
  exact k _ e1
theorem pure_bought (h : sp_bought K vs H Q E) : t_bought K (Dn Q) (start N_bought vs) H := by
  obtain ⟨a, ts, d, rfl, ⟨xs, hx, hp⟩, g, k⟩ := h
  rw [st_bought]
  unfold t_bought
  walk_at "go"
  have hlen : xs.length ≤ 1000 := by
    rw [pairedLen hp]
    have := g.1
    omega
  refine w_lcTa ((ts.map fun t => t.2.1 * d / t.2.2).map V.int) (Evl.st_of hx) hlen (by simp [pairedLen hp]) ?_ ?_
  · intro i x y hi hy H1 e1 R q
    obtain ⟨t, ht, z⟩ := pairedGet hp hi
    obtain ⟨p, rfl, h1⟩ := z
    obtain ⟨g1, g2, g3, g4⟩ := g.2 t (List.mem_of_getElem? ht)
    have ey : y = .int (t.2.1 * d / t.2.2) := by
      rw [List.getElem?_map, List.getElem?_map, ht] at hy
      exact (Option.some.inj hy).symm
    subst ey
    dsimp only [wipe, List.set]
    walk_at "go"
    refine ⟨rfl, ?_⟩
    walk_at "go"
    exact q _ (Evl.Ex.refl _)
  · intro p H2 hn e2 h2
    walk_at "go"
    refine w_sum (Evl.sq_of h2) ?_
    exact k _ e2
theorem pure_least_point (h : sp_least_point K vs H Q E) : t_least_point K (Dn Q) (start N_least_point vs) H := by
  obtain ⟨a, ts, n, x, rfl, hT, g, hp, ⟨B, hB1, hB2⟩, k⟩ := h
  rw [st_least_point]
  unfold t_least_point
  walk_at "go"
  refine w_whileW (fun m σ' H' => ∃ (y : Int) (o : Option V), σ' = [some (.ref a), some (.int n), some (.int y), o] ∧ Ex H H' ∧ x ≤ y ∧ y ≤ B ∧ y ≤ n + bo ts y ∧ (∀ e, x ≤ e → n + bo ts e ≤ e → y ≤ e) ∧ m = (B - y).toNat) (B - x).toNat
    ⟨x, none, rfl, Evl.Ex.refl _, Int.le_refl _, hB1, hp, fun e he _ => he, rfl⟩ ?_
  rintro m σ' H' ⟨y, o, rfl, e1, h1, h2, h3, h4, rfl⟩
  walk_at "go"
  refine ap_bought (hT.up e1) g fun H2 e2 => ?_
  walk_at "go"
  refine w_2n (fun hne => w_turn ?_) fun he => ?_
  · walk_at "go"
    have m1 := bo_mono g.2 h3
    have m2 : n + bo ts y ≤ B := by
      have := bo_mono g.2 h2
      omega
    exact ⟨(B - (n + bo ts y)).toNat, by omega, n + bo ts y, _, rfl, Evl.Ex.trans e1 e2, by omega, m2, by omega, fun e he hq => by
      have := bo_mono g.2 (h4 e he hq)
      omega, rfl⟩
  · walk_at "go"
    exact k y H2 h1 he h4 (Evl.Ex.trans e1 e2)
theorem take_snoc {α : Type} {xs : List α} {i : Nat} {x : α} (h : xs[i]? = some x) : xs.take (i + 1) = xs.take i ++ [x] := by
  rw [List.take_succ, h]
  rfl
/-- a fold of multiples so far -/
theorem fold_pos (f : Tr → Int) {ts : List Tr} (hf : ∀ t ∈ ts, 0 < f t) (i : Nat) : 0 < (ts.take i).foldl (fun y t => lcmI y (f t)) 1 := (fold_lcm f (ts.take i) 1 (fun t h => hf t (List.mem_of_mem_take h)) (by decide)).1
theorem pure_needed_multiple (h : sp_needed_multiple K vs H Q E) : t_needed_multiple K (Dn Q) (start N_needed_multiple vs) H := by
  obtain ⟨a, ts, rfl, ⟨xs, hx, hp⟩, g, k⟩ := h
  rw [st_needed_multiple]
  unfold t_needed_multiple
  walk_at "go"
  refine w_foTt (fun i σ' H' => ∃ o2 o3 o4 : Option V, σ' = [some (.ref a), some (.int ((ts.take i).foldl (fun y t => lcmI y t.2.2) 1)), o2, o3, o4] ∧ Ex H H') (Evl.st_of hx) ⟨_, _, _, rfl, Evl.Ex.refl _⟩ (fun i σ' H' _ ⟨_, _, _, _, e⟩ => exT (Evl.st_of hx) e) ?_ ?_
  · rintro i x σ' H' hi ⟨o2, o3, o4, rfl, e⟩
    obtain ⟨t, ht, p, rfl, h1⟩ := pairedGet hp hi
    obtain ⟨g1, g2, g3, g4⟩ := g.2 t (List.mem_of_getElem? ht)
    walk_at "go"
    have fp := fold_pos (fun t => t.2.2) (fun t h => by have := (g.2 t h).2.2.1; omega) i
    refine ap_common_multiple fp (by omega) (by omega) fun H2 e2 => ?_
    walk_at "go"
    rw [take_snoc ht, List.foldl_append]
    exact ⟨_, _, _, rfl, Evl.Ex.trans e e2⟩
  · rintro σ' H' ⟨o2, o3, o4, rfl, e⟩
    walk_at "go"
    rw [pairedLen hp, List.take_length]
    exact k _ e
theorem pure_period_of (h : sp_period_of K vs H Q E) : t_period_of K (Dn Q) (start N_period_of vs) H := by
  obtain ⟨a, ts, rfl, ⟨xs, hx, hp⟩, g, k⟩ := h
  rw [st_period_of]
  unfold t_period_of
  walk_at "go"
  refine w_foTt (fun i σ' H' => ∃ o2 o3 o4 : Option V, σ' = [some (.ref a), some (.int ((ts.take i).foldl (fun y t => lcmI y (pc t)) 1)), o2, o3, o4] ∧ Ex H H') (Evl.st_of hx) ⟨_, _, _, rfl, Evl.Ex.refl _⟩ (fun i σ' H' _ ⟨_, _, _, _, e⟩ => exT (Evl.st_of hx) e) ?_ ?_
  · rintro i x σ' H' hi ⟨o2, o3, o4, rfl, e⟩
    obtain ⟨t, ht, p, rfl, h1⟩ := pairedGet hp hi
    have gt := g.2 t (List.mem_of_getElem? ht)
    obtain ⟨g1, g2, g3, g4⟩ := id gt
    walk_at "go"
    refine ap_common_divisor g1 (by omega) fun H2 e2 => ?_
    have gp := gcdI_pos (a := t.2.1) (b := t.2.2) (by omega)
    have gl := gcdI_le (a := t.2.1) (b := t.2.2) (by omega)
    walk_at "go"
    have fp := fold_pos pc (fun t h => pc_pos (g.2 t h)) i
    have pp := pc_pos gt
    have pl : pc t ≤ 12 := by
      have := Int.le_of_dvd (show 0 < t.2.2 by omega) (pc_dvd (t := t))
      omega
    refine ap_common_multiple fp pp (by show pc t < 1000000; omega) fun H3 e3 => ?_
    walk_at "go"
    rw [take_snoc ht, List.foldl_append]
    exact ⟨_, _, _, rfl, Evl.Ex.trans e (Evl.Ex.trans e2 e3)⟩
  · rintro σ' H' ⟨o2, o3, o4, rfl, e⟩
    have ep : (ts.take xs.length).foldl (fun y t => lcmI y (pc t)) 1 = perd ts := by
      rw [pairedLen hp, List.take_length]
      rfl
    rw [ep]
    walk_at "go"
    refine ap_bought (Trs.up e ⟨xs, hx, hp⟩) g fun H2 e2 => ?_
    walk_at "go"
    rename_i p H3 n3 e3 h3
    exact k _ _ (Evl.fresh_back (Evl.Ex.trans e e2) n3) (Evl.Ex.trans e (Evl.Ex.trans e2 e3)) h3
theorem pure_total (h : sp_total K vs H Q E) : t_total K (Dn Q) (start N_total vs) H := by
  obtain ⟨a, ts, n, rfl, hT, f, h1, hn, k⟩ := h
  rw [st_total]
  unfold t_total
  walk_at "go"
  refine ap_period_of hT f.1 fun p H1 hp e1 h2 => ?_
  have np := nd_pos f
  have nl := nd_le f
  have pp := perd_pos f.1.2
  have pl := perd_le f.1.2
  walk_at "go"
  have s1 := st0_up f h1 (n := n)
  have s2 : ∀ e, n + bo ts e ≤ e → st0 ts n ≤ e := fun e he => st0_le f h1 he
  have B0 := bo_tenth f (d := 10 * n) (by omega)
  have bn := bo_nonneg f.1.2 hn
  show if decide (n < st0 ts n) = true then _ else _
  refine w_2 (fun c => ?_) fun c => ?_
  · walk_at "go"
    refine ⟨a, ts, n, st0 ts n, rfl, hT.up e1, f.1, s1, ⟨10 * n, s2 _ (by omega), by omega⟩, fun D H2 d1 d2 d3 e2 => ?_⟩
    have it : IsTot ts n D := ⟨d2, by omega, fun e he hq => d3 e (s2 e hq) hq⟩
    rw [← drk_eq it]
    exact k _ (Evl.Ex.trans e1 e2)
  · walk_at "go"
    refine ⟨a, ts, n, n, rfl, hT.up e1, f.1, by omega, ⟨10 * n, by omega, by omega⟩, fun D H2 d1 d2 d3 e2 => ?_⟩
    have it : IsTot ts n D := ⟨d2, by omega, fun e he hq => d3 e (by have := bo_nonneg f.1.2 he; omega) hq⟩
    rw [← drk_eq it]
    exact k _ (Evl.Ex.trans e1 e2)
end EB
namespace EB
open PySem PySem.Spec L2 StX ClX
set_option maxHeartbeats 1000000
section
variable {K : PySem.W.Frag} {H : Hp} {Q : VK} {E : XK} {vs : List V}
theorem pure_is_kind (h : sp_is_kind K vs H Q E) : t_is_kind K (Dn Q) (start N_is_kind vs) H := by
  obtain ⟨z, rfl, hz, k⟩ := h
  rw [st_is_kind]
  unfold t_is_kind
  walk_at "go"
  refine w_lenS hz ?_
  walk_at "go"
  refine w_2 (fun c1 => ?_) fun c1 => ?_
  · walk_at "go"
    refine w_2 (fun c2 => ?_) fun c2 => ?_
    · walk_at "go"
      have hs : z.cps.size ≤ 1000 := by
        have : (z.length : Int) = (z.cps.size : Int) := rfl
        omega
      refine w_lcS (fun cc => V.bl (decide (cc ∈ LET.cps.toList))) hs (fun R q => by walk_at "go"; exact q) ?_ ?_
      · intro i cc hi H1 e1 R q
        dsimp only [wipe, List.set]
        walk_at "go"
        refine ⟨rfl, ?_⟩
        walk_at "go"
        exact q _ (Evl.Ex.refl _)
      · intro p H2 hn e2 h2
        walk_at "go"
        rw [show (fun cc => V.bl (decide (cc ∈ LET.cps.toList))) = V.bl ∘ (fun cc => decide (cc ∈ LET.cps.toList)) from rfl, ← List.map_map] at h2
        refine w_all (Evl.sq_of h2) ?_
        have := k H2 e2
        unfold isKind at this
        rw [decide_eq_true c1, decide_eq_true c2] at this
        rw [List.all_map]
        simpa using this
    · have := k H (Evl.Ex.refl _)
      unfold isKind at this
      rw [decide_eq_false c2] at this
      walk_at "go"
      simpa using this
  · have := k H (Evl.Ex.refl _)
    unfold isKind at this
    rw [decide_eq_false c1] at this
    walk_at "go"
    simpa using this
theorem pure_is_trade_kind (h : sp_is_trade_kind K vs H Q E) : t_is_trade_kind K (Dn Q) (start N_is_trade_kind vs) H := by
  obtain ⟨z, rfl, hz, k⟩ := h
  rw [st_is_trade_kind]
  unfold t_is_trade_kind
  walk_at "go"
  refine ⟨z, rfl, hz, fun H1 e1 => ?_⟩
  walk_at "go"
  have := k H1 e1
  unfold isTK at this
  refine w_2b (fun c => ?_) fun c => ?_
  · walk_at "go"
    rw [c] at this
    simpa using this
  · rw [c] at this
    simpa using this
theorem pure_is_trade (O : OfK K) (h : sp_is_trade K vs H Q E) : t_is_trade K (Dn Q) (start N_is_trade vs) H := by
  obtain ⟨p, t, rfl, hp, hz, k⟩ := h
  obtain ⟨_, _, cr, ⟨u, mn⟩, _⟩ := O
  rw [st_is_trade]
  unfold t_is_trade
  walk_at "go"
  refine ⟨t.1, rfl, hz, fun H1 e1 => ?_⟩
  have fin := k H1 e1
  unfold isTr at fin
  walk_at "go"
  refine w_2b (fun c => ?_) fun c => ?_
  · rw [c] at fin
    walk_at "go"
    refine w_2 (fun c1 => ?_) fun c1 => ?_
    · rw [decide_eq_true c1] at fin
      walk_at "go"
      refine w_2 (fun c2 => ?_) fun c2 => ?_
      · rw [decide_eq_true c2] at fin
        walk_at "go"
        refine w_2 (fun c3 => ?_) fun c3 => ?_
        · rw [decide_eq_true c3] at fin
          walk_at "go"
          simpa using fin
        · rw [decide_eq_false c3] at fin
          simpa using fin
      · rw [decide_eq_false c2] at fin
        walk_at "go"
        simpa using fin
    · rw [decide_eq_false c1] at fin
      walk_at "go"
      simpa using fin
  · rw [c] at fin
    simpa using fin
theorem pure_validate_number (h : sp_validate_number K vs H Q E) : t_validate_number K (Dn Q) (start N_validate_number vs) H := by
  obtain ⟨n, lo, hi, rfl, h1, h2, k⟩ := h
  rw [st_validate_number]
  unfold t_validate_number
  walk_at "go"
  refine w_2 (fun c => ?_) fun c => absurd h1 c
  walk_at "go"
  rw [decide_eq_true h2]
  walk_at "go"
  exact k _ (Evl.Ex.refl _)
theorem pure_Offer_call (O : OfK K) (h : sp_Offer_call K vs H Q E) : t_Offer_call K (Dn Q) (start N_Offer_call vs) H := by
  obtain ⟨o, ts, n, rfl, ⟨dx, a, ho, hT⟩, ok, h1, h2, k⟩ := h
  obtain ⟨cls, np, _, _, _⟩ := O
  rw [st_Offer_call]
  unfold t_Offer_call
  walk_at "go"
  refine ap_validate_number h1 (by omega) fun H1 e1 => ?_
  walk_at "go"
  refine ap_total (hT.up e1) ok.fair ok.one h1 fun H2 e2 => ?_
  exact k _ (Evl.Ex.trans e1 e2)
end
end EB
namespace EB
open PySem PySem.Spec L2 StX ClX
set_option maxHeartbeats 1000000
section
variable {K : PySem.W.Frag} {H : Hp} {Q : VK} {E : XK} {vs : List V}
theorem dpTr {H : Hp} {x : V} {t : Tr} (h : TrAt H x t) : Dp K H x (.tuple [.str t.1, .int t.2.1, .int t.2.2]) := by
  obtain ⟨p, rfl, hp⟩ := h
  exact .tup (Evl.st_of hp) (.cons (.str _) (.cons (.int _) (.cons (.int _) .nil)))
def trD (t : Tr) : PyData := .tuple [.str t.1, .int t.2.1, .int t.2.2]
theorem dpTrs {H : Hp} : ∀ {xs : List V} {ts : List Tr}, Paired (TrAt H) xs ts → DpAll K H xs (ts.map trD)
  | _, _, .nil => .nil
  | _, _, .cons a r => .cons (dpTr a) (dpTrs r)
def trsD (ts : List Tr) : PyData := .tuple (ts.map trD)
theorem dpTrsA {a : Addr} {ts : List Tr} (h : Trs H a ts) : Dp K H (.ref a) (trsD ts) := by
  obtain ⟨xs, h1, h2⟩ := h
  exact .tup (Evl.st_of h1) (dpTrs h2)
theorem let_ok : ∀ c ∈ LET.cps.toList, c < 1114112 := by decide +kernel
theorem strOk_kind {z : Str} (h : isTK z = true) : PyData.strOk z = true := by
  unfold isTK isKind at h
  simp only [Bool.and_eq_true] at h
  have h2 := h.1.2
  unfold PyData.strOk
  rw [← Array.all_toList, List.all_eq_true]
  intro c hc
  rw [List.all_eq_true] at h2
  exact decide_eq_true (let_ok c (of_decide_eq_true (h2 c hc)))
theorem canLay_trs {ts : List Tr} (h : ∀ t ∈ ts, PyData.strOk t.1 = true) : PyData.canLayAll0 (ts.map trD) = true := by
  induction ts with
  | nil => rfl
  | cons t ts ih =>
    have a := h t List.mem_cons_self
    have b := ih fun u hu => h u (List.mem_cons_of_mem _ hu)
    simp only [List.map_cons, trD, PyData.canLayAll0, PyData.canLay0, a, Bool.and_self, Bool.true_and]
    exact b
theorem depth_trs (ts : List Tr) : PyData.depthAll (ts.map trD) ≤ 1 := by
  induction ts with
  | nil => exact Nat.zero_le _
  | cons t ts ih =>
    simp only [List.map_cons, trD, PyData.depthAll, PyData.depth]
    exact Nat.max_le.mpr ⟨by decide, ih⟩
theorem shaped_trs {ts : List Tr} (h : ∀ t ∈ ts, isTK t.1 = true) : SeqAt.shaped (trsD ts) = true := by
  unfold SeqAt.shaped trsD
  rw [Bool.and_eq_true]
  refine ⟨?_, decide_eq_true ?_⟩
  · exact canLay_trs fun t ht => strOk_kind (h t ht)
  · show PyData.depthAll (ts.map trD) + 1 ≤ 64
    have := depth_trs ts
    omega
theorem pure_Offer_init (O : OfK K) (h : spi_Offer_init K vs H Q E) : t_Offer_init K (Dn Q) (start N_Offer_init vs) H := by
  obtain ⟨x, dx, a, ts, rfl, hx, hT, ok, k⟩ := h
  obtain ⟨cls, np, cr, _, ⟨u, mt⟩⟩ := O
  obtain ⟨xs, ha, hp⟩ := id hT
  have f := ok.fair
  have len3 := f.1.1
  rw [st_Offer_init]
  unfold t_Offer_init
  walk_at "go"
  rename_i p0 H0 n0 e0 h0
  refine w_eqD (d := trsD ts) (e := .tuple []) (dpTrsA (hT.up e0)) (.tup (Evl.st_of h0) .nil) (shaped_trs fun t ht => (ok.kinds t ht).1) rfl ?_
  have ne : PyData.eqv (trsD ts) (.tuple []) = false := by
    cases ts with
    | nil => exact absurd ok.one (by decide)
    | cons t r => rfl
  rw [ne]
  walk_at "go"
  refine w_forE (fun i σ' H' => ∃ o2 o3 o4 o5 o6 o7 o8 : Option V, σ' = [some (.ref x), some (.ref a), o2, o3, o4, o5, o6, o7, o8] ∧ Ex H0 H') (Evl.st_of (e0 _ _ ha)) (fun R q => by walk_at "go"; exact q) ⟨_, _, _, _, _, _, _, rfl, Evl.Ex.refl _⟩
    (fun i σ' H' _ ⟨_, _, _, _, _, _, _, _, e⟩ => exT (Evl.st_of (e0 _ _ ha)) e) ?_ ?_
  · rintro i y σ' H' T H2 hi ⟨o2, o3, o4, o5, o6, o7, o8, rfl, e⟩ nT eT hT2
    obtain ⟨t, ht, z⟩ := pairedGet hp hi
    have il : i < xs.length := (List.getElem?_eq_some_iff.mp hi).1
    have i3 : (i : Int) < 3 := by
      have := pairedLen hp
      omega
    have eH : Ex H H2 := Evl.Ex.trans e0 (Evl.Ex.trans e eT)
    walk_at "go"
    refine w_slTk (Evl.st_of (eH _ _ ha)) il fun p1 H3 n3 e3 h3 => ?_
    refine w_lcTa ((ts.take i).map fun t => V.str t.1) (Evl.st_of h3) (by rw [List.length_take]; omega) (by rw [List.length_map, List.length_take, List.length_take, pairedLen hp]) ?_ ?_
    · intro j z y hz hy H4 e4 R q
      have hz' : xs[j]? = some z := by
        rw [List.getElem?_take] at hz
        split at hz
        · exact hz
        · cases hz
      obtain ⟨t2, ht2, p2, rfl, hp2⟩ := pairedGet hp hz'
      have ey : y = .str t2.1 := by
        rw [List.getElem?_map, List.getElem?_take, ht2] at hy
        split at hy
        · exact (Option.some.inj hy).symm
        · cases hy
      subst ey
      have eH4 : Ex H H4 := Evl.Ex.trans eH (Evl.Ex.trans e3 e4)
      dsimp only [wipe, List.set]
      walk_at "go"
      refine ⟨rfl, ?_⟩
      walk_at "go"
      exact q _ (Evl.Ex.refl _)
    · intro p4 H4 n4 e4 h4
      have eH4 : Ex H H4 := Evl.Ex.trans eH (Evl.Ex.trans e3 e4)
      obtain ⟨p, rfl, hpt⟩ := z
      obtain ⟨gk, gl⟩ := ok.kinds t (List.mem_of_getElem? ht)
      obtain ⟨g1, g2, g3, g4⟩ := f.1.2 t (List.mem_of_getElem? ht)
      walk_at "go"
      rw [decide_eq_false (show ¬ (i : Int) = 3 by omega)]
      walk_at "go"
      refine ⟨p, t, rfl, eH4 _ _ hpt, Nat.le_trans gl (by decide), fun H5 e5 => ?_⟩
      have tr : isTr t = true := by
        unfold isTr
        rw [gk, decide_eq_true g1, decide_eq_true g2, decide_eq_true g3, decide_eq_true g4]
        rfl
      rw [tr]
      walk_at "go"
      try (refine w_ixT (Evl.st_of (e5 _ _ (eH4 _ _ hpt))) (v := .str t.1) rfl ?_; walk_at "go")
      have h5 : H5 p4 = some (.lst (((ts.take i).map (·.1)).map V.str)) := by
        rw [List.map_map]
        exact e5 _ _ h4
      refine w_isIn (.inl (Evl.sq_of h5)) rfl flat_strs ?_
      rw [inV_str]
      have nm : t.1 ∉ (ts.take i).map (·.1) := by
        have nd := ok.nodup
        intro hm
        have e1 : ts.map (·.1) = (ts.take i).map (·.1) ++ (ts.drop i).map (·.1) := by rw [← List.map_append, List.take_append_drop]
        rw [e1, List.nodup_append] at nd
        refine nd.2.2 t.1 hm t.1 ?_ rfl
        refine List.mem_map.mpr ⟨t, ?_, rfl⟩
        rw [List.mem_iff_getElem?]
        exact ⟨0, by rw [List.getElem?_drop]; simpa using ht⟩
      rw [decide_eq_false nm]
      walk_at "go"
      exact ⟨_, _, _, _, _, _, _, rfl, Evl.Ex.trans e (Evl.Ex.trans eT (Evl.Ex.trans e3 (Evl.Ex.trans e4 e5)))⟩
  · rintro σ' H' ⟨o2, o3, o4, o5, o6, o7, o8, rfl, e⟩
    have eH : Ex H H' := Evl.Ex.trans e0 e
    walk_at "go"
    refine ap_needed_multiple (hT.up eH) f.1 fun H1 e1 => ?_
    walk_at "go"
    refine ap_bought (hT.up (Evl.Ex.trans eH e1)) f.1 fun H2 e2 => ?_
    have np0 := ndm_pos f.1.2
    have b10 := bo_tenth f (d := ndm ts) (by omega)
    walk_at "go"
    rw [decide_eq_false (show ¬ 9 * ndm ts < 10 * bo ts (ndm ts) by omega)]
    walk_at "go"
    rename_i H3 e3 h3
    refine k H3 (fun b o nb hb => e3 b o nb ?_) h3
    exact (Evl.Ex.trans eH (Evl.Ex.trans e1 e2)) b o hb
end
end EB
namespace EB
open PySem PySem.Spec L2 StX ClX
set_option maxHeartbeats 1000000
section
variable {K : PySem.W.Frag} {H : Hp} {Q : VK} {E : XK} {vs : List V}
theorem pure__law_mix (h : sp__law_mix K vs H Q E) : t__law_mix K (Dn Q) (start N__law_mix vs) H := by
  obtain ⟨a, ns, s, rfl, ha, hl, hs, k⟩ := h
  rw [st__law_mix]
  unfold t__law_mix
  walk_at "go"
  refine w_foLt (fun i σ' H' => ∃ (m : Int) (o3 : Option V), σ' = [some (.ref a), some (.int s), some (.int m), o3] ∧ 0 ≤ m ∧ Ex H H') ha ⟨s, _, rfl, hs, Evl.Ex.refl _⟩ (fun i σ' H' _ ⟨_, _, _, _, e⟩ => exL ha e) ?_ ?_
  · rintro i x σ' H' hi ⟨m, o3, rfl, hm, e⟩
    rw [List.getElem?_map] at hi
    obtain ⟨n, hn, rfl⟩ := Option.map_eq_some_iff.mp hi
    walk_at "go"
    exact ⟨_, _, rfl, Int.emod_nonneg _ (by decide), e⟩
  · rintro σ' H' ⟨m, o3, rfl, hm, e⟩
    walk_at "go"
    rename_i c H1 n1 e1 h1 h H2 n2 e2 h2
    have c0 : H c = none := Evl.fresh_back e n1
    have h0 : H h = none := Evl.fresh_back (Evl.Ex.trans e e1) n2
    exact k h c H2 h0 c0 (Evl.Ex.trans e (Evl.Ex.trans e1 e2)) ⟨m, 0, ns, h2, e2 _ _ h1, hl, hm, by decide⟩
theorem pure__law_next (h : sp__law_next K vs H Q E) : t__law_next K (Dn Q) (start N__law_next vs) H := by
  obtain ⟨h, c, n, rfl, s, h1, h2, k⟩ := h
  have nhc := s.ne
  obtain ⟨m, i, ns, ah, ac, hl, hm, hi⟩ := s.ex
  rw [st__law_next]
  unfold t__law_next
  walk_at "go"
  rename_i p1 H1 n1 e1 q1 p2 H2 n2 e2 q2
  rw [List.length_map]
  have eH2 : Ex H H2 := Evl.Ex.trans e1 e2
  have cell : ∃ z : Int, atI (ns.map V.int ++ [.int 0]) (i % if (ns.length : Int) > 1 then (ns.length : Int) else 1) = some (.int z) ∧ (ns.length = 0 → z = 0) := by
    have a0 : 0 ≤ i % (if (ns.length : Int) > 1 then (ns.length : Int) else 1) := Int.emod_nonneg _ (by split <;> omega)
    have a1 : i % (if (ns.length : Int) > 1 then (ns.length : Int) else 1) < (if (ns.length : Int) > 1 then (ns.length : Int) else 1) := Int.emod_lt_of_pos _ (by split <;> omega)
    generalize hj : i % (if (ns.length : Int) > 1 then (ns.length : Int) else 1) = j at a0 a1
    have lt : j.toNat < (ns ++ [0]).length := by
      rw [List.length_append]
      split at a1 <;> simp <;> omega
    have e : ns.map V.int ++ [.int 0] = (ns ++ [0]).map V.int := by simp
    refine ⟨(ns ++ [0])[j.toNat], ?_, fun hz => ?_⟩
    · rw [e]
      refine atI_pos a0 ?_
      rw [List.getElem?_map, List.getElem?_eq_getElem lt]
      rfl
    · have en : ns = [] := List.length_eq_zero_iff.mp hz
      subst en
      have : j.toNat = 0 := by
        simp at lt
        omega
      simp [this]
  obtain ⟨z, hz, z0⟩ := cell
  refine w_ixL (Evl.sq_of q2) hz ?_
  walk_at "go"
  have e18 : (10 : Int) ^ (18 : Int).toNat = 1000000000000000000 := by decide
  rw [e18]
  have ah2 := eH2 _ _ ah
  have ac2 := eH2 _ _ ac
  refine w_2 (fun big => ?_) fun small => ?_
  · have lp : 0 < ns.length := by
      rcases Nat.eq_zero_or_pos ns.length with h0 | h0
      · have := z0 h0
        omega
      · exact h0
    walk_at "go"
    rw [List.length_map]
    have j0 : 0 ≤ i % (ns.length : Int) := Int.emod_nonneg _ (by omega)
    have j1 : i % (ns.length : Int) < (ns.length : Int) := Int.emod_lt_of_pos _ (by omega)
    walk_at "go"
    refine w_setL ac2 (ixN_pos j0 (by rw [List.length_map]; exact j1)) fun H3 e3 h3 => ?_
    walk_at "go"
    refine k _ H3 (Int.emod_nonneg _ (by omega)) (Int.emod_lt_of_pos _ (by omega)) ⟨⟨m, i, ns.set (i % (ns.length : Int)).toNat (z / n), e3 _ _ nhc ah2, ?_, by rw [List.length_set]; exact hl, hm, hi⟩, fun b o n3 n4 hb => e3 b o n4 (eH2 b o hb)⟩
    rw [h3, List.map_set]
  · walk_at "go"
    rename_i H3 e3 h3 H4 e4 h4
    refine k _ H4 (Int.emod_nonneg _ (by omega)) (Int.emod_lt_of_pos _ (by omega)) ⟨⟨_, i + 1, ns, h4, e4 _ _ nhc.symm (e3 _ _ nhc.symm ac2), hl, Int.emod_nonneg _ (by decide), by omega⟩, fun b o n3 n4 hb => e4 b o n3 (e3 b o n3 (eH2 b o hb))⟩
theorem pure__law_offer (h : sp__law_offer K vs H Q E) : t__law_offer K (Dn Q) (start N__law_offer vs) H := by
  obtain ⟨a, ts, rfl, ⟨xs, ha, hp⟩, ok, k⟩ := h
  have l1 := ok.one
  have l3 := ok.fair.1.1
  have el := pairedLen hp
  rw [st__law_offer]
  unfold t__law_offer
  match ts, xs, hp with
  | [], _, _ => exact absurd l1 (by decide)
  | [t], [x], hp =>
    walk_at "go"
    intro o dx H2 n2 e2 h2
    exact ap_make n2 e2 h2 hp ok fun H' e' ho => k o H' n2 e' ho
  | [t, u], [x, y], hp =>
    walk_at "go"
    intro o dx H2 n2 e2 h2
    exact ap_make n2 e2 h2 hp ok fun H' e' ho => k o H' n2 e' ho
  | [t, u, v], [x, y, z], hp =>
    walk_at "go"
    intro o dx H2 n2 e2 h2
    exact ap_make n2 e2 h2 hp ok fun H' e' ho => k o H' n2 e' ho
  | t :: u :: v :: w :: r, _, _ => exact absurd l3 (by simp)
end
end EB
namespace EB
open PySem PySem.Spec L2 StX ClX
set_option maxHeartbeats 1000000
section
variable {K : PySem.W.Frag} {H : Hp} {Q : VK} {E : XK} {vs : List V}
theorem lawKinds_ok : ∀ z ∈ lawKinds, isTK z = true ∧ z.length ≤ 8 := by decide +kernel
theorem lawKinds_nd : lawKinds.Nodup := by decide +kernel
theorem bo_snoc (ts : List Tr) (t : Tr) (d : Int) : bo (ts ++ [t]) d = bo ts d + t.2.1 * d / t.2.2 := by simp [bo]
theorem paired_snoc {α β : Type} {F : α → β → Prop} : ∀ {xs : List α} {ys : List β} {x : α} {y : β}, Paired F xs ys → F x y → Paired F (xs ++ [x]) (ys ++ [y])
  | _, _, _, _, .nil, h => .cons h .nil
  | _, _, _, _, .cons a r, h => .cons a (paired_snoc r h)
theorem paired_imp {α β : Type} {F G : α → β → Prop} (f : ∀ x y, F x y → G x y) : ∀ {xs : List α} {ys : List β}, Paired F xs ys → Paired G xs ys
  | _, _, .nil => .nil
  | _, _, .cons a r => .cons (f _ _ a) (paired_imp f r)
/-- what the drawn trades are, so far -/
structure TrSo (most largest : Int) (ts : List Tr) : Prop where
  good : ∀ t ∈ ts, Good t
  worth : 10 * bo ts 27720 ≤ 9 * 27720
  kinds : ts.map (·.1) = lawKinds.take ts.length
  small : ∀ t ∈ ts, t.2.1 ≤ t.2.2 ∧ t.2.2 ≤ largest
theorem TrSo.law {most largest : Int} {ts : List Tr} (s : TrSo most largest ts) (h1 : 1 ≤ ts.length) (h3 : ts.length ≤ 3) (hm : (ts.length : Int) ≤ most) : LawTr most largest ts := by
  refine ⟨⟨⟨⟨h3, s.good⟩, s.worth⟩, h1, fun t ht => lawKinds_ok t.1 ?_, ?_⟩, s.kinds, hm, s.small⟩
  · have : t.1 ∈ ts.map (·.1) := List.mem_map.mpr ⟨t, ht, rfl⟩
    rw [s.kinds] at this
    exact List.mem_of_mem_take this
  · rw [s.kinds]
    exact List.Sublist.nodup (List.take_sublist _ _) lawKinds_nd
theorem pure__law_trades (h : sp__law_trades K vs H Q E) : t__law_trades K (Dn Q) (start N__law_trades vs) H := by
  obtain ⟨h, c, m, l, rfl, s, m1, m3, l1, l12, k⟩ := h
  rw [st__law_trades]
  unfold t__law_trades
  walk_at "go"
  rename_i fl H1 nf e1 hf p1 H2 n1 e2 h2
  have eH2 : Ex H H2 := Evl.Ex.trans e1 e2
  refine ap__law_next (s.up eH2) m1 (by omega) fun r H3 r0 rm u3 => ?_
  walk_at "go"
  have f1 := (SrcUp.of (s.up e1) e2).trans u3
  have nfl : fl ≠ h ∧ fl ≠ c := by
    obtain ⟨⟨o1, q1⟩, o2, q2⟩ := s.there
    exact ⟨fun z => (by rw [z, q1] at nf; cases nf), fun z => (by rw [z, q2] at nf; cases nf)⟩
  have hp3 : H3 p1 = some (.lst (lawKinds.map V.str)) := by
    have u2 := SrcUp.of (s.up e1) e2
    have q := u2.free (p := p1)
    have np : p1 ≠ h ∧ p1 ≠ c := by
      obtain ⟨⟨o1, q1⟩, o2, q2⟩ := (s.up e1).there
      exact ⟨fun z => (by rw [z, q1] at n1; cases n1), fun z => (by rw [z, q2] at n1; cases n1)⟩
    exact u3.keep p1 _ np.1 np.2 h2
  have ek : (1 : Int) + r = ((1 + r.toNat : Nat) : Int) := by omega
  rw [ek]
  refine w_slLk (Evl.sq_of hp3) fun p H4 n4 e4 h4 => ?_
  have u4 : SrcUp h c H H4 := ((SrcUp.of s eH2).trans u3).andEx e4
  obtain ⟨p0, ph, pc⟩ := (((SrcUp.of s eH2).trans u3).andEx (Evl.Ex.refl _)).free n4
  have hfl4 : H4 fl = some (.lst []) := e4 _ _ (f1.keep fl _ nfl.1 nfl.2 hf)
  have pfl : p ≠ fl := fun z => by
    have := f1.keep fl _ nfl.1 nfl.2 hf
    rw [z, this] at n4
    cases n4
  have klen : ((lawKinds.map V.str).take (1 + r.toNat)).length = 1 + r.toNat := by
    rw [List.length_take]
    show min (1 + r.toNat) 3 = _
    omega
  refine w_foLt (fun i σ' H' => ∃ (ts : List Tr) (xs : List V) (o5 o6 o7 : Option V), σ' = [some (.ref h), some (.int m), some (.int l), some (.ref fl), some (.int (bo ts 27720)), o5, o6, o7] ∧
      ts.length = i ∧ TrSo m l ts ∧ H' fl = some (.lst xs) ∧ Paired (TrAt H') xs ts ∧ SrcUp h c H H' ∧ H' p = some (.lst ((lawKinds.map V.str).take (1 + r.toNat)))) (Evl.sq_of h4)
    ⟨[], [], _, _, _, rfl, rfl, ⟨by simp, by decide, rfl, by simp⟩, hfl4, .nil, u4, h4⟩ (fun i σ' H' _ ⟨_, _, _, _, _, _, _, _, _, _, _, q⟩ => Evl.sq_of q) ?_ ?_
  · rintro i x σ' H' hi ⟨ts, xs, o5, o6, o7, rfl, rfl, so, hfl, hps, u, hp⟩
    have il := (List.getElem?_eq_some_iff.mp hi).1
    rw [klen] at il
    have hi2 : (lawKinds.map V.str)[ts.length]? = some x := by
      rw [List.getElem?_take_of_lt (by omega)] at hi
      exact hi
    rw [List.getElem?_map] at hi2
    obtain ⟨kd, hkd, rfl⟩ := Option.map_eq_some_iff.mp hi2
    walk_at "go"
    refine ap__law_next u.src l1 (by omega) fun r1 H5 r10 r11 u5 => ?_
    walk_at "go"
    refine ap__law_next u5.src (by omega) (by omega) fun r2 H6 r20 r21 u6 => ?_
    have u56 := u5.trans u6
    walk_at "go"
    have wn : 10 * (bo ts 27720 * (1 + r1)) ≤ 249480 * (1 + r1) := by
      have := Int.mul_le_mul_of_nonneg_right (c := 1 + r1) so.worth (by omega)
      rw [Int.mul_assoc] at this
      exact this
    refine w_while (fun n σ' H' => ∃ y : Int, σ' = [some (.ref h), some (.int m), some (.int l), some (.ref fl), some (.int (bo ts 27720)), some (.str kd), some (.int (1 + r1)), some (.int y)] ∧ H' = H6 ∧ 0 ≤ y ∧ y ≤ r2 ∧ n = y.toNat) r2.toNat ⟨r2, rfl, rfl, r20, Int.le_refl _, rfl⟩ ?_
    rintro n σ' H' ⟨y, rfl, rfl, y0, y1, rfl⟩
    walk_at "go"
    refine w_2 (fun big => w_turn ?_) fun small => ?_
    · walk_at "go"
      have : y ≠ 0 := fun z => by
        subst z
        omega
      exact ⟨(y - 1).toNat, by omega, y - 1, rfl, rfl, by omega, by omega, rfl⟩
    · have n12 : 1 + r1 ≤ 12 := by omega
      have n1' : 1 ≤ 1 + r1 := by omega
      have hflH : H' fl = some (.lst xs) := u56.keep fl _ nfl.1 nfl.2 hfl
      have xl : xs.length < 100000 := by
        have := pairedLen hps
        omega
      walk_at "go"
      rename_i q H7 nq e7 hq H8 e8 h8
      have ex : (y * 27720 / (1 + r1)) * (1 + r1) = y * 27720 := by
        refine Int.ediv_mul_cancel ?_
        exact Int.dvd_trans (need_dvd n1' n12) (Int.dvd_mul_left ..)
      have worth2 : 10 * bo (ts ++ [(kd, y, 1 + r1)]) 27720 ≤ 9 * 27720 := by
        rw [bo_snoc]
        show 10 * (bo ts 27720 + y * 27720 / (1 + r1)) ≤ 9 * 27720
        have e9 : 10 * (bo ts 27720 + y * 27720 / (1 + r1)) * (1 + r1) ≤ 9 * 27720 * (1 + r1) := by
          rw [Int.mul_assoc, Int.add_mul, ex]
          omega
        exact Int.le_of_mul_le_mul_right e9 (by omega)
      have qfl : q ≠ fl := fun z => by
        rw [z, hflH] at nq
        cases nq
      have u7 : SrcUp h c H H7 := (u.trans u56).andEx e7
      have u8 : SrcUp h c H H8 := by
        obtain ⟨M, N, ns, a1, a2, a3⟩ := u7.src.ex
        exact ⟨⟨M, N, ns, e8 _ _ nfl.1.symm a1, e8 _ _ nfl.2.symm a2, a3⟩, fun b o b1 b2 hb => e8 b o (ne_of_none hb nf) (u7.keep b o b1 b2 hb)⟩
      refine ⟨ts ++ [(kd, y, 1 + r1)], xs ++ [.ref q], _, _, _, by rw [bo_snoc], by simp, ⟨fun t ht => ?_, worth2, ?_, fun t ht => ?_⟩, h8, ?_, u8, ?_⟩
      · rcases List.mem_append.mp ht with ht | ht
        · exact so.good t ht
        · rw [List.mem_singleton.mp ht]
          exact ⟨y0, by show y ≤ 12; omega, n1', n12⟩
      · rw [List.map_append, so.kinds, List.length_append, List.length_singleton, take_snoc hkd]
        rfl
      · rcases List.mem_append.mp ht with ht | ht
        · exact so.small t ht
        · rw [List.mem_singleton.mp ht]
          exact ⟨by show y ≤ 1 + r1; omega, by show 1 + r1 ≤ l; omega⟩
      · refine paired_snoc (trsUpB (l := fl) (o := .lst xs) (e7 _ _ hflH) (fun _ z => nomatch z) e8 (trsUp e7 (trsUpS u.src u56 hps))) ⟨q, rfl, e8 _ _ qfl hq⟩
      · exact e8 _ _ pfl (e7 _ _ (u56.keep p _ ph pc hp))
  · rintro σ' H' ⟨ts, xs, o5, o6, o7, rfl, tl, so, hfl, hps, u, hp⟩
    rw [klen] at tl
    walk_at "go"
    rename_i q H5 nq e5 hq
    refine k q ts H5 (u.free nq).1 (u.andEx e5) ⟨xs, hq, trsUp e5 hps⟩ (so.law (by omega) (by omega) (by omega))
end
end EB
namespace EB
open PySem PySem.Spec L2 StX ClX
set_option maxHeartbeats 1000000
section
variable {K : PySem.W.Frag} {H : Hp} {Q : VK} {E : XK} {vs : List V}
theorem w_ixAL {a : Addr} {xs : List V} {i : Int} {v : V} (h : SqL K H a xs) (hi : atI xs i = some v) (q : Q v H) : rIxA K (.ref a) (.int i) H Q := .inl (w_ixL h hi q)
theorem w_ixAT {a : Addr} {xs : List V} {i : Int} {v : V} (h : SqT K H a xs) (hi : atI xs i = some v) (q : Q v H) : rIxA K (.ref a) (.int i) H Q := .inr (w_ixT h hi q)
theorem pure_alike {n : Nat} (h : sp_alike (n + 1) vs H Q E) : t__law_alike K (sp_alike n) (Dn Q) (start N__law_alike vs) H := by
  obtain ⟨x, y, d, rfl, hx, hy, ok, k⟩ := h
  rw [st__law_alike]
  unfold t__law_alike
  walk_at "go"
  by_cases isd : ∃ kvs, d = .dict kvs
  · obtain ⟨kvs, rfl⟩ := isd
    obtain ⟨n2, ok⟩ := Bool.and_eq_true_iff.mp ok
    obtain ⟨l1, ok⟩ := Bool.and_eq_true_iff.mp ok
    obtain ⟨nd, sk⟩ := Bool.and_eq_true_iff.mp ok
    have n2 := of_decide_eq_true n2
    have l1 := of_decide_eq_true l1
    have nd := of_decide_eq_true nd
    generalize ed : PyData.dict kvs = D at hx hy
    cases hx with
    | @dic b kv hb =>
      generalize ed2 : dicD kv = D2 at hy
      cases hy with
      | @dic c kv2 hc =>
        have e3 : kvs = kv.map fun p => (PyData.str p.1, PyData.int p.2) := PyData.dict.inj ed
        have e4 : (kv.map fun p => (PyData.str p.1, PyData.int p.2)) = kv2.map fun p => (PyData.str p.1, PyData.int p.2) := PyData.dict.inj ed2
        have e5 : kv = kv2 := List.map_inj_right (f := fun p : Str × Int => (PyData.str p.1, PyData.int p.2)) (fun p q z => by
          obtain ⟨p1, p2⟩ := p
          obtain ⟨q1, q2⟩ := q
          simp only [Prod.mk.injEq, PyData.str.injEq, PyData.int.injEq] at z
          rw [z.1, z.2]) |>.mp e4
        subst e5
        have ek : (kvs.map fun p => keyS p.1) = kv.map (·.1) := by
          rw [e3, List.map_map]
          rfl
        rw [ek] at nd
        have kl : kv.length ≤ 1000 := by
          rw [e3, List.length_map] at l1
          exact l1
        refine w_isi (Dq.ty (.dic hc)) (b := true) rfl ?_
        walk_at "go"
        refine w_isi (Dq.ty (.dic hb)) (b := true) rfl ?_
        walk_at "go"
        refine w_listD hb fun p1 H1 f1 e1 h1 => ?_
        walk_at "go"
        refine w_listD (e1 _ _ hc) fun p2 H2 f2 e2 h2 => ?_
        walk_at "go"
        have sdq : ∀ (H : Hp) (zs : List (Str × Int)), DqAll H (zs.map fun p => V.str p.1) (zs.map fun p => PyData.str p.1) := by
          intro H zs
          induction zs with
          | nil => exact .nil
          | cons z zs ih => exact .cons (.str _) ih
        obtain ⟨m, rfl⟩ : ∃ m, n = m + 2 := ⟨n - 2, by omega⟩
        have okk : okD (m + 2) (.list (kv.map fun p => PyData.str p.1)) = true := by
          refine Bool.and_eq_true_iff.mpr ⟨decide_eq_true (by rw [List.length_map]; omega), List.all_eq_true.mpr fun z hz => ?_⟩
          obtain ⟨q, hq, rfl⟩ := List.mem_map.mp hz
          have := List.all_eq_true.mp sk (PyData.str q.1, PyData.int q.2) (by rw [e3]; exact List.mem_map.mpr ⟨q, hq, rfl⟩)
          exact this
        refine ap_alike (.lst (e2 _ _ h1) (sdq _ _)) (.lst h2 (sdq _ _)) okk fun H3 e3' => ?_
        walk_at "go"
        have e13 : Ex H H3 := Evl.Ex.trans e1 (Evl.Ex.trans e2 e3')
        exact w_eqDic (e13 _ _ hb) (e13 _ _ hc) nd (k H3 e13)
      | _ => cases ed2
    | _ => cases ed
  refine w_isi hy.ty (b := false) (by cases d <;> first | rfl | exact absurd ⟨_, rfl⟩ isd) ?_
  walk_at "go"
  rename_i T H1 nT e1 hT
  have hx1 := Dq.up e1 d x hx
  have hy1 := Dq.up e1 d y hy
  cases d with
  | none =>
    cases hx1
    cases hy1
    refine w_isiT hT (Dq.ty (d := .none) (by first | exact .non | exact .bl _ | exact .int _ | exact .str _)) (b1 := false) (b2 := false) (b := false) rfl rfl rfl ?_
    walk_at "go"
    refine w_eqX (d := .none) (n := 1) (Dq.up e1 _ _ hx) (Dq.up e1 _ _ hy) ok (by decide) rfl ?_
    walk_at "go"
    refine w_isi (t := "NoneType") (Dq.ty (d := .none) (by first | exact .non | exact .bl _ | exact .int _ | exact .str _)) (b := false) rfl ?_
    walk_at "go"
    refine w_isi (t := "NoneType") (Dq.ty (d := .none) (by first | exact .non | exact .bl _ | exact .int _ | exact .str _)) (b := false) rfl ?_
    walk_at "go"
    exact k H1 e1
  | bool c =>
    cases hx1
    cases hy1
    refine w_isiT hT (Dq.ty (d := .bool c) (by first | exact .non | exact .bl _ | exact .int _ | exact .str _)) (b1 := false) (b2 := false) (b := false) rfl rfl rfl ?_
    walk_at "go"
    refine w_isi (t := "bool") (Dq.ty (d := .bool c) (by first | exact .non | exact .bl _ | exact .int _ | exact .str _)) (b := false) rfl ?_
    walk_at "go"
    refine w_isi (t := "bool") (Dq.ty (d := .bool c) (by first | exact .non | exact .bl _ | exact .int _ | exact .str _)) (b := true) rfl ?_
    walk_at "go"
    refine w_isi (t := "bool") (Dq.ty (d := .bool c) (by first | exact .non | exact .bl _ | exact .int _ | exact .str _)) (b := true) rfl ?_
    walk_at "go"
    refine w_isi (t := "bool") (Dq.ty (d := .bool c) (by first | exact .non | exact .bl _ | exact .int _ | exact .str _)) (b := true) rfl ?_
    walk_at "go"
    refine w_eqX (d := .bool c) (n := 1) (Dq.up e1 _ _ hx) (Dq.up e1 _ _ hy) ok (by decide) rfl ?_
    exact k H1 e1
  | int c =>
    cases hx1
    cases hy1
    refine w_isiT hT (Dq.ty (d := .int c) (by first | exact .non | exact .bl _ | exact .int _ | exact .str _)) (b1 := false) (b2 := false) (b := false) rfl rfl rfl ?_
    walk_at "go"
    refine w_isi (t := "int") (Dq.ty (d := .int c) (by first | exact .non | exact .bl _ | exact .int _ | exact .str _)) (b := false) rfl ?_
    walk_at "go"
    refine w_isi (t := "int") (Dq.ty (d := .int c) (by first | exact .non | exact .bl _ | exact .int _ | exact .str _)) (b := true) rfl ?_
    walk_at "go"
    refine w_isi (t := "int") (Dq.ty (d := .int c) (by first | exact .non | exact .bl _ | exact .int _ | exact .str _)) (b := false) rfl ?_
    walk_at "go"
    refine w_isi (t := "int") (Dq.ty (d := .int c) (by first | exact .non | exact .bl _ | exact .int _ | exact .str _)) (b := false) rfl ?_
    walk_at "go"
    refine w_eqX (d := .int c) (n := 1) (Dq.up e1 _ _ hx) (Dq.up e1 _ _ hy) ok (by decide) rfl ?_
    exact k H1 e1
  | str c =>
    cases hx1
    cases hy1
    refine w_isiT hT (Dq.ty (d := .str c) (by first | exact .non | exact .bl _ | exact .int _ | exact .str _)) (b1 := false) (b2 := false) (b := false) rfl rfl rfl ?_
    walk_at "go"
    refine w_isi (t := "str") (Dq.ty (d := .str c) (by first | exact .non | exact .bl _ | exact .int _ | exact .str _)) (b := true) rfl ?_
    walk_at "go"
    refine w_eqX (d := .str c) (n := 1) (Dq.up e1 _ _ hx) (Dq.up e1 _ _ hy) ok (by decide) rfl ?_
    walk_at "go"
    refine w_isi (t := "str") (Dq.ty (d := .str c) (by first | exact .non | exact .bl _ | exact .int _ | exact .str _)) (b := true) rfl ?_
    walk_at "go"
    refine w_isi (t := "str") (Dq.ty (d := .str c) (by first | exact .non | exact .bl _ | exact .int _ | exact .str _)) (b := true) rfl ?_
    walk_at "go"
    exact k H1 e1
  | list ds =>
    cases hx1 with
    | @lst a xs _ ha hxs =>
    cases hy1 with
    | @lst b ys _ hb hys =>
    obtain ⟨lk, al⟩ := Bool.and_eq_true_iff.mp ok
    have ds1 := of_decide_eq_true lk
    have lx := hxs.len
    have ly := hys.len
    refine w_isiT hT (Dq.ty (.lst hb hys)) (b1 := false) (b2 := true) (b := true) rfl rfl rfl ?_
    walk_at "go"
    rename_i T2 H2 nT2 e2 hT2
    refine w_isiT hT2 (Dq.ty (.lst (e2 _ _ ha) (DqAll.up e2 _ _ hxs))) (b1 := false) (b2 := true) (b := true) rfl rfl rfl ?_
    walk_at "go"
    refine w_isi (Dq.ty (.lst (e2 _ _ ha) (DqAll.up e2 _ _ hxs))) (b := true) rfl ?_
    walk_at "go"
    refine w_isi (Dq.ty (.lst (e2 _ _ hb) (DqAll.up e2 _ _ hys))) (b := true) rfl ?_
    walk_at "go"
    rw [lx, ly, decide_eq_true (rfl : (ds.length : Int) = ds.length)]
    walk_at "go"
    refine w_lcR0 (n := ds.length) (by omega) (fun R q => ?_) (fun i H3 hi e3 R N q => ?_) fun p H3 n3 e3 h3 => ?_
    · walk_at "go"
      rw [ly]
      exact q
    · obtain ⟨v, hv⟩ : ∃ v, ds[i]? = some v := ⟨ds[i], List.getElem?_eq_getElem hi⟩
      obtain ⟨x', hx', qx⟩ := hxs.get hv
      obtain ⟨y', hy', qy⟩ := hys.get hv
      have e13 : Ex H1 H3 := Evl.Ex.trans e2 e3
      dsimp only [wipe, List.set]
      walk_at "go"
      refine ⟨rfl, ?_⟩
      walk_at "go"
      refine w_ixAL (Evl.sq_of (e13 _ _ ha)) (atI_pos (by omega) hx') ?_
      walk_at "go"
      refine w_ixAL (Evl.sq_of (e13 _ _ hb)) (atI_pos (by omega) hy') ?_
      walk_at "go"
      have okv : okD n v = true := List.all_eq_true.mp al v (List.mem_of_getElem? hv)
      cases n with
      | zero => cases v <;> cases okv
      | succ n =>
        refine ap_alike (Dq.up e13 _ _ qx) (Dq.up e13 _ _ qy) okv fun H4 e4 => ?_
        walk_at "go"
        exact q H4 e4
    · walk_at "go"
      rename_i p2 H4 n4 e4 h4
      refine w_eqD (d := .list []) (e := .list []) (.lst (Evl.sq_of (e4 _ _ h3)) .nil) (.lst (Evl.sq_of h4) .nil) rfl rfl ?_
      exact k H4 (Evl.Ex.trans e1 (Evl.Ex.trans e2 (Evl.Ex.trans e3 e4)))
  | tuple ds =>
    cases hx1 with
    | @tup a xs _ ha hxs =>
    cases hy1 with
    | @tup b ys _ hb hys =>
    obtain ⟨lk, al⟩ := Bool.and_eq_true_iff.mp ok
    have ds1 := of_decide_eq_true lk
    have lx := hxs.len
    have ly := hys.len
    refine w_isiT hT (Dq.ty (.tup hb hys)) (b1 := true) (b2 := false) (b := true) rfl rfl rfl ?_
    walk_at "go"
    rename_i T2 H2 nT2 e2 hT2
    refine w_isiT hT2 (Dq.ty (.tup (e2 _ _ ha) (DqAll.up e2 _ _ hxs))) (b1 := true) (b2 := false) (b := true) rfl rfl rfl ?_
    walk_at "go"
    refine w_isi (Dq.ty (.tup (e2 _ _ ha) (DqAll.up e2 _ _ hxs))) (b := false) rfl ?_
    walk_at "go"
    refine w_isi (Dq.ty (.tup (e2 _ _ hb) (DqAll.up e2 _ _ hys))) (b := false) rfl ?_
    walk_at "go"
    rw [lx, ly, decide_eq_true (rfl : (ds.length : Int) = ds.length)]
    walk_at "go"
    refine w_lcR0 (n := ds.length) (by omega) (fun R q => ?_) (fun i H3 hi e3 R N q => ?_) fun p H3 n3 e3 h3 => ?_
    · walk_at "go"
      rw [ly]
      exact q
    · obtain ⟨v, hv⟩ : ∃ v, ds[i]? = some v := ⟨ds[i], List.getElem?_eq_getElem hi⟩
      obtain ⟨x', hx', qx⟩ := hxs.get hv
      obtain ⟨y', hy', qy⟩ := hys.get hv
      have e13 : Ex H1 H3 := Evl.Ex.trans e2 e3
      dsimp only [wipe, List.set]
      walk_at "go"
      refine ⟨rfl, ?_⟩
      walk_at "go"
      refine w_ixAT (Evl.st_of (e13 _ _ ha)) (atI_pos (by omega) hx') ?_
      walk_at "go"
      refine w_ixAT (Evl.st_of (e13 _ _ hb)) (atI_pos (by omega) hy') ?_
      walk_at "go"
      have okv : okD n v = true := List.all_eq_true.mp al v (List.mem_of_getElem? hv)
      cases n with
      | zero => cases v <;> cases okv
      | succ n =>
        refine ap_alike (Dq.up e13 _ _ qx) (Dq.up e13 _ _ qy) okv fun H4 e4 => ?_
        walk_at "go"
        exact q H4 e4
    · walk_at "go"
      rename_i p2 H4 n4 e4 h4
      refine w_eqD (d := .list []) (e := .list []) (.lst (Evl.sq_of (e4 _ _ h3)) .nil) (.lst (Evl.sq_of h4) .nil) rfl rfl ?_
      exact k H4 (Evl.Ex.trans e1 (Evl.Ex.trans e2 (Evl.Ex.trans e3 e4)))
  | dict _ => exact absurd ⟨_, rfl⟩ isd
end
end EB
namespace EB
open PySem PySem.Spec L2 StX ClX
end EB
namespace EB
open PySem PySem.Spec L2 StX ClX
set_option maxHeartbeats 1000000
section
variable {K : PySem.W.Frag} {H : Hp} {Q : VK} {E : XK} {vs : List V}
theorem pure_with_credit (h : sp_with_credit K vs H Q E) : t_with_credit K (Dn Q) (start N_with_credit vs) H := by
  obtain ⟨a, ts, n, rfl, hT, f, h1, h2, k⟩ := h
  rw [st_with_credit]
  unfold t_with_credit
  walk_at "go"
  refine ap_needed_multiple hT f.1 fun H1 e1 => ?_
  have np := ndm_pos f.1.2
  have nl := ndm_le f.1.2
  have bt := bo_tenth f (d := ndm ts) (by omega)
  have bn := bo_nonneg f.1.2 (d := ndm ts) (by omega)
  walk_at "go"
  refine ap_bought (hT.up e1) f.1 fun H2 e2 => ?_
  walk_at "go"
  have dv : ∀ t ∈ ts, t.2.2 ∣ t.2.1 * ndm ts := fun t ht => Int.dvd_trans (ndm_dvd f.1.2 t ht) (Int.dvd_mul_left ..)
  have up0 : ∀ e, e ≤ n + bo ts e → e ≤ n * ndm ts / (ndm ts - bo ts (ndm ts)) := fun e he => cred_start f np dv he
  refine w_whileW (fun m σ' H' => ∃ (y : Int) (o : Option V), σ' = [some (.ref a), some (.int n), some (.int (ndm ts)), some (.int y), o] ∧ Ex H H' ∧ (∀ e, e ≤ n + bo ts e → e ≤ y) ∧ m = y.toNat) _
    ⟨_, none, rfl, Evl.Ex.trans e1 e2, up0, rfl⟩ ?_
  rintro m σ' H' ⟨y, o, rfl, e, up, rfl⟩
  have y0 : 0 ≤ y := up 0 (by rw [bo_zero]; omega)
  walk_at "go"
  refine ap_bought (hT.up e) f.1 fun H3 e3 => ?_
  walk_at "go"
  refine w_2 (fun lt => w_turn ?_) fun ge => ?_
  · walk_at "go"
    have b0 := bo_nonneg f.1.2 y0
    refine ⟨(n + bo ts y).toNat, by omega, n + bo ts y, _, rfl, Evl.Ex.trans e e3, fun e he => ?_, rfl⟩
    have := bo_mono f.1.2 (up e he)
    omega
  · walk_at "go"
    exact k y H3 (cred_of f h1 (by omega) up) (Evl.Ex.trans e e3)
theorem pure_Offer_credit (O : OfK K) (h : sp_Offer_credit K vs H Q E) : t_Offer_credit K (Dn Q) (start N_Offer_credit vs) H := by
  obtain ⟨o, ts, n, rfl, ho, ok, h1, h2, k⟩ := h
  obtain ⟨cls, np, _⟩ := O
  rw [st_Offer_credit]
  unfold t_Offer_credit
  walk_at "go"
  refine ap_validate_number h1 h2 fun H1 e1 => ?_
  obtain ⟨dx, a, ho1, hT⟩ := ho.up e1
  walk_at "go"
  exact ⟨a, ts, n, rfl, hT, ok.fair, h1, h2, fun D H2 c e2 => k D H2 c (Evl.Ex.trans e1 e2)⟩
end
end EB
namespace EB
open PySem PySem.Spec L2 StX ClX
set_option maxHeartbeats 1000000
section
variable {K : PySem.W.Frag} {H : Hp} {Q : VK} {E : XK} {vs : List V}
theorem pure_steady_begin (h : sp_steady_begin K vs H Q E) : t_steady_begin K (Dn Q) (start N_steady_begin vs) H := by
  obtain ⟨a, ts, rfl, hT, f, h1, k⟩ := h
  rw [st_steady_begin]
  unfold t_steady_begin
  walk_at "go"
  refine ap_period_of hT f.1 fun p H1 hp e1 h2 => ?_
  have pp := perd_pos f.1.2
  have np := nd_pos f
  have pl := perd_le f.1.2
  have q0 : bo ts (0 - perd ts) + bo ts (perd ts) = 0 := by
    have := bo_per f (0 - perd ts)
    rw [Int.sub_add_cancel, bo_zero] at this
    omega
  have t3 := std_three f h1
  walk_at "go"
  refine w_while (fun m σ' H' => ∃ b : Int, σ' = [some (.ref a), some (.int (nd ts)), some (.int (perd ts)), some (.int b)] ∧ Ex H H' ∧ 0 ≤ b ∧ (0 < b → ¬ Std ts (b - 1)) ∧ m = (3 - b).toNat) _ ⟨0, rfl, e1, by decide, fun z => absurd z (by decide), rfl⟩ ?_
  rintro m σ' H' ⟨b, rfl, e, b0, nb, rfl⟩
  have bl : b ≤ 3 := by
    by_cases z : b ≤ 3
    · exact z
    · exact absurd (t3.mono (by omega)) (nb (by omega))
  have B0 := bo_tenth f (d := 10 * b) (by omega)
  walk_at "go"
  refine ⟨a, ts, b, 0 - perd ts, rfl, hT.up e, f.1, ?_, ⟨10 * b, by omega, by omega⟩, fun D H2 d1 d2 d3 e2 => ?_⟩
  · unfold nd at np
    omega
  · walk_at "go"
    refine w_2 (fun neg => w_turn ?_) fun nn => ?_
    · have ns : ¬ Std ts b := fun s => by
        have := s D (by omega) neg
        omega
      have b3 : b ≠ 3 := fun z => ns (z ▸ t3)
      walk_at "go"
      exact ⟨(3 - (b + 1)).toNat, by omega, b + 1, rfl, Evl.Ex.trans e e2, by omega, fun _ => by rw [Int.add_sub_cancel]; exact ns, rfl⟩
    · have st : Std ts b := fun d d1' d2' => by
        by_cases z : d < b + bo ts d
        · exact z
        · have := d3 d (by omega) (by omega)
          omega
      walk_at "go"
      exact k b H2 ⟨b0, bl, st, nb⟩ (Evl.Ex.trans e e2)
theorem pure_Offer_period (O : OfK K) (h : sp_Offer_period K vs H Q E) : t_Offer_period K (Dn Q) (start N_Offer_period vs) H := by
  obtain ⟨o, ts, rfl, ho, ok, k⟩ := h
  obtain ⟨cls, np, _⟩ := O
  obtain ⟨dx, a, ho1, hT⟩ := ho
  rw [st_Offer_period]
  unfold t_Offer_period
  walk_at "go"
  exact ap_period_of hT ok.fair.1 k
theorem pure_Offer_steady_from (O : OfK K) (h : sp_Offer_steady_from K vs H Q E) : t_Offer_steady_from K (Dn Q) (start N_Offer_steady_from vs) H := by
  obtain ⟨o, ts, rfl, ho, ok, k⟩ := h
  obtain ⟨cls, np, _⟩ := O
  obtain ⟨dx, a, ho1, hT⟩ := ho
  rw [st_Offer_steady_from]
  unfold t_Offer_steady_from
  walk_at "go"
  exact ap_steady_begin hT ok.fair ok.one k
end
end EB
namespace EB
open PySem PySem.Spec L2 StX ClX
set_option maxHeartbeats 1000000
section
variable {K : PySem.W.Frag} {H : Hp} {Q : VK} {E : XK} {vs : List V}
theorem kindsOf_nd {ts : List Tr} {f : Tr → Int} (ok : OfferOk ts) : ((kindsOf ts f).map (·.1)).Nodup := by
  have e : (kindsOf ts f).map (·.1) = ts.map (·.1) := by
    unfold kindsOf
    rw [List.map_map]
    rfl
  rw [e]
  exact ok.nodup
theorem kindsOf_get {ts : List Tr} {f : Tr → Int} {i : Nat} {t : Tr} {p : Str × Int} (ht : ts[i]? = some t) (hp : (kindsOf ts f)[i]? = some p) : p = (t.1, f t) := by
  unfold kindsOf at hp
  rw [List.getElem?_map, ht] at hp
  exact (Option.some.inj hp).symm
theorem pure_Offer_left_over (O : OfK K) (h : sp_Offer_left_over K vs H Q E) : t_Offer_left_over K (Dn Q) (start N_Offer_left_over vs) H := by
  obtain ⟨o, ts, n, rfl, ho, ok, h1, h2, k⟩ := h
  obtain ⟨cls, np, _⟩ := O
  have dn := (drk_spec ok.fair h1).nn
  have dl := drk_le ok.fair h1
  rw [st_Offer_left_over]
  unfold t_Offer_left_over
  walk_at "go"
  refine w_offer ho ok h1 h2 fun H1 e1 => ?_
  obtain ⟨dx, a, ho1, hT⟩ := ho.up e1
  obtain ⟨xs, ha, hp⟩ := hT
  have len3 := ok.fair.1.1
  walk_at "go"
  refine w_dcTa (left ts n) (kindsOf_nd ok) (Evl.st_of ha) (by rw [pairedLen hp]; omega) (by rw [pairedLen hp]; unfold left kindsOf; rw [List.length_map]) (fun i x p hi hpi H2 e2 R q => ?_) fun p H2 n2 e2 h2 => ?_
  · obtain ⟨t, ht, z⟩ := pairedGet hp hi
    obtain ⟨px, rfl, hx⟩ := z
    obtain ⟨g1, g2, g3, g4⟩ := ok.fair.1.2 t (List.mem_of_getElem? ht)
    have ep := kindsOf_get ht hpi
    subst ep
    dsimp only [wipe, List.set]
    walk_at "go"
    refine ⟨rfl, ?_⟩
    walk_at "go"
    exact q _ (Evl.Ex.refl _)
  · exact k p H2 (Evl.fresh_back e1 n2) (Evl.Ex.trans e1 e2) h2
end
end EB
namespace EB
open PySem PySem.Spec L2 StX ClX
set_option maxHeartbeats 1000000
section
variable {K : PySem.W.Frag} {H : Hp} {Q : VK} {E : XK} {vs : List V}
theorem pure_Offer_trades_made (O : OfK K) (h : sp_Offer_trades_made K vs H Q E) : t_Offer_trades_made K (Dn Q) (start N_Offer_trades_made vs) H := by
  obtain ⟨o, ts, n, rfl, ho, ok, h1, h2, k⟩ := h
  obtain ⟨cls, np, _⟩ := O
  have dn := (drk_spec ok.fair h1).nn
  have dl := drk_le ok.fair h1
  rw [st_Offer_trades_made]
  unfold t_Offer_trades_made
  walk_at "go"
  refine w_offer ho ok h1 h2 fun H1 e1 => ?_
  obtain ⟨dx, a, ho1, hT⟩ := ho.up e1
  obtain ⟨xs, ha, hp⟩ := hT
  have len3 := ok.fair.1.1
  walk_at "go"
  refine w_dcTa (made ts n) (kindsOf_nd ok) (Evl.st_of ha) (by rw [pairedLen hp]; omega) (by rw [pairedLen hp]; unfold made kindsOf; rw [List.length_map]) (fun i x p hi hpi H2 e2 R q => ?_) fun p H2 n2 e2 h2 => ?_
  · obtain ⟨t, ht, z⟩ := pairedGet hp hi
    obtain ⟨px, rfl, hx⟩ := z
    obtain ⟨g1, g2, g3, g4⟩ := ok.fair.1.2 t (List.mem_of_getElem? ht)
    have ep := kindsOf_get ht hpi
    subst ep
    dsimp only [wipe, List.set]
    walk_at "go"
    refine ⟨rfl, ?_⟩
    walk_at "go"
    exact q _ (Evl.Ex.refl _)
  · exact k p H2 (Evl.fresh_back e1 n2) (Evl.Ex.trans e1 e2) h2
end
end EB
namespace EB
open PySem PySem.Spec L2 StX ClX
set_option maxHeartbeats 1000000
section
variable {K : PySem.W.Frag} {H : Hp} {Q : VK} {E : XK} {vs : List V}
theorem pure_fewest (h : sp_fewest K vs H Q E) : t_fewest K (Dn Q) (start N_fewest vs) H := by
  obtain ⟨a, ts, d, rfl, hT, f, l1, d0, k⟩ := h
  rw [st_fewest]
  unfold t_fewest
  walk_at "go"
  refine ap_period_of hT f.1 fun p H1 hp e1 h2 => ?_
  have pp := perd_pos f.1.2
  have pl := perd_small f.1
  have np := nd_pos f
  have nl := nd_small f
  have z := few0_pos f d0
  walk_at "go"
  rename_i q H2 n2 e2 h3
  have ez : 0 - (0 - d * nd ts) / perd ts = few0 ts d := rfl
  rw [ez] at h3 ⊢
  refine w_foTt (fun i σ' H' => ∃ o5 : Option V, σ' = [some (.ref a), some (.int d), some (.int (nd ts)), some (.int (perd ts)), some (.int (few0 ts d)), o5] ∧ Ex H2 H' ∧ ∀ j : Int, 0 ≤ j → j < i → drk ts (few0 ts d + j) < d) (Evl.st_of h3) ⟨_, rfl, Evl.Ex.refl _, fun j j0 j1 => by omega⟩ (fun i σ' H' _ ⟨_, _, e, _⟩ => exT (Evl.st_of h3) e) ?_ ?_
  · rintro i x σ' H' hi ⟨o5, rfl, e, no⟩
    have il : i < 3 := (List.getElem?_eq_some_iff.mp hi).1
    have ex : x = .int (few0 ts d + i) := by
      rcases (by omega : i = 0 ∨ i = 1 ∨ i = 2) with rfl | rfl | rfl
      · rw [Int.natCast_zero, Int.add_zero]
        exact (Option.some.inj hi).symm
      · exact (Option.some.inj hi).symm
      · exact (Option.some.inj hi).symm
    subst ex
    walk_at "go"
    refine ap_total (hT.up (Evl.Ex.trans e1 (Evl.Ex.trans e2 e))) f l1 (by omega) fun H3 e3 => ?_
    walk_at "go"
    refine w_2 (fun en => ?_) fun no' => ?_
    · walk_at "go"
      exact k _ H3 (few_at f d0 (by omega) en fun j j0 j1 => no j j0 (by omega)) (Evl.Ex.trans e1 (Evl.Ex.trans e2 (Evl.Ex.trans e e3)))
    · walk_at "go"
      refine ⟨_, rfl, Evl.Ex.trans e e3, fun j j0 j1 => ?_⟩
      by_cases q : j < i
      · exact no j j0 q
      · obtain rfl : j = i := by omega
        omega
  · rintro σ' H' ⟨o5, rfl, e, no⟩
    walk_at "go"
    exact k _ H' (few_at f d0 (by decide) (few0_three f l1 d0) fun j j0 j1 => no j j0 (by simpa using j1)) (Evl.Ex.trans e1 (Evl.Ex.trans e2 e))
theorem pure_Offer_fewest_bottles (O : OfK K) (h : sp_Offer_fewest_bottles K vs H Q E) : t_Offer_fewest_bottles K (Dn Q) (start N_Offer_fewest_bottles vs) H := by
  obtain ⟨o, ts, d, rfl, ho, ok, h1, h2, k⟩ := h
  obtain ⟨cls, np, _⟩ := O
  rw [st_Offer_fewest_bottles]
  unfold t_Offer_fewest_bottles
  walk_at "go"
  refine ap_validate_number h1 h2 fun H1 e1 => ?_
  obtain ⟨dx, a, ho1, hT⟩ := ho.up e1
  walk_at "go"
  exact ap_fewest hT ok.fair ok.one h1 fun D H2 c e2 => k D H2 c (Evl.Ex.trans e1 e2)
theorem pure_Offer_contains (O : OfK K) (h : sp_Offer_contains K vs H Q E) : t_Offer_contains K (Dn Q) (start N_Offer_contains vs) H := by
  obtain ⟨o, ts, d, rfl, ho, ok, h1, k⟩ := h
  obtain ⟨cls, np, _⟩ := O
  obtain ⟨dx, a, ho1, hT⟩ := ho
  rw [st_Offer_contains]
  unfold t_Offer_contains
  walk_at "go"
  refine ap_fewest hT ok.fair ok.one h1 fun F H1 c e1 => ?_
  walk_at "go"
  refine ap_total (hT.up e1) ok.fair ok.one c.pos fun H2 e2 => ?_
  walk_at "go"
  exact k _ H2 (by rw [decide_eq_true_iff]; exact com_few ok.fair c) (Evl.Ex.trans e1 e2)
end
end EB
namespace EB
open PySem PySem.Spec L2 StX ClX
set_option maxHeartbeats 1000000
section
variable {K : PySem.W.Frag} {H : Hp} {Q : VK} {E : XK} {vs : List V}
theorem pure_common_of (h : sp_common_of K vs H Q E) : t_common_of K (Dn Q) (start N_common_of vs) H := by
  obtain ⟨a, b, ts, us, rfl, hT, hU, f1, f2, l1, l2, k⟩ := h
  rw [st_common_of]
  unfold t_common_of
  walk_at "go"
  refine ap_period_of hT f1.1 fun p H1 hp e1 h2 => ?_
  walk_at "go"
  refine ap_period_of (hU.up e1) f2.1 fun q H2 hq e2 h3 => ?_
  walk_at "go"
  have e12 := Evl.Ex.trans e1 e2
  refine ap_steady_begin (hT.up e12) f1 l1 fun x H3 hx e3 => ?_
  walk_at "go"
  refine ap_steady_begin (hU.up (Evl.Ex.trans e12 e3)) f2 l2 fun y H4 hy e4 => ?_
  have n1 := nd_pos f1
  have n2 := nd_pos f2
  have m1 := nd_small f1
  have m2 := nd_small f2
  have p1 := perd_pos f1.1.2
  have p2 := perd_pos f2.1.2
  have q1 := perd_small f1.1
  have q2 := perd_small f2.1
  walk_at "go"
  refine ap_common_multiple n1 n2 (by omega) fun H5 e5 => ?_
  have ll := lcmI_small n1 n2 m1 m2
  walk_at "go"
  have c := cmp_of f1 f2 hx hy
  have x3 := hx.three
  have y3 := hy.three
  refine w_2 (fun g => ?_) fun g => ?_
  · rw [if_pos g] at c
    walk_at "go"
    rename_i p6 H6 n6 e6 h6
    exact k _ _ _ p6 H6 c x3 (by omega) (by walk_at "ex") h6
  · rw [if_neg g] at c
    walk_at "go"
    rename_i p6 H6 n6 e6 h6
    exact k _ _ _ p6 H6 c y3 (by omega) (by walk_at "ex") h6
theorem pure_is_never_more (h : sp_is_never_more K vs H Q E) : t_is_never_more K (Dn Q) (start N_is_never_more vs) H := by
  obtain ⟨a, b, ts, us, rfl, hT, hU, f1, f2, l1, l2, k⟩ := h
  rw [st_is_never_more]
  unfold t_is_never_more
  walk_at "go"
  refine ap_common_of hT hU f1 f2 l1 l2 fun s L g p H1 c s3 l3 e1 h1 => ?_
  have s0 := c.s0
  have l0 := c.l0
  walk_at "go"
  refine w_2 (fun g0 => ?_) fun g0 => ?_
  · walk_at "go"
    exact k false H1 ⟨fun z => absurd z (by decide), fun z => absurd z (c.more g0)⟩ e1
  · walk_at "go"
    refine w_forR1 (n := s + L + 1) (fun i σ' H' => ∃ o5 : Option V, σ' = [some (.ref a), some (.ref b), some (.int s), some (.int L), some (.int g), o5] ∧ Ex H H' ∧ ∀ n : Int, 0 ≤ n → n < i → drk ts n ≤ drk us n) (by omega) (fun R q => by walk_at "go"; exact q) ⟨_, rfl, e1, fun n n0 n1 => by omega⟩ ?_ ?_
    · rintro i σ' H' hi ⟨o5, rfl, e, le⟩
      walk_at "go"
      refine ap_total (hT.up e) f1 l1 (by omega) fun H2 e2 => ?_
      walk_at "go"
      refine ap_total (hU.up (Evl.Ex.trans e e2)) f2 l2 (by omega) fun H3 e3 => ?_
      have e03 : Ex H H3 := by walk_at "ex"
      walk_at "go"
      refine w_2 (fun t => ?_) fun t => ?_
      · walk_at "go"
        exact k false H3 ⟨fun z => absurd z (by decide), fun z => by have := z i (by omega); omega⟩ e03
      · walk_at "go"
        refine ⟨_, rfl, e03, fun n n0 n1 => ?_⟩
        by_cases q : n < i
        · exact le n n0 q
        · obtain rfl : n = i := by omega
          omega
    · rintro σ' H' ⟨o5, rfl, e, le⟩
      walk_at "go"
      exact k true H' ⟨fun _ => c.never (by omega) fun n n0 n1 => le n n0 (by omega), fun _ => rfl⟩ e
theorem pure_first_gap (h : sp_first_gap K vs H Q E) : t_first_gap K (Dn Q) (start N_first_gap vs) H := by
  obtain ⟨a, b, ts, us, rfl, hT, hU, f1, f2, l1, l2, k⟩ := h
  rw [st_first_gap]
  unfold t_first_gap
  walk_at "go"
  refine ap_common_of hT hU f1 f2 l1 l2 fun s L g p H1 c s3 l3 e1 h1 => ?_
  have s0 := c.s0
  have l0 := c.l0
  walk_at "go"
  refine w_forR1 (n := s + L + 1) (fun i σ' H' => ∃ o5 : Option V, σ' = [some (.ref a), some (.ref b), some (.int s), some (.int L), some (.int g), o5] ∧ Ex H H' ∧ ∀ n : Int, 0 ≤ n → n < i → drk ts n = drk us n) (by omega) (fun R q => by walk_at "go"; exact q) ⟨_, rfl, e1, fun n n0 n1 => by omega⟩ ?_ ?_
  · rintro i σ' H' hi ⟨o5, rfl, e, le⟩
    walk_at "go"
    refine ap_total (hT.up e) f1 l1 (by omega) fun H2 e2 => ?_
    walk_at "go"
    refine ap_total (hU.up (Evl.Ex.trans e e2)) f2 l2 (by omega) fun H3 e3 => ?_
    have e03 : Ex H H3 := by walk_at "ex"
    walk_at "go"
    refine w_2n (fun t => ?_) fun t => ?_
    · walk_at "go"
      exact k _ H3 (.inr ⟨i, rfl, by omega, t, fun m m0 m1 => le m m0 m1⟩) e03
    · walk_at "go"
      refine ⟨_, rfl, e03, fun n n0 n1 => ?_⟩
      by_cases q : n < i
      · exact le n n0 q
      · obtain rfl : n = i := by omega
        exact t
  · rintro σ' H' ⟨o5, rfl, e, le⟩
    walk_at "go"
    exact k .non H' (.inl ⟨rfl, c.same fun n n0 n1 => le n n0 (by omega)⟩) e
theorem pure_Offer_le (O : OfK K) (h : sp_Offer_le K vs H Q E) : t_Offer_le K (Dn Q) (start N_Offer_le vs) H := by
  obtain ⟨a, b, ts, us, rfl, ho, hp, o1, o2, k⟩ := h
  obtain ⟨cls, np, _⟩ := O
  obtain ⟨dx, x, ho1, hT⟩ := ho
  obtain ⟨dy, y, hp1, hU⟩ := hp
  rw [st_Offer_le]
  unfold t_Offer_le
  walk_at "go"
  exact ap_is_never_more hT hU o1 o2 k
theorem pure_Offer_lt (O : OfK K) (h : sp_Offer_lt K vs H Q E) : t_Offer_lt K (Dn Q) (start N_Offer_lt vs) H := by
  obtain ⟨a, b, ts, us, rfl, ho, hp, o1, o2, k⟩ := h
  obtain ⟨cls, np, _⟩ := O
  obtain ⟨dx, x, ho1, hT⟩ := ho
  obtain ⟨dy, y, hp1, hU⟩ := hp
  rw [st_Offer_lt]
  unfold t_Offer_lt
  walk_at "go"
  refine ap_is_never_more hT hU o1 o2 fun z H1 hz e1 => ?_
  refine ⟨z, rfl, ?_⟩
  refine w_2b (fun t => ?_) fun t => ?_
  · walk_at "go"
    refine ap_first_gap (hT.up e1) (hU.up e1) o1 o2 fun v H2 g e2 => ?_
    walk_at "go"
    refine k _ H2 ?_ (Evl.Ex.trans e1 e2)
    rcases g with ⟨rfl, g⟩ | ⟨n, rfl, n0, g, _⟩
    · exact ⟨fun z => absurd z (by decide), fun z => absurd g z.2⟩
    · exact ⟨fun _ => ⟨hz.mp t, fun s => g (s n n0)⟩, fun _ => rfl⟩
  · subst t
    exact k false H1 ⟨fun z => absurd z (by decide), fun z => absurd (hz.mpr z.1) (by decide)⟩ e1
end
end EB
namespace EB
open PySem PySem.Spec L2 StX ClX
set_option maxHeartbeats 1000000
section
variable {K : PySem.W.Frag} {H : Hp} {E : XK} {vs : List V}
theorem w_gThen {t u : TGn} {D : GEnds} {ys : List V} {σ : St} {H : Hp} (q : t { D with nx := fun ys' σ' H' => u D ys' σ' H' } ys σ H) : tGThen t u D ys σ H := q
theorem w_plain {t : TS} {D : GEnds} {ys : List V} {σ : St} {H : Hp} (q : t (D.at ys) σ H) : tPlain t D ys σ H := q
theorem w_g0 {D : GEnds} {ys : List V} {σ : St} {H : Hp} (q : D.nx ys σ H) : tG0 D ys σ H := q
theorem w_yield {te : TE} {D : GEnds} {ys : List V} {σ : St} {H : Hp} (l : ys.length < 100000) (q : te σ H fun x H1 => D.nx (ys ++ [x]) σ H1) : tGYield te D ys σ H := ⟨Nat.lt_trans l (by decide), q⟩
theorem w_gWhile {c : TT} {tb : TGn} {D : GEnds} {ys : List V} {σ : St} {H : Hp} (W : Nat → List V → St → Hp → Prop) (m : Nat) (h0 : W m ys σ H)
    (hs : ∀ m ys σ H, W m ys σ H → c σ H fun b H1 => if b = true then ∃ N : List V → St → Hp → Prop, (∀ ys' σ' H', N ys' σ' H' → ∃ m', m' < m ∧ W m' ys' σ' H') ∧ tb { D with nx := N, ct := N, bk := D.nx } ys σ H1 else D.nx ys σ H1) : tGWhile c tb D ys σ H := ⟨W, ⟨m, h0⟩, hs⟩
theorem w_gTurn {W : Nat → List V → St → Hp → Prop} {m : Nat} {tb : TGn} {D : GEnds} {ys : List V} {σ : St} {H : Hp} (q : tb { D with nx := fun ys' σ' H' => ∃ m', m' < m ∧ W m' ys' σ' H', ct := fun ys' σ' H' => ∃ m', m' < m ∧ W m' ys' σ' H', bk := D.nx } ys σ H) :
    ∃ N : List V → St → Hp → Prop, (∀ ys' σ' H', N ys' σ' H' → ∃ m', m' < m ∧ W m' ys' σ' H') ∧ tb { D with nx := N, ct := N, bk := D.nx } ys σ H := ⟨_, fun _ _ _ z => z, q⟩
theorem bo_diff {ts : List Tr} (f : Fair ts) {d D : Int} (h : d ≤ D) : 10 * (bo ts D - bo ts d) ≤ 9 * (D - d) + 30 := by
  have a := bo_le f.1.2 D
  have b := bo_ge f.1.2 d
  have l := f.1.1
  have c : (D - d) * (10 * bo ts 27720) ≤ (D - d) * (9 * 27720) := Int.mul_le_mul_of_nonneg_left f.2 (by omega)
  have e : (D - d) * (10 * bo ts 27720) = 10 * (D * bo ts 27720 - d * bo ts 27720) := by
    rw [← Int.sub_mul, ← Int.mul_assoc, Int.mul_comm (D - d) 10, Int.mul_assoc]
  omega
theorem nine_ten : (10 : Int) ^ 20 * 9 ^ 460 < 10 ^ 460 := by decide +kernel
/-- how near the rounds are to their end -/
structure Near (i : Nat) (x : Int) : Prop where
  early : i ≤ 460 → (x - 30) * 10 ^ i ≤ 10 ^ 20 * 9 ^ i
  late : 460 ≤ i → x + (i - 460 : Nat) ≤ 30
theorem Near.step {i : Nat} {x y : Int} (h : Near i x) (h1 : 10 * y ≤ 9 * x + 30) (h2 : y < x) : Near (i + 1) y := by
  have ev : i + 1 ≤ 460 → (y - 30) * 10 ^ (i + 1) ≤ 10 ^ 20 * 9 ^ (i + 1) := fun l => by
    have a := h.early (by omega)
    have p : (0 : Int) ≤ 10 ^ i := Int.pow_nonneg (by decide)
    have b : (10 * (y - 30)) * 10 ^ i ≤ (9 * (x - 30)) * 10 ^ i := Int.mul_le_mul_of_nonneg_right (by omega) p
    have e1 : (y - 30) * 10 ^ (i + 1) = (10 * (y - 30)) * 10 ^ i := by
      rw [Int.pow_succ, Int.mul_comm ((10 : Int) ^ i), ← Int.mul_assoc, Int.mul_comm (y - 30)]
    have e2 : ∀ c : Int, c * 9 ^ (i + 1) = 9 * (c * 9 ^ i) := fun c => by rw [Int.pow_succ, ← Int.mul_assoc, Int.mul_comm]
    rw [e1, e2 (10 ^ 20)]
    rw [Int.mul_assoc] at b
    rw [Int.mul_assoc] at b
    rw [Int.mul_assoc]
    omega
  refine ⟨ev, fun l => ?_⟩
  by_cases q : 460 ≤ i
  · have := h.late q
    omega
  · have e : i + 1 = 460 := by omega
    have a := ev (by omega)
    rw [e] at a
    have n := nine_ten
    have c : (y - 30) * 10 ^ 460 < 1 * 10 ^ 460 := by
      rw [Int.one_mul]
      exact Int.lt_of_le_of_lt a n
    have := Int.lt_of_mul_lt_mul_right c (Int.pow_nonneg (by decide))
    omega
theorem pure_Offer_rounds {Q : List V → Hp → Prop} (O : OfK K) (h : sp_Offer_rounds K vs H Q E) : t_Offer_rounds K { nx := fun ys _ H' => Q ys H', rt := fun ys v H' => v = .non ∧ Q ys H' } [] (start N_Offer_rounds vs) H := by
  obtain ⟨o, ts, n, rfl, ho, ok, h1, h2, k⟩ := h
  obtain ⟨cls, np, _⟩ := O
  have f := ok.fair
  have t := drk_spec f h1
  have tf := t.fix
  have tn := t.nn
  have tl := drk_le f h1
  rw [st_Offer_rounds]
  unfold t_Offer_rounds
  refine w_gThen (w_plain ?_)
  walk_at "go"
  refine ap_validate_number h1 h2 fun H1 e1 => ?_
  dsimp only [GEnds.at]
  refine w_gThen (w_plain ?_)
  dsimp only [GEnds.at]
  walk_at "go"
  refine w_gThen ?_
  refine w_gWhile (fun m ys σ' H' => ∃ (d fl : Int) (o4 : Option V) (fs : List Int), σ' = [some (.ref o), some (.int n), some (.int d), some (.int fl), o4] ∧ ys = fs.map V.int ∧ Ex H H' ∧ 0 ≤ d ∧ 0 ≤ fl ∧ d ≤ drk ts n ∧ d + fl = n + bo ts d ∧ Near fs.length (drk ts n - d) ∧
      (∀ rest, Rounds ts n d fl rest → Rounds ts n 0 n (fs ++ rest)) ∧ m = (drk ts n - d).toNat) _ ⟨0, n, none, [], rfl, rfl, e1, by decide, h1, tn, by rw [bo_zero]; omega, ⟨fun _ => by simp; omega, fun z => absurd z (by decide)⟩, fun rest z => z, rfl⟩ ?_
  · rintro m ys σ' H' ⟨d, fl, o4, fs, rfl, rfl, e, d0, f0, dl, df, nr, rs, rfl⟩
    obtain ⟨dx, a, ho1, hT⟩ := ho.up e
    walk_at "go"
    refine w_2 (fun pos => ?_) fun npos => ?_
    · refine w_gTurn ?_
      refine w_gThen (w_yield ?_ ?_)
      · rw [List.length_map]
        by_cases q : 460 ≤ fs.length
        · have := nr.late q
          omega
        · omega
      walk_at "go"
      try dsimp only
      refine w_gThen (w_plain ?_)
      dsimp only [GEnds.at]
      walk_at "go"
      refine ap_bought hT f.1 fun H2 e2 => ?_
      walk_at "go"
      try dsimp only
      refine w_gThen (w_plain ?_)
      dsimp only [GEnds.at]
      have ho2 := e2 _ _ ho1
      walk_at "go"
      refine ap_bought (hT.up e2) f.1 fun H3 e3 => ?_
      walk_at "go"
      dsimp only
      refine w_g0 ?_
      have up := bo_mono f.1.2 dl
      have m1 := bo_mono f.1.2 (show d ≤ d + fl by omega)
      have bd := bo_diff f dl
      refine ⟨(drk ts n - (d + fl)).toNat, by omega, d + fl, bo ts (d + fl) - bo ts d, _, fs ++ [fl], rfl, by simp, by walk_at "ex", by omega, by omega, by omega, by omega, ?_, fun rest z => ?_, rfl⟩
      · rw [List.length_append, List.length_singleton]
        exact nr.step (by omega) (by omega)
      · rw [List.append_assoc]
        exact rs _ (.cons pos z)
    · have z : fl = 0 := by omega
      subst z
      have := rs [] .nil
      rw [List.append_nil] at this
      refine w_g0 (k fs H' this ?_ e)
      by_cases q : 460 ≤ fs.length
      · have := nr.late q
        omega
      · omega
end
end EB
namespace EB
open PySem PySem.Spec L2 StX ClX
set_option maxHeartbeats 2000000
section
variable {K : PySem.W.Frag} {H : Hp} {Q : VK} {E : XK} {vs : List V}
theorem pure_Offer_trades (O : OfK K) (h : sp_Offer_trades K vs H Q E) : t_Offer_trades K (Dn Q) (start N_Offer_trades vs) H := by
  obtain ⟨o, ts, rfl, ho, k⟩ := h
  obtain ⟨cls, np, _⟩ := O
  obtain ⟨dx, a, ho1, hT⟩ := ho
  rw [st_Offer_trades]
  unfold t_Offer_trades
  walk_at "go"
  exact k a H hT (Evl.Ex.refl _)
end
end EB
namespace EB
open PySem PySem.Spec L2 StX ClX
set_option maxHeartbeats 1000000
section
variable {K : PySem.W.Frag} {H : Hp} {Q : VK} {E : XK} {vs : List V}
theorem pure_Offer_bool (O : OfK K) (h : sp_Offer_bool K vs H Q E) : t_Offer_bool K (Dn Q) (start N_Offer_bool vs) H := by
  obtain ⟨o, ts, rfl, ho, ok, k⟩ := h
  obtain ⟨cls, np, _⟩ := O
  obtain ⟨dx, a, ho1, xs, ha, hp⟩ := ho
  have len3 := ok.fair.1.1
  rw [st_Offer_bool]
  unfold t_Offer_bool
  walk_at "go"
  refine w_lcTa ((ts.map fun t => decide (0 < t.2.1)).map V.bl) (Evl.st_of ha) (by rw [pairedLen hp]; omega) (by simp [pairedLen hp]) (fun i x y hi hy H1 e1 R q => ?_) fun p H2 n2 e2 h2 => ?_
  · obtain ⟨t, ht, px, rfl, hx⟩ := pairedGet hp hi
    have ey : y = .bl (decide (0 < t.2.1)) := by
      rw [List.getElem?_map, List.getElem?_map, ht] at hy
      exact (Option.some.inj hy).symm
    subst ey
    dsimp only [wipe, List.set]
    walk_at "go"
    refine ⟨rfl, ?_⟩
    walk_at "go"
    exact q _ (Evl.Ex.refl _)
  · walk_at "go"
    refine w_any (Evl.sq_of h2) ?_
    have := k H2 e2
    unfold gives at this
    rw [List.any_map]
    exact this
theorem pure_Offer_count_up_to (O : OfK K) (h : sp_Offer_count_up_to K vs H Q E) : t_Offer_count_up_to K (Dn Q) (start N_Offer_count_up_to vs) H := by
  obtain ⟨o, ts, d, rfl, ho, ok, d0, k⟩ := h
  obtain ⟨cls, np, _⟩ := O
  obtain ⟨dx, a, ho1, hT⟩ := ho
  rw [st_Offer_count_up_to]
  unfold t_Offer_count_up_to
  walk_at "go"
  refine ap_fewest hT ok.fair ok.one (by omega) fun F H1 hF e1 => ?_
  walk_at "go"
  have := k H1 e1
  unfold mis at this
  rw [few_eq hF] at this
  exact this
theorem pure_Offer_count_missing (h : sp_Offer_count_missing K vs H Q E) : t_Offer_count_missing K (Dn Q) (start N_Offer_count_missing vs) H := by
  obtain ⟨o, ts, d, rfl, ho, ok, d0, d1, k⟩ := h
  rw [st_Offer_count_missing]
  unfold t_Offer_count_missing
  walk_at "own"
  refine ap_validate_number d0 d1 fun H1 e1 => ?_
  walk_at "own"
  exact ap_Offer_count_up_to (ho.up e1) ok d0 fun H2 e2 => k H2 (Evl.Ex.trans e1 e2)
theorem pure_Offer_nth_missing (h : sp_Offer_nth_missing K vs H Q E) : t_Offer_nth_missing K (Dn Q) (start N_Offer_nth_missing vs) H := by
  obtain ⟨o, ts, c, rfl, ho, ok, c0, c1, k⟩ := h
  have f := ok.fair
  have one := ok.one
  rw [st_Offer_nth_missing]
  unfold t_Offer_nth_missing
  walk_at "own"
  refine ap_validate_number c0 c1 fun H1 e1 => ?_
  walk_at "own"
  refine w_tru (fun Q q => w_var rfl q) (ho.up e1) ok fun H2 e2 => ?_
  cases hg : gives ts with
  | false =>
    walk_at "own"
    exact k .non H2 (.inl ⟨rfl, hg⟩) (Evl.Ex.trans e1 e2)
  | true =>
    walk_at "own"
    refine w_while (fun m σ' H' => ∃ (hi : Int) (o3 o4 : Option V), σ' = [some (.ref o), some (.int c), some (.int hi), o3, o4] ∧ Ex H H' ∧ 1 ≤ hi ∧ hi ≤ 24 * c + 92 ∧ m = (24 * c + 92 - hi).toNat) _ ⟨1, _, _, rfl, Evl.Ex.trans e1 e2, by decide, by omega, rfl⟩ ?_
    rintro m σ' H3 ⟨hi, o3, o4, rfl, e3, i1, i2, rfl⟩
    walk_at "own"
    refine ap_Offer_count_up_to (ho.up e3) ok (by omega) fun H4 e4 => ?_
    have e04 := Evl.Ex.trans e3 e4
    walk_at "own"
    refine w_2 (fun lt => w_turn ?_) fun ge => ?_
    · have big := mis_big f one hg (d := hi) (by omega)
      refine w_aug rfl (w_c (w_ipM (cmul_r (by decide) (by decide)) ?_))
      dsimp only [List.set]
      exact ⟨_, by omega, hi * 2, _, _, rfl, e04, by omega, by omega, rfl⟩
    · walk_at "own"
      refine w_while (fun m σ' H' => ∃ (lo up : Int) (o4 : Option V), σ' = [some (.ref o), some (.int c), some (.int up), some (.int lo), o4] ∧ Ex H H' ∧ 0 ≤ lo ∧ lo ≤ up ∧ up ≤ 24 * c + 92 ∧ c ≤ mis ts up ∧ (∀ e, 0 ≤ e → e < lo → mis ts e < c) ∧ m = (up - lo).toNat) _ ⟨0, hi, _, rfl, e04, by decide, by omega, i2, by omega, fun e e0 e1 => by omega, rfl⟩ ?_
      rintro m σ' H5 ⟨lo, up, o4, rfl, e5, l0, l1, l2, en, no, rfl⟩
      walk_at "own"
      refine w_2 (fun lt => w_turn ?_) fun ge => ?_
      · walk_at "own"
        refine ap_Offer_count_up_to (ho.up e5) ok (by omega) fun H6 e6 => ?_
        walk_at "own"
        refine w_2 (fun q => ?_) fun q => ?_
        · walk_at "own"
          exact ⟨_, by omega, lo, (lo + up) / 2, _, rfl, Evl.Ex.trans e5 e6, l0, by omega, by omega, by omega, no, rfl⟩
        · walk_at "own"
          refine ⟨_, by omega, (lo + up) / 2 + 1, up, _, rfl, Evl.Ex.trans e5 e6, by omega, by omega, l2, en, fun e e0 e1 => ?_, rfl⟩
          have := mis_mono f one (a := e) (b := (lo + up) / 2) (by omega) (by omega)
          omega
      · have z : lo = up := by omega
        subst z
        walk_at "own"
        exact k _ H5 (.inr ⟨lo, rfl, hg, ⟨l0, en, no⟩, l2⟩) e5
end
end EB
namespace EB
open PySem PySem.Spec L2 StX ClX
set_option maxHeartbeats 1000000
section
variable {K : PySem.W.Frag} {H : Hp} {Q : VK} {E : XK} {vs : List V}
theorem drks_nonneg {ts : List Tr} (f : Fair ts) : ∀ {ns : List Int}, (∀ n ∈ ns, 0 ≤ n) → 0 ≤ ns.sum ∧ ∀ n ∈ ns, n ≤ ns.sum
  | [], _ => ⟨by simp, by simp⟩
  | n :: ns, h => by
    obtain ⟨a, b⟩ := drks_nonneg f (ns := ns) fun m hm => h m (List.mem_cons_of_mem _ hm)
    have h0 := h n List.mem_cons_self
    rw [List.sum_cons]
    refine ⟨by omega, fun m hm => ?_⟩
    rcases List.mem_cons.mp hm with e | hm
    · rw [e]
      omega
    · have := b m hm
      omega
theorem pure_Offer_pooled (O : OfK K) (h : spi_Offer_pooled K vs H Q E) : t_Offer_pooled K (Dn Q) (start N_Offer_pooled vs) H := by
  obtain ⟨o, ts, a, ns, rfl, ho, ok, ha, hl, h0, hs, k⟩ := h
  obtain ⟨s0, sle⟩ := drks_nonneg ok.fair h0
  rw [st_Offer_pooled]
  unfold t_Offer_pooled
  walk_at "go"
  refine w_foTt (fun i σ' H' => ∃ o2 : Option V, σ' = [some (.ref o), some (.ref a), o2] ∧ Ex H H') (Evl.st_of ha) ⟨_, rfl, Evl.Ex.refl _⟩ (fun i σ' H' _ ⟨_, _, e⟩ => exT (Evl.st_of ha) e) ?_ ?_
  · rintro i x σ' H' hi ⟨o2, rfl, e⟩
    rw [List.getElem?_map] at hi
    obtain ⟨n, hn, rfl⟩ := Option.map_eq_some_iff.mp hi
    have hm := List.mem_of_getElem? hn
    have n0 := h0 n hm
    have n1 := sle n hm
    walk_at "go"
    refine ap_validate_number n0 (by omega) fun H1 e1 => ?_
    exact ⟨_, rfl, Evl.Ex.trans e e1⟩
  · rintro σ' H' ⟨o2, rfl, e⟩
    walk_at "go"
    refine w_sumT (exT (Evl.st_of ha) e) ?_
    walk_at "go"
    obtain ⟨dx, a1, ho1, hT1⟩ := id ho
    refine w_isC (e _ _ ho1) ?_
    refine ap_Offer_call (ho.up e) ok s0 hs fun H1 e1 => ?_
    have eH1 : Ex H H1 := Evl.Ex.trans e e1
    walk_at "go"
    refine w_lcTa ((ns.map (drk ts)).map V.int) (Evl.st_of (eH1 _ _ ha)) (by rw [List.length_map]; omega) (by simp) ?_ ?_
    · intro i x y hi hy H2 e2 R q
      rw [List.getElem?_map] at hi
      obtain ⟨n, hn, rfl⟩ := Option.map_eq_some_iff.mp hi
      have ey : y = .int (drk ts n) := by
        rw [List.getElem?_map, List.getElem?_map, hn] at hy
        exact (Option.some.inj hy).symm
      subst ey
      have hm := List.mem_of_getElem? hn
      have n0 := h0 n hm
      have n1 := sle n hm
      have eH2 : Ex H H2 := Evl.Ex.trans eH1 e2
      dsimp only [wipe, List.set]
      walk_at "go"
      refine ⟨rfl, ?_⟩
      walk_at "go"
      refine ap_Offer_call (ho.up eH2) ok n0 (by omega) fun H3 e3 => q H3 e3
    · intro p H2 n2 e2 h2
      walk_at "go"
      refine w_sum (Evl.sq_of h2) ?_
      walk_at "go"
      exact k H2 (Evl.Ex.trans eH1 e2)
end
end EB
namespace EB
open PySem PySem.Spec L2 StX ClX
set_option maxHeartbeats 4000000
section
variable {K : PySem.W.Frag} {H : Hp} {Q : VK} {E : XK} {vs : List V}
theorem pure_Offer_missing {Q : List V → Hp → Prop} (O : OfK K) (h : sp_Offer_missing K vs H Q E) : t_Offer_missing K { nx := fun ys _ H' => Q ys H', rt := fun ys v H' => v = .non ∧ Q ys H' } [] (start N_Offer_missing vs) H := by
  obtain ⟨o, ts, a, b, rfl, ho, ok, ⟨a0, ab, b1, b2⟩, k⟩ := h
  obtain ⟨cls, np, _⟩ := O
  have f := ok.fair
  have l1 := ok.one
  rw [st_Offer_missing]
  unfold t_Offer_missing
  refine w_gThen (w_plain ?_)
  walk_at "go"
  refine ap_validate_number a0 (by omega) fun H1 e1 => ?_
  dsimp only [GEnds.at]
  refine w_gThen (w_plain ?_)
  dsimp only [GEnds.at]
  walk_at "go"
  try dsimp only
  refine w_gThen (w_plain ?_)
  dsimp only [GEnds.at]
  walk_at "go"
  try dsimp only
  apply w_joinC (fun (H' : Hp) => Ex H1 H')
  · intro fin
    refine w_2 (fun q => ?_) fun q => ?_
    · refine w_var rfl ?_
      refine w_nil ?_
      exact ap_validate_number ab (by omega) fun H2 e2 => fin H2 e2
    · walk_at "go"
      exact ap_validate_number ab b1 fun H2 e2 => fin H2 e2
  intro H2 e2
  try dsimp only
  refine w_gThen (w_plain ?_)
  dsimp only [GEnds.at]
  have hb := ho.up (Evl.Ex.trans e1 e2)
  obtain ⟨dx, p, hp, hT⟩ := hb
  walk_at "go"
  refine ap_fewest hT f l1 a0 fun F H3 hF e3 => ?_
  obtain rfl := (few_eq hF).symm
  walk_at "go"
  try dsimp only
  refine w_gThen ?_
  refine w_gForR2 (n := (b + 1 - a).toNat) (fun i ys σ' H' => ∃ o5 : Option V, σ' = [some (.ref o), some (.int a), some (.int b), some (.int (a + 10000 - 1)), some (.int (few ts (a + i))), o5] ∧ ys = (misL ts a i).map V.int ∧ Ex H H') (by omega) rfl (by omega) (fun R q => by walk_at "go"; exact q) ⟨none, by simp, by simp [misL], by walk_at "ex"⟩ ?_ ?_
  · rintro i ys σ' H' hi ⟨o5, rfl, rfl, e⟩
    obtain ⟨dx, p, hp, hT⟩ := ho.up e
    have fs := few_spec f l1 (d := a + i) (by omega)
    walk_at "go"
    try dsimp only
    refine w_gThen (w_gIf ?_)
    walk_at "go"
    refine ap_total hT f l1 fs.pos fun H4 e4 => ?_
    walk_at "go"
    have up := few_up f l1 (d := a + i) (by omega)
    have cf := com_few f fs
    refine w_2 (fun c => ?_) fun c => ?_
    · have c := cf.mp c
      refine w_gThen (w_plain ?_)
      dsimp only [GEnds.at]
      walk_at "go"
      refine w_g0 ?_
      refine w_g0 ⟨some (.int (a + i)), ?_, ?_, by walk_at "ex"⟩
      · rw [show a + ((i + 1 : Nat) : Int) = a + i + 1 by omega, up.1 c]
      · rw [misL_com c]
    · have c : ¬ Com ts (a + i) := fun z => c (cf.mpr z)
      refine w_gThen (w_yield ?_ ?_)
      · rw [List.length_map]
        have := misL_le (ts := ts) (a := a) (n := i)
        omega
      walk_at "go"
      refine w_g0 ?_
      refine w_g0 ⟨some (.int (a + i)), ?_, ?_, by walk_at "ex"⟩
      · rw [show a + ((i + 1 : Nat) : Int) = a + i + 1 by omega, up.2 c]
      · rw [misL_not c, List.map_append]
        rfl
  · rintro ys σ' H' ⟨o5, rfl, rfl, e⟩
    exact w_g0 (k H' e)
end
end EB
namespace EB
open PySem PySem.Spec L2 StX ClX
set_option maxHeartbeats 1000000
section
variable {H : Hp}
theorem dqTrs : ∀ {xs : List V} {ts : List Tr}, Paired (TrAt H) xs ts → DqAll H xs (ts.map trD)
  | _, _, .nil => .nil
  | _, _, .cons ⟨_, e, hp⟩ r => .cons (by rw [e]; exact .tup hp (.cons (.str _) (.cons (.int _) (.cons (.int _) .nil)))) (dqTrs r)
theorem Trs.dq {a : Addr} {ts : List Tr} (h : Trs H a ts) : Dq H (.ref a) (trsD ts) := by
  obtain ⟨xs, h1, h2⟩ := h
  exact .tup h1 (dqTrs h2)
theorem okD_trs {ts : List Tr} (r : Raw ts) (n : Nat) : okD (n + 3) (trsD ts) = true := by
  refine Bool.and_eq_true_iff.mpr ⟨decide_eq_true (by rw [List.length_map]; have := r.len; omega), List.all_eq_true.mpr fun d hd => ?_⟩
  obtain ⟨t, ht, rfl⟩ := List.mem_map.mp hd
  simp [trD, okD, (r.str t ht).2]
end
end EB
namespace EB
open PySem PySem.Spec L2 StX ClX
set_option maxHeartbeats 1000000
/-- the class Offer and its error, as the walk asks them -/
structure OfX (K : PySem.W.Frag) : Prop where
  o : OfK K
  io : OexC K (He.ga K "InvalidOffer")
  no : PySem.W.findIn K (.ref (He.ga K "InvalidOffer")) "index" = some none
section
variable {K : PySem.W.Frag} {H : Hp} {Q : VK} {E : XK} {vs : List V}
theorem bo_cap {ts : List Tr} (g : Goods ts) {d : Int} (h : 0 ≤ d) : bo ts d ≤ 36 * d := by
  have go : ∀ us : List Tr, (∀ t ∈ us, Good t) → bo us d ≤ 12 * d * us.length := by
    intro us
    induction us with
    | nil => intro _; simp [bo]
    | cons t us ih =>
      intro gu
      obtain ⟨g1, g2, g3, _⟩ := gu t List.mem_cons_self
      have i := ih fun u hu => gu u (List.mem_cons_of_mem _ hu)
      have a : t.2.1 * d ≤ 12 * d := Int.mul_le_mul_of_nonneg_right g2 h
      have b : t.2.1 * d / t.2.2 ≤ t.2.1 * d := Int.ediv_le_self _ (Int.mul_nonneg g1 h)
      rw [bo_cons, List.length_cons, Int.natCast_add, Int.mul_add]
      omega
  have a := go ts g.2
  have l : 12 * d * (ts.length : Int) ≤ 12 * d * 3 := Int.mul_le_mul_of_nonneg_left (by have := g.1; omega) (by omega)
  omega
theorem shaped_raw {ts : List Tr} (r : Raw ts) : SeqAt.shaped (trsD ts) = true := by
  unfold SeqAt.shaped trsD
  rw [Bool.and_eq_true]
  refine ⟨canLay_trs fun t ht => (r.str t ht).2, decide_eq_true ?_⟩
  show PyData.depthAll (ts.map trD) + 1 ≤ 64
  have := depth_trs ts
  omega
theorem w_raiseF {C : Addr} {f : Str} {te : TE} {σ : L2.St} {D : Ends} {y : V} (T : OexC K C) (no : PySem.W.findIn K (.ref C) f = some none) (he : ∀ R : VK, R y H → te σ H R) (q : ∀ d H', H d = none → Ex H H' → H' d = some (.xd [(f, y)]) → E (.ref C) (some d) H') : tRs (tMkF K C f te) E D σ H :=
  w_mkK T no (fun R h => w_cons (he _ (w_nil h))) q
theorem w_raiseT {C : Addr} {σ : L2.St} {D : Ends} (q : E (.ref C) none H) : tRs (tMkT C) E D σ H := q
theorem pure_Offer_kinds (O : OfK K) (h : sp_Offer_kinds K vs H Q E) : t_Offer_kinds K (Dn Q) (start N_Offer_kinds vs) H := by
  obtain ⟨o, ts, rfl, ho, l, k⟩ := h
  obtain ⟨cls, np, _⟩ := O
  obtain ⟨dx, a, ho1, xs, ha, hp⟩ := ho
  have lenx := pairedLen hp
  rw [st_Offer_kinds]
  unfold t_Offer_kinds
  walk_at "go"
  refine w_lcTa (ts.map fun t => V.str t.1) (Evl.st_of ha) (by omega) (by rw [List.length_map, lenx]) ?_ ?_
  · intro j z y hz hy H4 e4 R q
    obtain ⟨t, ht, p2, rfl, hp2⟩ := pairedGet hp hz
    have ey : y = .str t.1 := by
      rw [List.getElem?_map, ht] at hy
      exact (Option.some.inj hy).symm
    subst ey
    dsimp only [wipe, List.set]
    walk_at "go"
    refine ⟨rfl, ?_⟩
    walk_at "go"
    exact q _ (Evl.Ex.refl _)
  · intro p4 H4 n4 e4 h4
    walk_at "go"
    rename_i p5 H5 n5 e5 h5
    exact k p5 H5 h5 (Evl.Ex.trans e4 e5)
end
end EB
namespace EB
open PySem PySem.Spec L2 StX ClX
set_option maxHeartbeats 2000000
section
variable {K : PySem.W.Frag} {H : Hp} {Q : VK} {E : XK} {vs : List V}
theorem purex_Offer_getitem (O : OfK K) (h : spx_Offer_getitem K vs H Q E) : tx_Offer_getitem K E (Dn Q) (start N_Offer_getitem vs) H := by
  obtain ⟨a, z, ts, rfl, ha, ok, k1, k2⟩ := h
  obtain ⟨cls, np, cr, _, _⟩ := O
  obtain ⟨dx, p, ha1, xs, hp, hpp⟩ := ha
  have lx := pairedLen hpp
  rw [st_Offer_getitem]
  unfold tx_Offer_getitem
  walk_at "go"
  refine w_foTt (fun i σ' H' => ∃ o2 o3 o4 : Option V, σ' = [some (.ref a), some (.str z), o2, o3, o4] ∧ Ex H H' ∧ z ∉ (ts.take i).map (·.1)) (Evl.st_of hp) ⟨_, _, _, rfl, Evl.Ex.refl _, by simp⟩ (fun i σ' H' _ ⟨_, _, _, _, e, _⟩ => exT (Evl.st_of hp) e) ?_ ?_
  · rintro i x σ' H' hx ⟨o2, o3, o4, rfl, e, nz⟩
    obtain ⟨t, ht, pt, rfl, hpt⟩ := pairedGet hpp hx
    have hpt' := e _ _ hpt
    walk_at "go"
    refine w_2 (fun q => ?_) fun q => ?_
    · walk_at "go"
      rename_i r H2 n2 e2 h2
      exact k2 t (List.mem_of_getElem? ht) q r H2 (Evl.fresh_back e n2) (Evl.Ex.trans e e2) h2
    · walk_at "go"
      refine ⟨_, _, _, rfl, e, ?_⟩
      rw [List.take_succ, ht]
      simp only [Option.toList_some, List.map_append, List.map_cons, List.map_nil, List.mem_append, List.mem_singleton, not_or]
      exact ⟨nz, fun w => q w.symm⟩
  · rintro σ' H' ⟨o2, o3, o4, rfl, e, nz⟩
    rw [lx, List.take_length] at nz
    walk_at "go"
    exact k1 nz _ e
end
end EB
namespace EB
open PySem PySem.Spec L2 StX ClX
set_option maxHeartbeats 2000000
section
variable {K : PySem.W.Frag} {H : Hp} {Q : VK} {E : XK} {vs : List V}
theorem std_le {ts : List Tr} {b : Int} (s : IsStd ts b) : 0 ≤ b ∧ b ≤ 3 := ⟨s.pos, s.three⟩
theorem purex_validate_number (h : spx_validate_number K vs H Q E) : tx_validate_number K E (Dn Q) (start N_validate_number vs) H := by
  obtain ⟨n, lo, hi, rfl, k1, k2⟩ := h
  rw [st_validate_number]
  unfold tx_validate_number
  walk_at "go"
  refine w_2 (fun a => ?_) fun a => ?_
  · walk_at "go"
    cases hd : decide (n ≤ hi) with
    | true =>
      walk_at "go"
      exact k2 ⟨a, of_decide_eq_true hd⟩ _ (Evl.Ex.refl _)
    | false =>
      walk_at "go"
      exact k1 (fun z => by have := decide_eq_true z.2; rw [hd] at this; cases this) _ (Evl.Ex.refl _)
  · walk_at "go"
    exact k1 (fun z => a z.1) _ (Evl.Ex.refl _)
theorem pure_BottleObserver_init (O : OfO K) (h : sp_BottleObserver_init K vs H Q E) : t_BottleObserver_init K (Dn Q) (start N_BottleObserver_init vs) H := by
  obtain ⟨x, dx, oo, ts, rfl, hx, ho, ok, k⟩ := h
  obtain ⟨⟨cls, np, cr, _, _⟩, c, f1, f2, f3, f4, f5, f6⟩ := O
  have f := ok.fair
  have tp := turn_pos f
  have tl := turn_le f
  have tc := turn_cast f
  rw [st_BottleObserver_init]
  unfold t_BottleObserver_init
  walk_at "own"
  rename_i H1 e1 h1
  replace h1 : H1 x = some (.ins (He.ga K "BottleObserver") dx [("offer", .ref oo)]) := h1
  have ho1 := ho.upI hx (fun _ z => nomatch z) e1
  walk_at "own"
  refine ap_Offer_trades ho1 fun pa H2 ha2 e2 => ?_
  walk_at "own"
  refine ap_steady_begin ha2 f ok.one fun b H3 hb e3 => ?_
  have ho3 := ho1.up (Evl.Ex.trans e2 e3)
  have h3 := (Evl.Ex.trans e2 e3) _ _ h1
  obtain ⟨bn, rfl⟩ := Int.eq_ofNat_of_zero_le hb.pos
  have b3 := hb.three
  walk_at "own"
  rename_i H4 e4 h4
  replace h4 : H4 x = some (.ins (He.ga K "BottleObserver") dx [("offer", .ref oo), ("begin", .int bn)]) := h4
  have ho4 := ho3.upI h3 (fun _ z => by cases z) e4
  walk_at "own"
  refine ap_Offer_trades ho4 fun pa5 H5 ha5 e5 => ?_
  walk_at "own"
  refine ap_period_of ha5 f.1 fun pp H6 n6 e6 h6 => ?_
  have ho6 := ho4.up (Evl.Ex.trans e5 e6)
  walk_at "own"
  refine ap_Offer_trades ho6 fun pa7 H7 ha7 e7 => ?_
  walk_at "own"
  refine ap_needed_multiple ha7 f.1 fun H8 e8 => ?_
  have mp := ndm_pos f.1.2
  have ml := ndm_small f.1
  walk_at "own"
  refine ⟨nd ts, 2 * ndm ts, rfl, nd_pos f, by omega, by omega, fun H9 e9 => ?_⟩
  have e49 : Ex H4 H9 := Evl.Ex.trans e5 (Evl.Ex.trans e6 (Evl.Ex.trans e7 (Evl.Ex.trans e8 e9)))
  have ho9 := ho4.up e49
  have h9 := e49 _ _ h4
  walk_at "own"
  rename_i H10 e10 h10
  replace h10 : H10 x = some (.ins (He.ga K "BottleObserver") dx [("offer", .ref oo), ("begin", .int bn), ("turn", .int (lcmI (nd ts) (2 * ndm ts)))]) := h10
  have ho10 := ho9.upI h9 (fun _ z => by cases z) e10
  walk_at "own"
  refine w_lstRg (n := bn) (by omega) (fun R q => by walk_at "own"; exact q) fun pe H11 n11 e11 h11 => ?_
  have ho11 := ho10.up e11
  have hx11 := e11 _ _ h10
  walk_at "own"
  rename_i H12 e12 h12
  replace h12 : H12 x = some (.ins (He.ga K "BottleObserver") dx [("offer", .ref oo), ("begin", .int bn), ("turn", .int (lcmI (nd ts) (2 * ndm ts))), ("early", .ref pe)]) := h12
  have ho12 := ho11.upI hx11 (fun _ z => by cases z) e12
  have hE12 := e12 _ _ (ne_of h11 hx11 fun z => nomatch z) h11
  refine w_lstRg (n := turnT ts) (by omega) (fun R q => by
    walk_at "own"
    rw [show (lcmI (nd ts) (2 * ndm ts)) = (turnT ts : Int) from tc.symm]
    exact q) fun pp2 H13 n13 e13 h13 => ?_
  have ho13 := ho12.up e13
  have hx13 := e13 _ _ h12
  have hE13 := e13 _ _ hE12
  walk_at "own"
  rename_i H14 e14 h14 pn H15 n15 e15 h15
  replace h14 : H14 x = some (.ins (He.ga K "BottleObserver") dx [("offer", .ref oo), ("begin", .int bn), ("turn", .int (lcmI (nd ts) (2 * ndm ts))), ("early", .ref pe), ("places", .ref pp2)]) := h14
  have ho14 := ho13.upI hx13 (fun _ z => by cases z) e14
  have hE14 := e14 _ _ (ne_of hE13 hx13 fun z => nomatch z) hE13
  have hP14 := e14 _ _ (ne_of h13 hx13 fun z => nomatch z) h13
  have hx15 := e15 _ _ h14
  walk_at "own"
  rename_i H16 e16 h16
  replace h16 : H16 x = some (.ins (He.ga K "BottleObserver") dx [("offer", .ref oo), ("begin", .int bn), ("turn", .int (lcmI (nd ts) (2 * ndm ts))), ("early", .ref pe), ("places", .ref pp2), ("noted", .ref pn)]) := h16
  have b10 : ExB x H H10 := e1.trans ((ExB.of (Evl.Ex.trans e2 e3)).trans (e4.trans ((ExB.of e49).trans e10)))
  have b12 : ExB x H H12 := b10.trans ((ExB.of e11).trans e12)
  have b14 : ExB x H H14 := b12.trans ((ExB.of e13).trans e14)
  have b16 : ExB x H H16 := b14.trans ((ExB.of e15).trans e16)
  have ho15 := ho14.up e15
  have ho16 := ho15.upI hx15 (fun _ z => by cases z) e16
  have hE16 := e16 _ _ (ne_of (e15 _ _ hE14) hx15 fun z => nomatch z) (e15 _ _ hE14)
  have hP16 := e16 _ _ (ne_of (e15 _ _ hP14) hx15 fun z => nomatch z) (e15 _ _ hP14)
  have hN16 := e16 _ _ (ne_of h15 hx15 fun z => nomatch z) h15
  rw [show (lcmI (nd ts) (2 * ndm ts)) = (turnT ts : Int) from tc.symm] at h16
  exact k H16 bn hb b16 ⟨dx, oo, pe, pp2, pn, h16, ho16, hE16, hP16, ⟨[], hN16, .nil⟩, b10.none h10 n11, b12.none h12 n13, b14.none h14 n15⟩
theorem pure_BottleObserver_records (O : OfO K) (h : sp_BottleObserver_records K vs H Q E) : t_BottleObserver_records K (Dn Q) (start N_BottleObserver_records vs) H := by
  obtain ⟨o, ts, b, N, Z, rfl, ⟨dx, oo, e, p, n, h1, h2, h3, h4, ⟨xs, h5, h6⟩, z1, z2, z3⟩, k⟩ := h
  obtain ⟨_, c, f1, f2, f3, f4, f5, f6⟩ := O
  rw [st_BottleObserver_records]
  unfold t_BottleObserver_records
  walk_at "go"
  rename_i p1 H1 n1 e1 g1
  exact k p1 H1 n1 e1 ⟨xs, g1, obsBy (fun a ys q => e1 _ _ q) h6⟩
theorem pure_BottleObserver_count_in (O : OfO K) (h : sp_BottleObserver_count_in K vs H Q E) : t_BottleObserver_count_in K (Dn Q) (start N_BottleObserver_count_in vs) H := by
  obtain ⟨o, dx, e, p, oo, e0, p0, n0, b, T, q, l, rfl, ho, hb, hT, per, he, hp, l0, l1, k⟩ := h
  obtain ⟨_, c, f1, f2, f3, f4, f5, f6⟩ := O
  have tp := per.pos
  have cf := countF_eq per l0
  unfold countF at cf
  dsimp only at cf
  rw [st_BottleObserver_count_in]
  unfold t_BottleObserver_count_in
  walk_at "go"
  refine w_lcLfI (fun n => decide (n ≤ l)) (Evl.sq_of he) (ups_small (by omega)) (fun n hn H1 e1 R N r1 r2 => ?_) fun p1 H1 n1 e1 h1 => ?_
  · dsimp only [wipe, List.set]
    walk_at "go"
    refine ⟨rfl, ?_⟩
    walk_at "go"
    cases hd : decide (n ≤ l) with
    | true =>
      walk_at "go"
      exact r1 hd _ (Evl.Ex.refl _)
    | false =>
      walk_at "go"
      exact r2 hd _ (Evl.Ex.refl _)
  have ho1 := e1 _ _ ho
  have hp1 := e1 _ _ hp
  walk_at "go"
  rw [List.length_map]
  refine w_2 (fun lt => ?_) fun ge => ?_
  · walk_at "go"
    rw [if_pos lt] at cf
    rw [cf]
    exact k _ e1
  · rw [if_neg ge] at cf
    have d0 := Int.ediv_nonneg (show 0 ≤ l - b by omega) (show (0 : Int) ≤ T by omega)
    have d1 : (l - b) / T ≤ l - b := Int.ediv_le_self _ (by omega)
    generalize hd : (l - b) / (T : Int) = w at *
    walk_at "go"
    rw [hd]
    walk_at "go"
    rw [List.length_map]
    have lp := ups_small (p := fun i => q (b + i)) hT
    refine w_mul (cmul_r (by omega) (by omega)) ?_
    walk_at "go"
    refine w_lcLfI (fun n => decide (n ≤ (l - b) % T)) (Evl.sq_of hp1) (ups_small hT) (fun n hn H2 e2 R N r1 r2 => ?_) fun p2 H2 n2 e2 h2 => ?_
    · dsimp only [wipe, List.set]
      walk_at "go"
      refine ⟨rfl, ?_⟩
      walk_at "go"
      cases hd : decide (n ≤ (l - b) % T) with
      | true =>
        walk_at "go"
        exact r1 hd _ (Evl.Ex.refl _)
      | false =>
        walk_at "go"
        exact r2 hd _ (Evl.Ex.refl _)
    walk_at "go"
    rw [List.length_map, cf]
    exact k _ (Evl.Ex.trans e1 e2)
theorem purex_BottleObserver_note (O : OfO K) (h : spx_BottleObserver_note K vs H Q E) : tx_BottleObserver_note K E (Dn Q) (start N_BottleObserver_note vs) H := by
  obtain ⟨o, r, e, p, ts, b, N, x, Z, rfl, ⟨dx, oo, e0, p0, n0, h1, h2, h3, h4, ⟨xs, h5, h6⟩, z1, z2, z3⟩, ok, s, lN, hr, ze, zp, he, hp, kE, kQ⟩ := h
  obtain ⟨_, c, f1, f2, f3, f4, f5, f6⟩ := O
  have f := ok.fair
  have tl := turnT_le f
  have b3 := s.three
  have lx := pairedLen h6
  rw [st_BottleObserver_note]
  unfold tx_BottleObserver_note
  walk_at "go"
  refine ⟨o, dx, e, p, oo, e0, p0, n0, b, turnT ts, agrs ts (N ++ [x]), M18, rfl, h1, by omega, tl, agrs_per f s.std _, he, hp, by decide, by decide, fun H1 e1 => ?_⟩
  have g1 := e1 _ _ h1
  have g5 := e1 _ _ h5
  have ge := e1 _ _ he
  have gp := e1 _ _ hp
  have gr := e1 _ _ hr
  have g2 := h2.up e1
  walk_at "go"
  refine w_2 (fun a => ?_) fun a => ?_
  · walk_at "go"
    exact kE a _ e1
  · walk_at "go"
    rename_i H2 e2 h2'
    replace h2' : H2 o = some (.ins (He.ga K "BottleObserver") dx [("offer", .ref oo), ("begin", .int b), ("turn", .int (turnT ts)), ("early", .ref e), ("places", .ref p0), ("noted", .ref n0)]) := h2'
    have g52 := e2 _ _ (ne_of g5 g1 fun z => nomatch z) g5
    have ge2 := e2 _ _ (ne_of ge g1 fun z => nomatch z) ge
    have gp2 := e2 _ _ (ne_of gp g1 fun z => nomatch z) gp
    have gr2 := e2 _ _ (ne_of gr g1 fun z => nomatch z) gr
    have g22 := g2.upI g1 (fun _ z => by cases z) e2
    walk_at "go"
    rename_i H3 e3 h3' q4 H4 n4 e4 h4'
    replace h3' : H3 o = some (.ins (He.ga K "BottleObserver") dx [("offer", .ref oo), ("begin", .int b), ("turn", .int (turnT ts)), ("early", .ref e), ("places", .ref p), ("noted", .ref n0)]) := h3'
    have g53 := e3 _ _ (ne_of g52 h2' fun z => nomatch z) g52
    have ge3 := e3 _ _ (ne_of ge2 h2' fun z => nomatch z) ge2
    have gp3 := e3 _ _ (ne_of gp2 h2' fun z => nomatch z) gp2
    have gr3 := e3 _ _ (ne_of gr2 h2' fun z => nomatch z) gr2
    have g23 := g22.upI h2' (fun _ z => by cases z) e3
    have g54 := e4 _ _ g53
    have xl : xs.length ≤ 100 := by omega
    walk_at "go"
    rename_i q5 H5 n5 e5 h5' H6 e6 h6'
    have e35 := Evl.Ex.trans e4 e5
    have g15 := e35 _ _ h3'
    replace h6' : H6 o = some (.ins (He.ga K "BottleObserver") dx [("offer", .ref oo), ("begin", .int b), ("turn", .int (turnT ts)), ("early", .ref e), ("places", .ref p), ("noted", .ref q5)]) := h6'
    have cp : ∀ {a : Addr} {u : HO}, H3 a = some u → (∀ dx fs, u ≠ .ins (He.ga K "BottleObserver") dx fs) → H6 a = some u := fun {a u} ha nu => e6 _ _ (ne_of (e35 _ _ ha) g15 (nu _ _)) (e35 _ _ ha)
    have bAll : ExB o H H6 := (ExB.of e1).trans (e2.trans (e3.trans ((ExB.of e35).trans e6)))
    have hh5 := e6 _ _ (ne_of h5' g15 fun z => nomatch z) h5'
    walk_at "go"
    refine kQ a H6 bAll ⟨dx, oo, e, p, q5, h6', (g23.up e35).upI g15 (fun _ z => by cases z) e6, cp ge3 (fun _ _ z => nomatch z), cp gp3 (fun _ _ z => nomatch z), ⟨_, hh5, ?_⟩, fun z => ze z.1, fun z => zp z.1, fun z => ?_⟩
    · refine pairedSnoc (obsBy (fun a ys q => bAll _ _ (ne_of q h1 fun z => nomatch z) q) h6) ⟨r, rfl, cp gr3 (fun _ _ z => nomatch z)⟩
    · obtain ⟨u, hu⟩ := z.2
      have ne : q5 ≠ o := fun z => by rw [z, e4 _ _ h3'] at n5; cases n5
      have := e4 _ _ (e3 _ _ ne (e2 _ _ ne (e1 _ _ hu)))
      rw [n5] at this
      cases this
theorem purex_BottleObserver_see_left (O : OfO K) (h : spx_BottleObserver_see_left K vs H Q E) : tx_BottleObserver_see_left K E (Dn Q) (start N_BottleObserver_see_left vs) H := by
  obtain ⟨o, ts, b, N, z, c, Z, rfl, w, ok, s, lN, k1, k2⟩ := h
  have W := w
  obtain ⟨dx, oo, e0, p0, n0, h1, h2, h3, h4, _, z1, z2, z3⟩ := w
  obtain ⟨⟨cls, np, cr, _, _⟩, cc, f1, f2, f3, f4, f5, f6⟩ := O
  have f := ok.fair
  have tl := turnT_le f
  have b3 := s.three
  rw [st_BottleObserver_see_left]
  unfold tx_BottleObserver_see_left
  walk_at "own"
  refine ⟨oo, ts, rfl, h2, by have := ok.fair.1.1; omega, fun pk H1 hk e1 => ?_⟩
  have hk' : H1 pk = some (.tup ((ts.map (·.1)).map V.str)) := by
    rw [hk, List.map_map]
    rfl
  refine w_notIn (.inr (Evl.st_of hk')) rfl flat_strs ?_
  rw [inV_str]
  walk_at "go"
  refine w_2n (fun nz => ?_) fun hz => ?_
  · walk_at "go"
    exact k1 nz _ e1
  have kk := k2 hz
  have g1 := e1 _ _ h1
  have ho1 := h2.up e1
  obtain ⟨t0, ht0, et0⟩ := List.mem_map.mp hz
  subst et0
  walk_at "own"
  obtain ⟨dy, pp, q1, q2⟩ := ho1
  have ho1 : OfferAt K H1 oo ts := ⟨dy, pp, q1, q2⟩
  refine w_ixO q1 ⟨oo, t0.1, ts, rfl, ho1, ok, fun nz => absurd hz nz, fun t ht et p2 H2 n2 e2 g2 => ?_⟩
  have a0 := find_kind ok.nodup ht0
  have a1 := find_kind ok.nodup ht
  rw [et, a0] at a1
  obtain rfl := Option.some.inj a1
  obtain ⟨t1, t2, t3, t4⟩ := f.1.2 t0 ht0
  have ho2 := ho1.up e2
  walk_at "own"
  refine ap_Offer_trades ho2 fun pa H3 ha3 e3 => ?_
  have e03 := Evl.Ex.trans e1 (Evl.Ex.trans e2 e3)
  have g13 := e03 _ _ h1
  have g33 := e03 _ _ h3
  have g43 := e03 _ _ h4
  walk_at "own"
  refine w_lcLfI (agr ts (.left t0.1 c)) (Evl.sq_of g33) (ups_small (by omega)) (fun n hn H4 e4 R N' r1 r2 => ?_) fun pe H5 n5 e5 h5 => ?_
  · have hn0 := ups_mem hn
    dsimp only [wipe, List.set]
    walk_at "go"
    refine ⟨rfl, ?_⟩
    walk_at "go"
    refine ap_total (ha3.up e4) f ok.one hn0.1 fun H6 e6 => ?_
    walk_at "go"
    rw [agr_left ok.nodup ht0] at r1 r2
    cases hd : decide (t0.2.1 * drk ts n % t0.2.2 = c) with
    | true =>
      walk_at "go"
      exact r1 hd _ e6
    | false =>
      walk_at "go"
      exact r2 hd _ e6
  rw [ups_more0] at h5
  have g15 := e5 _ _ g13
  have g45 := e5 _ _ g43
  walk_at "own"
  refine w_lcLfI (fun i => agr ts (.left t0.1 c) (b + i)) (Evl.sq_of g45) (ups_small tl) (fun n hn H4 e4 R N' r1 r2 => ?_) fun pq H7 n7 e7 h7 => ?_
  · have hn0 := ups_mem hn
    have g14 := e4 _ _ g15
    dsimp only [wipe, List.set]
    walk_at "go"
    refine ⟨rfl, ?_⟩
    walk_at "go"
    refine ap_total (ha3.up (Evl.Ex.trans e5 e4)) f ok.one (by omega) fun H6 e6 => ?_
    walk_at "go"
    rw [agr_left ok.nodup ht0] at r1 r2
    cases hd : decide (t0.2.1 * drk ts (b + n) % t0.2.2 = c) with
    | true =>
      walk_at "go"
      exact r1 hd _ e6
    | false =>
      walk_at "go"
      exact r2 hd _ e6
  rw [ups_more] at h7
  have g17 := e7 _ _ g15
  have g57 := e7 _ _ h5
  walk_at "own"
  rename_i r H8 n8 e8 h8
  have e08 := Evl.Ex.trans e03 (Evl.Ex.trans e5 (Evl.Ex.trans e7 e8))
  refine ⟨o, r, pe, pq, ts, b, N, .left t0.1 c, _, rfl, (W.up e08).less (Z' := fun a => Z a ∧ ∃ u, H a = some u) fun a z => .inl z.1, ok, s, lN, h8, fun z => ?_, fun z => ?_, e8 _ _ g57, e8 _ _ h7, kk.upZ e08⟩
  · obtain ⟨u, hu⟩ := z.2
    rw [e03 _ _ hu] at n5
    cases n5
  · obtain ⟨u, hu⟩ := z.2
    rw [e5 _ _ (e03 _ _ hu)] at n7
    cases n7
theorem pure_BottleObserver_nth_possible (O : OfO K) (h : sp_BottleObserver_nth_possible K vs H Q E) : t_BottleObserver_nth_possible K (Dn Q) (start N_BottleObserver_nth_possible vs) H := by
  obtain ⟨o, ts, b, N, Z, j, rfl, ⟨dx, oo, e0, p0, n0, h1, h2, h3, h4, h5, z1, z2, z3⟩, ok, s, j1, j2, k⟩ := h
  obtain ⟨_, c, f1, f2, f3, f4, f5, f6⟩ := O
  have f := ok.fair
  have tl := turnT_le f
  have b3 := s.three
  have per := agrs_per f s.std N
  have l1 := ups_small (p := agrs ts N) (show b ≤ 6000000 by omega)
  have l2 := ups_small (p := fun i => agrs ts N (b + i)) tl
  rw [st_BottleObserver_nth_possible]
  unfold t_BottleObserver_nth_possible
  walk_at "go"
  refine ap_validate_number j1 j2 fun H1 e1 => ?_
  have g1 := e1 _ _ h1
  have g3 := e1 _ _ h3
  have g4 := e1 _ _ h4
  walk_at "go"
  rw [List.length_map]
  refine w_2 (fun a => ?_) fun a => ?_
  · obtain ⟨n, q1, q2, q3⟩ := np_early j1 a
    walk_at "go"
    refine w_ixLn (Evl.sq_of g3) (by omega) q1 ?_
    walk_at "go"
    exact k _ _ e1 (.inl ⟨n, rfl, q3, by show n ≤ 1000000000000000000; omega⟩)
  have m1 : (List.map V.int (ups (agrs ts N) b)).length = (ups (agrs ts N) b).length := List.length_map ..
  have m2 : (List.map V.int (ups (fun i => agrs ts N (b + i)) (turnT ts))).length = (ups (fun i => agrs ts N (b + i)) (turnT ts)).length := List.length_map ..
  walk_at "go"
  rename_i p2 H2 n2 e2 h2'
  refine w_eqIntsN _ [] (e2 _ _ g4) h2' ?_
  walk_at "go"
  refine w_2 (fun e => ?_) fun ne => ?_
  · walk_at "go"
    exact k _ _ (Evl.Ex.trans e1 e2) (.inr ⟨rfl, np_none per (by omega) (by rw [e]; rfl) _⟩)
  have pos : 0 < (ups (fun i => agrs ts N (b + i)) (turnT ts)).length := List.length_pos_iff.mpr ne
  obtain ⟨j', q1, q2, q3, q4⟩ := np_late per (k := j) (by omega) pos
  have g12 := e2 _ _ g1
  have g32 := e2 _ _ g3
  have g42 := e2 _ _ g4
  walk_at "go"
  rw [m1, m2]
  refine w_ixLn (Evl.sq_of g42) (Int.emod_nonneg _ (by omega)) q1 ?_
  walk_at "go"
  refine w_2 (fun le => ?_) fun gt => ?_
  · walk_at "go"
    exact k _ _ (Evl.Ex.trans e1 e2) (.inl ⟨_, rfl, q4, le⟩)
  · walk_at "go"
    exact k _ _ (Evl.Ex.trans e1 e2) (.inr ⟨rfl, np_over q4 (by show (1000000000000000000 : Int) < _; omega)⟩)
end
end EB
namespace EB
open PySem PySem.Spec L2 StX ClX
set_option maxHeartbeats 2000000
section
variable {K : PySem.W.Frag} {H : Hp} {Q : VK} {E : XK} {vs : List V}
theorem pure_Table_init (O : OfT K) (h : sp_Table_init K vs H Q E) : t_Table_init K (Dn Q) (start N_Table_init vs) H := by
  obtain ⟨x, dx, o, ts, n, rfl, hx, ho, ok, k⟩ := h
  obtain ⟨⟨cls, np, cr, _, _⟩, c, f1, f2, f3, f4, _, _⟩ := O
  have l3 := ok.fair.1.1
  rw [st_Table_init]
  unfold t_Table_init
  walk_at "own"
  rename_i H1 e1 h1
  replace h1 : H1 x = some (.ins (He.ga K "Table") dx [("offer", .ref o)]) := h1
  have ho1 := ho.upI hx (fun _ z => nomatch z) e1
  walk_at "own"
  rename_i H2 e2 h2
  replace h2 : H2 x = some (.ins (He.ga K "Table") dx [("offer", .ref o), ("drunk", .int 0)]) := h2
  have ho2 := ho1.upI h1 (fun _ z => by cases z) e2
  walk_at "own"
  rename_i H3 e3 h3
  replace h3 : H3 x = some (.ins (He.ga K "Table") dx [("offer", .ref o), ("drunk", .int 0), ("full", .int n)]) := h3
  have ho3 := ho2.upI h2 (fun _ z => by cases z) e3
  obtain ⟨dy, ap, i3, i4⟩ := id ho3
  walk_at "own"
  refine ⟨o, ts, rfl, ho3, by omega, fun pk H4 hk e4 => ?_⟩
  have hl : (ts.map fun _ => (0 : Int)).length = ts.length := List.length_map ..
  refine w_dcTa (pcD ts (ts.map fun _ => 0)) (by rw [pcD_keys hl]; exact ok.nodup) (Evl.st_of hk) (by rw [List.length_map]; omega) (by rw [pcD_len hl, List.length_map]) (fun i v p hi hpi H5 e5 R q => ?_) fun pd H5 n5 e5 h5 => ?_
  · rw [List.getElem?_map] at hi
    obtain ⟨t, ht, rfl⟩ := Option.map_eq_some_iff.mp hi
    have ep : p = (t.1, 0) := by
      have lt := (List.getElem?_eq_some_iff.mp ht).1
      have h1 : ((ts.map (·.1)).zip (ts.map fun _ => (0 : Int)))[i]? = some p := hpi
      rw [List.getElem?_zip_eq_some, List.getElem?_map, List.getElem?_map, ht] at h1
      obtain ⟨a, b⟩ := h1
      exact Prod.ext (Option.some.inj a).symm (Option.some.inj b).symm
    subst ep
    dsimp only [wipe, List.set]
    walk_at "own"
    refine ⟨rfl, ?_⟩
    walk_at "own"
    exact q _ (Evl.Ex.refl _)
  have e35 := Evl.Ex.trans e4 e5
  have hx5 := e35 _ _ h3
  have ho5 := ho3.up e35
  walk_at "own"
  rename_i H6 e6 h6
  replace h6 : H6 x = some (.ins (He.ga K "Table") dx (tabFs o pd 0 n)) := h6
  have e03 : ExB x H H3 := (e1.trans e2).trans e3
  have npd : H pd = none := by
    cases hpd : H pd with
    | none => rfl
    | some u =>
      have ne3 : H3 pd = none := by
        cases z : H3 pd with
        | none => rfl
        | some w =>
          have := e4 _ _ z
          rw [n5] at this
          cases this
      exact absurd ⟨u, hpd⟩ (ExB.none e03 h3 ne3)
  exact k pd H6 npd ((e03.trans (.of e35)).trans e6) ⟨h6, ho5.upI hx5 (fun _ z => by cases z) e6, e6 _ _ (ne_of h5 hx5 fun z => nomatch z) h5, by rw [List.length_map]⟩
/-! augmented assignments of the table -/
section
variable {σ : L2.St} {D : Ends}
theorem w_fa {C dx x : Addr} {fs : List (Str × V)} {f : Str} {v : V} {tv : TE} {rd : V → V → Hp → VK → Prop} {j : Nat} (h0 : σ[j]? = some (some (.ref x))) (ea : H x = some (.ins C dx fs)) (c : Cls K C) (n : NoAttr K C f) (l : fs.lookup f = some v)
    (q : tv σ H fun y H2 => rd v y H2 fun z H3 => ∃ dx' fs', H3 x = some (.ins C dx' fs') ∧ fs'.length < 1000 ∧ D.nx σ (upd H3 x (.ins C dx' (putF f z fs')))) : sFldAug K (tVar j) tv rd f D σ H :=
  w_var h0 ⟨x, C, dx, fs, v, rfl, ea, c, n, l, q⟩
/-- self.full -= count -/
theorem w_full {x dx o pd : Addr} {ts : List Tr} {d f c : Int} {pc : List Int} {j k : Nat} (O : OfT K) (T : TabAt K H x dx o pd ts d f pc) (h0 : σ[j]? = some (some (.ref x))) (h1 : σ[k]? = some (some (.int c)))
    (q : ∀ H', ExT x pd H H' → TabAt K H' x dx o pd ts d (f - c) pc → D.nx σ H') : sFldAug K (tVar j) (tVar k) L2.rSub "full" D σ H := by
  refine w_fa h0 T.ins O.c O.f3 rfl (w_var h1 ⟨f, c, rfl, rfl, dx, _, T.ins, (show (4 : Nat) < 1000 by decide), ?_⟩)
  obtain ⟨a, b⟩ := T.fld (d' := d) (f' := f - c) rfl
  exact q _ b a
theorem w_fullA {x dx o pd : Addr} {ts : List Tr} {d f c : Int} {pc : List Int} {j k : Nat} (O : OfT K) (T : TabAt K H x dx o pd ts d f pc) (h0 : σ[j]? = some (some (.ref x))) (h1 : σ[k]? = some (some (.int c)))
    (q : ∀ H', ExT x pd H H' → TabAt K H' x dx o pd ts d (f + c) pc → D.nx σ H') : sFldAug K (tVar j) (tVar k) L2.rAdd "full" D σ H := by
  refine w_fa h0 T.ins O.c O.f3 rfl (w_var h1 ⟨f, c, rfl, rfl, dx, _, T.ins, (show (4 : Nat) < 1000 by decide), ?_⟩)
  obtain ⟨a, b⟩ := T.fld (d' := d) (f' := f + c) rfl
  exact q _ b a
theorem w_drunkA {x dx o pd : Addr} {ts : List Tr} {d f c : Int} {pc : List Int} {j k : Nat} (O : OfT K) (T : TabAt K H x dx o pd ts d f pc) (h0 : σ[j]? = some (some (.ref x))) (h1 : σ[k]? = some (some (.int c)))
    (q : ∀ H', ExT x pd H H' → TabAt K H' x dx o pd ts (d + c) f pc → D.nx σ H') : sFldAug K (tVar j) (tVar k) L2.rAdd "drunk" D σ H := by
  refine w_fa h0 T.ins O.c O.f2 rfl (w_var h1 ⟨d, c, rfl, rfl, dx, _, T.ins, (show (4 : Nat) < 1000 by decide), ?_⟩)
  obtain ⟨a, b⟩ := T.fld (d' := d + c) (f' := f) rfl
  exact q _ b a
/-- self.pieces[kind] op= .. -/
theorem w_pcA {x dx o pd : Addr} {ts : List Tr} {d f : Int} {pc : List Int} {j k i : Nat} {t : Tr} {p c : Int} {tv : TE} {rd : V → V → Hp → VK → Prop} (O : OfT K) (ok : OfferOk ts) (T : TabAt K H x dx o pd ts d f pc) (h0 : σ[j]? = some (some (.ref x))) (h1 : σ[k]? = some (some (.str t.1))) (ht : ts[i]? = some t) (hp : pc[i]? = some p)
    (ha : ∀ R : VK, (∀ H', Ex H H' → R (.int c) H') → tv σ H fun y H2 => rd (.int p) y H2 R)
    (q : ∀ H', ExT x pd H H' → TabAt K H' x dx o pd ts d f (pc.set i c) → D.nx σ H') : sDAug (tFld K (tVar j) "pieces") (tVar k) tv rd D σ H := by
  refine w_tFld (w_var h0 ⟨x, _, dx, _, _, rfl, T.ins, O.c, O.f4, rfl, w_var h1 ⟨pd, .int p, rfl, ?_, ?_⟩⟩)
  · have := DGet.k (k := .inr t.1) T.pcs
    rwa [val_pc T.len ok.nodup ht hp] at this
  · refine ha _ fun H' e => ?_
    have T' := T.up e
    have l3 := ok.fair.1.1
    refine ⟨_, .inl ⟨_, .inr t.1, T'.pcs, rfl, ?_, rfl⟩, ?_⟩
    · unfold dKv
      rw [List.length_map, pcD_len T.len]
      exact Nat.lt_of_le_of_lt (show ts.length ≤ 1000 by omega) (by decide)
    · rw [put_pc T.len ok.nodup ht]
      obtain ⟨a, b⟩ := T'.put (pc' := pc.set i c) (by rw [List.length_set]; exact T.len) rfl
      exact q _ ((ExT.of e).trans b) a
end
theorem TabAt.keep {H H' : Hp} {x dx o pd : Addr} {ts : List Tr} {d f : Int} {pc : List Int} (T : TabAt K H x dx o pd ts d f pc) (e : ExT x pd H H') {a : Addr} {u : HO} (h : H a = some u) (n1 : ∀ C dy fs, u ≠ .ins C dy fs) (n2 : ∀ kvs, u ≠ .dK kvs) : H' a = some u :=
  e a u (fun z => by
    rw [z, T.ins] at h
    exact n1 _ _ _ (Option.some.inj h).symm) (fun z => by
    rw [z, T.pcs] at h
    exact n2 _ (Option.some.inj h).symm) h
theorem TabAt.keepT {H H' : Hp} {x dx o pd : Addr} {ts : List Tr} {d f : Int} {pc : List Int} (T : TabAt K H x dx o pd ts d f pc) (e : ExT x pd H H') {a : Addr} {xs : List V} (h : H a = some (.tup xs)) : H' a = some (.tup xs) := T.keep e h (fun _ _ _ z => nomatch z) fun _ z => nomatch z
theorem drunkP_at {ts : List Tr} {pc : List Int} {c : Int} {j : Nat} {t : Tr} {p : Int} (h1 : ts[j]? = some t) (h2 : pc[j]? = some p) : (drunkP ts pc c)[j]? = some (p + t.2.1 * c) := by
  unfold drunkP
  rw [List.getElem?_zipWith, h1, h2]
/-- two lists of pieces that agree at each place -/
theorem pcs_ext {ts : List Tr} {a b : List Int} (la : a.length = ts.length) (lb : b.length = ts.length) (h : ∀ (j : Nat) t, ts[j]? = some t → a[j]? = b[j]?) : a = b := by
  refine List.ext_getElem? fun j => ?_
  by_cases lt : j < ts.length
  · exact h j _ (List.getElem?_eq_getElem lt)
  · rw [List.getElem?_eq_none (by omega), List.getElem?_eq_none (by omega)]
theorem pure_Table_can_drink (O : OfT K) (h : sp_Table_can_drink K vs H Q E) : t_Table_can_drink K (Dn Q) (start N_Table_can_drink vs) H := by
  obtain ⟨x, dx, o, pd, ts, d, f, pc, c, rfl, T, ok, k1, k2⟩ := h
  have O' := O
  obtain ⟨⟨cls, np, cr, _, _⟩, tc, f1, f2, f3, f4, _, _⟩ := O
  have t1 := T.ins
  have l3 := ok.fair.1.1
  rw [st_Table_can_drink]
  unfold t_Table_can_drink
  walk_at "own"
  refine w_2 (fun g => ?_) fun g => ?_
  · walk_at "own"
    exact k1 (by omega) _ (Evl.Ex.refl _)
  · walk_at "own"
    refine w_full O' T rfl rfl fun H1 e1 T1 => ?_
    walk_at "own"
    refine w_drunkA O' T1 rfl rfl fun H2 e2 T2 => ?_
    have i2 := T2.ins
    have ho2 := T2.of
    walk_at "own"
    refine ap_Offer_trades ho2 fun pa H3 ha3 e3 => ?_
    have T3 := T2.up e3
    obtain ⟨xs, hx3, hp3⟩ := id ha3
    have lx := pairedLen hp3
    refine w_foTt (fun i σ' H' => ∃ (o2 o3 o4 : Option V) (qc : List Int), σ' = [some (.ref x), some (.int c), o2, o3, o4] ∧ ExT x pd H3 H' ∧ TabAt K H' x dx o pd ts (d + c) (f - c) qc ∧ ∀ (j : Nat) t p, ts[j]? = some t → pc[j]? = some p → qc[j]? = some (if j < i then p + t.2.1 * c else p))
      (Evl.st_of hx3) ⟨_, _, _, pc, rfl, fun _ _ _ _ h => h, T3, fun j t p _ h2 => by rw [if_neg (by omega)]; exact h2⟩ (fun i σ' H' _ ⟨_, _, _, _, _, e, _, _⟩ => Evl.st_of (T3.keepT e hx3)) ?_ ?_
    · rintro i v σ' H4 hi ⟨o2, o3, o4, qc, rfl, e4, T4, hq⟩
      obtain ⟨t, ht, pt, rfl, hpt⟩ := pairedGet hp3 hi
      have hpt4 := T3.keepT e4 hpt
      obtain ⟨g1, g2, g3, g4⟩ := ok.fair.1.2 t (List.mem_of_getElem? ht)
      have lt := (List.getElem?_eq_some_iff.mp ht).1
      have lpc := T.len
      have hpi : pc[i]? = some (pc[i]'(by omega)) := List.getElem?_eq_getElem (by omega)
      generalize pc[i]'(by omega) = p at hpi
      have hqi := hq i t p ht hpi
      rw [if_neg (by omega)] at hqi
      walk_at "own"
      refine w_pcA (i := i) (t := t) (p := p) (c := p + t.2.1 * c) O' ok T4 rfl rfl ht hqi (fun R r => ?_) fun H5 e5 T5 => ?_
      · walk_at "own"
        exact ⟨_, _, rfl, rfl, r _ (Evl.Ex.refl _)⟩
      · refine ⟨_, _, _, _, rfl, e4.trans e5, T5, fun j t' p' ht' hp' => ?_⟩
        by_cases e : j = i
        · subst e
          rw [ht] at ht'
          rw [hpi] at hp'
          obtain rfl := Option.some.inj ht'
          obtain rfl := Option.some.inj hp'
          have lq := T4.len
          rw [List.getElem?_set_self (by omega), if_pos (by omega)]
        · rw [List.getElem?_set_ne (Ne.symm e), hq j t' p' ht' hp']
          by_cases l : j < i
          · rw [if_pos l, if_pos (by omega)]
          · rw [if_neg l, if_neg (by omega)]
    · rintro σ' H4 ⟨o2, o3, o4, qc, rfl, e4, T4, hq⟩
      have eq : qc = drunkP ts pc c := pcs_ext T4.len (drunkP_len T.len) fun j t ht => by
        have lt := (List.getElem?_eq_some_iff.mp ht).1
        have lpc := T.len
        have hpi : pc[j]? = some (pc[j]'(by omega)) := List.getElem?_eq_getElem (by omega)
        rw [hq j t _ ht hpi, drunkP_at ht hpi, if_pos (by omega)]
      subst eq
      walk_at "own"
      exact k2 (by omega) _ ((((ExT.trans e1 e2).trans (.of e3))).trans e4) T4
/-- needed pieces times a count, of the table's own offer -/
theorem w_need {σ : L2.St} {x dx o pd : Addr} {ts : List Tr} {d f c : Int} {pc : List Int} {i : Nat} {t : Tr} {E' : XK} (O : OfT K) (ok : OfferOk ts) (T : TabAt K H x dx o pd ts d f pc) (h0 : σ[0]? = some (some (.ref x))) (h1 : σ[1]? = some (some (.str t.1))) (h2 : σ[2]? = some (some (.int c))) (ht : ts[i]? = some t)
    {R : VK} (r : ∀ H', Ex H H' → R (.int (t.2.2 * c)) H') : tOp rMulI (tOp (rIxT K) (tOp (rIxO (He.ga K "Offer") (spx_Offer_getitem K) E') (tFld K (tVar 0) "offer") (tVar 1)) (tC (.int 1))) (tVar 2) σ H R := by
  have hm := List.mem_of_getElem? ht
  obtain ⟨g1, g2, g3, g4⟩ := ok.fair.1.2 t hm
  obtain ⟨dy, pp, q1, q2⟩ := T.of
  have ho : OfferAt K H o ts := ⟨dy, pp, q1, q2⟩
  refine w_op (w_op (w_op (w_tFld (w_var h0 ⟨x, _, dx, _, _, rfl, T.ins, O.c, O.f1, rfl, w_var h1 ?_⟩))))
  refine w_ixO q1 ⟨o, t.1, ts, rfl, ho, ok, fun nz => absurd (List.mem_map_of_mem hm) nz, fun t' ht' et p2 H2 n2 e2 g2' => ?_⟩
  have a0 := find_kind ok.nodup hm
  have a1 := find_kind ok.nodup ht'
  rw [et, a0] at a1
  obtain rfl := Option.some.inj a1
  refine w_c (w_ixT (Evl.st_of g2') (atI_pos (i := 1) (by decide) rfl) (w_var h2 ?_))
  exact w_mul (cmul_l (by omega) (by omega)) (r _ e2)
theorem w_pget {σ : L2.St} {x dx o pd : Addr} {ts : List Tr} {d f p : Int} {pc : List Int} {i j k : Nat} {t : Tr} (O : OfT K) (ok : OfferOk ts) (T : TabAt K H x dx o pd ts d f pc) (h0 : σ[j]? = some (some (.ref x))) (h1 : σ[k]? = some (some (.str t.1))) (ht : ts[i]? = some t) (hp : pc[i]? = some p)
    {R : VK} (r : R (.int p) H) : tDGet (tFld K (tVar j) "pieces") (tVar k) σ H R := by
  refine w_tFld (w_var h0 ⟨x, _, dx, _, _, rfl, T.ins, O.c, O.f4, rfl, w_var h1 ⟨pd, .int p, rfl, ?_, r⟩⟩)
  have := DGet.k (k := .inr t.1) T.pcs
  rwa [val_pc T.len ok.nodup ht hp] at this
theorem pure_Table_can_trade (O : OfT K) (h : sp_Table_can_trade K vs H Q E) : t_Table_can_trade K (Dn Q) (start N_Table_can_trade vs) H := by
  obtain ⟨x, dx, o, pd, ts, d, f, pc, z, c, rfl, T, ok, k1, k2⟩ := h
  have O' := O
  obtain ⟨⟨cls, np, cr, _, _⟩, tc, f1, f2, f3, f4, _, _⟩ := O
  have t1 := T.ins
  rw [st_Table_can_trade]
  unfold t_Table_can_trade
  refine w_seq (w_ifS (w_or (w_tB ?_)))
  unfold tDNotIn
  walk_at "own"
  by_cases hz : z ∈ ts.map (·.1)
  · obtain ⟨t, htm, rfl⟩ := List.mem_map.mp hz
    obtain ⟨i, ht⟩ := List.mem_iff_getElem?.mp htm
    have lt := (List.getElem?_eq_some_iff.mp ht).1
    have lpc := T.len
    have hpi : pc[i]? = some (pc[i]'(by omega)) := List.getElem?_eq_getElem (by omega)
    generalize pc[i]'(by omega) = p at hpi
    obtain ⟨kb, kg⟩ := k2 i t p ht rfl hpi
    refine ⟨pd, some (.int p), rfl, ?_, ?_⟩
    · have := DGet.k (k := .inr t.1) T.pcs
      rwa [val_pc T.len ok.nodup ht hpi] at this
    refine w_exb (w_f rfl ?_)
    refine w_test (w_op (w_need O' ok T rfl rfl rfl ht fun H1 e1 => ?_))
    have T1 := T.up e1
    refine w_pget O' ok T1 rfl rfl ht hpi ?_
    walk_at "own"
    refine w_2 (fun g => ?_) fun g => ?_
    · walk_at "own"
      exact kb g _ e1
    · walk_at "own"
      refine w_pcA (i := i) (t := t) (p := p) (c := p - t.2.2 * c) O' ok T1 rfl rfl ht hpi (fun R r => ?_) fun H2 e2 T2 => ?_
      · refine w_need O' ok T1 rfl rfl rfl ht fun H2 e2 => ⟨_, _, rfl, rfl, r _ e2⟩
      · walk_at "own"
        refine w_fullA O' T2 rfl rfl fun H3 e3 T3 => ?_
        walk_at "own"
        exact kg (by omega) _ (((ExT.of e1).trans e2).trans e3) T3
  · refine ⟨pd, none, rfl, ?_, ?_⟩
    · have := DGet.k (k := .inr z) T.pcs
      rwa [val_no (by rw [pcD_keys T.len]; exact hz)] at this
    walk_at "own"
    exact k1 hz _ (Evl.Ex.refl _)
/-- for .. in enumerate(l) -/
theorem w_forEL {σ : L2.St} {D : Ends} {g : TG} {tb : TS} {ta : TA} {a : Addr} {xs : List V} (Pv : Nat → L2.St → Hp → Prop) (hx : SqL K H a xs) (ht : ∀ R : List V → Hp → Prop, R [.ref a] H → ta σ H R) (h0 : Pv 0 σ H)
    (hl : ∀ i σ' H', i ≤ xs.length → Pv i σ' H' → SqL K H' a xs)
    (hs : ∀ i x σ' H' T H2, xs[i]? = some x → Pv i σ' H' → H' T = none → Ex H' H2 → H2 T = some (.tup [.int (i : Nat), x]) → g (.ref T) σ' H2 fun σ2 H3 => tb { D with nx := Pv (i + 1), ct := Pv (i + 1), bk := D.nx } σ2 H3) (hd : ∀ σ' H', Pv xs.length σ' H' → D.nx σ' H') :
    tFor (iEnum K ta) g tb D σ H := by
  refine ht _ ⟨a, xs, rfl, hx, fun i m σ' H' => m = xs.length - i ∧ i ≤ xs.length ∧ Pv i σ' H', ⟨_, rfl, Nat.zero_le _, h0⟩, ?_⟩
  rintro i m σ' H' ⟨rfl, hi, p⟩
  have q := hl i σ' H' hi p
  by_cases lt : i < xs.length
  · refine .inr ⟨⟨xs, xs[i], q, by simp [lt]⟩, Pv (i + 1), fun s2 H2 p' => ⟨_, by omega, rfl, lt, p'⟩, fun x H2 y => ?_⟩
    obtain ⟨T, z, rfl, hT, rfl, hz⟩ := y
    exact hs i z σ' H' T _ (hz xs q) p hT (Evl.Ex.new hT) upd_same
  · have e : i = xs.length := by omega
    subst e
    exact .inl ⟨⟨xs, q, Nat.le_refl _⟩, hd σ' H' p⟩
theorem kind_ix {ts : List Tr} (ok : OfferOk ts) {i j : Nat} {t u : Tr} (h1 : ts[i]? = some t) (h2 : ts[j]? = some u) (e : t.1 = u.1) : i = j := by
  have a : (ts.map (·.1))[i]? = some u.1 := by rw [List.getElem?_map, h1, ← e]; rfl
  have b : (ts.map (·.1))[j]? = some u.1 := by rw [List.getElem?_map, h2]; rfl
  exact nodup_ix ok.nodup a b
theorem oneT_excl {ts : List Tr} (ok : OfferOk ts) {z : Str} {c : Int} {s s1 : TSt} (a : oneT ts z c s s1) (b : noT ts z c s) : False := by
  obtain ⟨g, a⟩ := a
  rcases b with b | ⟨e, b⟩ | ⟨e, b⟩ | ⟨e, j, u, q, hj, eu, hq, lt⟩
  · exact b g
  · rcases a with ⟨_, le, _⟩ | ⟨ne, _⟩
    · omega
    · exact ne e
  · rcases a with ⟨e2, _⟩ | ⟨_, i, t, p, ht, et, _⟩
    · exact e e2
    · exact b (List.mem_map.mpr ⟨t, List.mem_of_getElem? ht, et⟩)
  · rcases a with ⟨e2, _⟩ | ⟨_, i, t, p, ht, et, hp, le, _⟩
    · exact e e2
    · obtain rfl := kind_ix ok ht hj (et.trans eu.symm)
      rw [ht] at hj
      rw [hp] at hq
      obtain rfl := Option.some.inj hj
      obtain rfl := Option.some.inj hq
      omega
theorem oneT_det {ts : List Tr} (ok : OfferOk ts) {z : Str} {c : Int} {s s1 s2 : TSt} (a : oneT ts z c s s1) (b : oneT ts z c s s2) : s1 = s2 := by
  obtain ⟨_, a⟩ := a
  obtain ⟨_, b⟩ := b
  rcases a with ⟨e, _, rfl⟩ | ⟨ne, i, t, p, ht, et, hp, _, rfl⟩
  · rcases b with ⟨_, _, rfl⟩ | ⟨ne, _⟩
    · rfl
    · exact absurd e ne
  · rcases b with ⟨e, _⟩ | ⟨_, j, u, q, hj, eu, hq, _, rfl⟩
    · exact absurd e ne
    · obtain rfl := kind_ix ok ht hj (et.trans eu.symm)
      rw [ht] at hj
      rw [hp] at hq
      obtain rfl := Option.some.inj hj
      obtain rfl := Option.some.inj hq
      rfl
theorem OutT.fail {ts : List Tr} (ok : OfferOk ts) {z : Str} {c : Int} {r : List (Str × Int)} {s : TSt} {o : TSt ⊕ Nat} (h : OutT ts ((z, c) :: r) s o) (b : noT ts z c s) : o = .inr 0 := by
  cases h with
  | bad _ => rfl
  | ok a _ => exact (oneT_excl ok a b).elim
  | on a _ => exact (oneT_excl ok a b).elim
theorem OutT.step {ts : List Tr} (ok : OfferOk ts) {z : Str} {c : Int} {r : List (Str × Int)} {s s1 : TSt} {o : TSt ⊕ Nat} (h : OutT ts ((z, c) :: r) s o) (a : oneT ts z c s s1) : ∃ o', OutT ts r s1 o' ∧ (∀ s', o' = .inl s' → o = .inl s') ∧ ∀ n, o' = .inr n → o = .inr (n + 1) := by
  cases h with
  | bad b => exact (oneT_excl ok a b).elim
  | ok a' q =>
    obtain rfl := oneT_det ok a a'
    exact ⟨_, q, fun _ e => e, fun _ e => nomatch e⟩
  | on a' q =>
    obtain rfl := oneT_det ok a a'
    exact ⟨_, q, (fun _ e => nomatch e), fun n e => by rw [Sum.inr.inj e]⟩
theorem purex_play (O : OfT K) (h : spx_play K vs H Q E) : tx_play K E (Dn Q) (start N_play vs) H := by
  obtain ⟨o, l, ts, n, ss, r, rfl, ho, ok, hs, ls, kE, k⟩ := h
  have O' := O
  obtain ⟨⟨cls, np, cr, _, _⟩, tc, f1, f2, f3, f4, xs1, xs2⟩ := O
  obtain ⟨xs, hl, hp⟩ := id hs
  have lx := pairedLen hp
  rw [st_play]
  unfold tx_play
  walk_at "own"
  refine ⟨n, 0, M18, rfl, kE, fun g H1 e1 => ?_⟩
  obtain ⟨kO, kB, kQ⟩ := k g
  walk_at "own"
  intro x dx H2 nx e2 hx
  refine ⟨x, dx, o, ts, n, rfl, hx, ho.up (Evl.Ex.trans e1 e2), ok, fun pd H3 npd e3 T3 => ⟨rfl, ?_⟩⟩
  have nx0 : H x = none := Evl.fresh_back e1 nx
  have npd0 : H pd = none := Evl.fresh_back (Evl.Ex.trans e1 e2) npd
  have e03 : Ex H H3 := ExB.ex (Evl.Ex.trans e1 e2) nx0 e3
  walk_at "own"
  refine w_forEL (fun i σ' H' => ∃ (o4 o5 o6 o7 : Option V) (s : TSt) (r' : TSt ⊕ Nat), σ' = [some (.ref o), some (.int n), some (.ref l), some (.ref x), o4, o5, o6, o7] ∧ Ex H H' ∧ TabAt K H' x dx o pd ts s.1 s.2.1 s.2.2 ∧ OutT ts (ss.drop i) s r' ∧ (∀ s', r' = .inl s' → r = .inl s') ∧ ∀ m, r' = .inr m → r = .inr (i + m))
    (Evl.sq_of (e03 _ _ hl)) (fun R q => by walk_at "own"; exact q) ⟨_, _, _, _, (0, n, _), r, rfl, e03, T3, kO, fun _ e => e, fun m e => by rw [e, Nat.zero_add]⟩ (fun i σ' H' _ ⟨_, _, _, _, _, _, _, e, _⟩ => Evl.sq_of (e _ _ hl)) ?_ ?_
  · rintro i y σ' H' T H4 hi ⟨o4, o5, o6, o7, s, r', rfl, e0, T4, out, r1, r2⟩ nT eT hT
    obtain ⟨⟨z, c⟩, hzc, p, rfl, hpp⟩ := pairedGet hp hi
    have e04 := Evl.Ex.trans e0 eT
    have hp4 := e04 _ _ hpp
    have T5 := T4.up eT
    have i5 := T5.ins
    have lt := (List.getElem?_eq_some_iff.mp hi).1
    have dr : ss.drop i = (z, c) :: ss.drop (i + 1) := by
      rw [List.drop_eq_getElem_cons (by omega)]
      rw [List.getElem?_eq_getElem (by omega)] at hzc
      rw [Option.some.inj hzc]
    rw [dr] at out
    have fail : noT ts z c s → ∀ {H5 : Hp}, Ex H H5 → ∀ d H6, H5 d = none → Ex H5 H6 → H6 d = some (.xd [("index", .int (i : Nat))]) → E (.ref (He.ga K "InvalidStep")) (some d) H6 := fun b H5 e5 d H6 _ e6 hd => by
      have := r2 0 (out.fail ok b)
      exact kB i (by simpa using this) H6 d (Evl.Ex.trans e5 e6) hd
    have raise : noT ts z c s → ∀ {H5 : Hp} {D : Ends} {o5 o6 : V} {o7 : Option V}, Ex H H5 → tRs (tMkF K (He.ga K "InvalidStep") "index" (tVar 4)) E D [some (.ref o), some (.int n), some (.ref l), some (.ref x), some (.int (i : Nat)), some o5, some o6, o7] H5 := fun b H5 D _ _ _ e5 =>
      w_raiseF xs1 xs2 (fun R q => w_var rfl q) (fail b e5)
    have ok2 : ∀ s1 : TSt, oneT ts z c s s1 → ∃ r2', OutT ts (ss.drop (i + 1)) s1 r2' ∧ (∀ s', r2' = .inl s' → r = .inl s') ∧ ∀ m, r2' = .inr m → r = .inr (i + 1 + m) := fun s1 a => by
      obtain ⟨o', q1, q2, q3⟩ := out.step ok a
      exact ⟨o', q1, fun s' e => r1 s' (q2 s' e), fun m e => by rw [r2 _ (q3 m e)]; congr 1; omega⟩
    have on : ∀ (s1 : TSt) {H5 : Hp} {o7' : Option V}, oneT ts z c s s1 → ExT x pd H4 H5 → TabAt K H5 x dx o pd ts s1.1 s1.2.1 s1.2.2 → ∃ (o4 o5 o6 o7 : Option V) (s : TSt) (r' : TSt ⊕ Nat), [some (.ref o), some (.int n), some (.ref l), some (.ref x), some (.int (i : Nat)), some (.str z), some (.int c), o7'] = [some (.ref o), some (.int n), some (.ref l), some (.ref x), o4, o5, o6, o7] ∧ Ex H H5 ∧ TabAt K H5 x dx o pd ts s.1 s.2.1 s.2.2 ∧ OutT ts (ss.drop (i + 1)) s r' ∧ (∀ s', r' = .inl s' → r = .inl s') ∧ ∀ m, r' = .inr m → r = .inr (i + 1 + m) := fun s1 H5 o7' a e5 T6 => by
      obtain ⟨r2', q1, q2, q3⟩ := ok2 s1 a
      exact ⟨_, _, _, _, s1, r2', rfl, ExT.ex e04 nx0 npd0 e5, T6, q1, q2, q3⟩
    walk_at "own"
    by_cases g0 : 0 ≤ c
    · rw [if_pos (decide_eq_true g0)]
      walk_at "own"
      by_cases g1 : c ≤ 1000000000000000000
      · rw [if_neg (by simp [g1])]
        walk_at "own"
        by_cases gd : z = "drink"
        · rw [if_pos (decide_eq_true gd)]
          walk_at "own"
          refine ⟨x, dx, o, pd, ts, s.1, s.2.1, s.2.2, c, rfl, T5, ok, fun lt H5 e5 => ?_, fun le H5 e5 T6 => ?_⟩
          · walk_at "own"
            exact raise (.inr (.inl ⟨gd, lt⟩)) (Evl.Ex.trans e04 e5)
          · walk_at "own"
            exact on _ ⟨⟨g0, g1⟩, .inl ⟨gd, le, rfl⟩⟩ e5 T6
        · rw [if_neg (by simp [gd])]
          walk_at "own"
          refine ⟨x, dx, o, pd, ts, s.1, s.2.1, s.2.2, z, c, rfl, T5, ok, fun nz H5 e5 => ?_, fun j t p ht et hp' => ⟨fun lt H5 e5 => ?_, fun le H5 e5 T6 => ?_⟩⟩
          · walk_at "own"
            exact raise (.inr (.inr (.inl ⟨gd, nz⟩))) (Evl.Ex.trans e04 e5)
          · walk_at "own"
            exact raise (.inr (.inr (.inr ⟨gd, j, t, p, ht, et, hp', lt⟩))) (Evl.Ex.trans e04 e5)
          · walk_at "own"
            exact on _ ⟨⟨g0, g1⟩, .inr ⟨gd, j, t, p, ht, et, hp', le, rfl⟩⟩ e5 T6
      · rw [if_pos (by simp [g1])]
        exact raise (.inl fun w => g1 w.2) e04
    · rw [if_neg (by simp [g0])]
      walk_at "own"
      exact raise (.inl fun w => g0 w.1) e04
  · rintro σ' H' ⟨o4, o5, o6, o7, s, r', rfl, e0, T4, out, r1, r2⟩
    rw [lx, List.drop_length] at out
    cases out
    have es := r1 _ rfl
    have i4 := T4.ins
    walk_at "own"
    rename_i pt H5 n5 e5 h5
    exact kQ s es pt pd H5 (Evl.fresh_back e0 n5) npd0 (Evl.Ex.trans e0 e5) h5 (e5 _ _ T4.pcs) T4.len
/-! ### greedy steps -/
theorem quo_mod {l n d f : Int} (n0 : 0 < n) : (l * d % n + l * f) / n = l * (d + f) / n - l * d / n ∧ (l * d % n + l * f) - n * ((l * d % n + l * f) / n) = l * (d + f) % n := by
  have a : l * d % n + n * (l * d / n) = l * d := by rw [Int.emod_def]; omega
  have b : l * (d + f) = l * d + l * f := Int.mul_add ..
  have e : l * d % n + l * f = l * (d + f) + n * (-(l * d / n)) := by
    rw [Int.mul_neg]
    omega
  have q : (l * d % n + l * f) / n = l * (d + f) / n - l * d / n := by
    rw [e, Int.add_mul_ediv_left _ _ (by omega)]
    omega
  refine ⟨q, ?_⟩
  rw [q, Int.mul_sub, Int.emod_def (l * (d + f)) n]
  omega
def restP (ts : List Tr) (d : Int) : List Int := ts.map fun t => t.2.1 * d % t.2.2
theorem restP_zero (ts : List Tr) : restP ts 0 = ts.map fun _ => 0 := List.map_congr_left fun t _ => by rw [Int.mul_zero, Int.zero_emod]
theorem tradesT_snoc {ts : List Tr} {d D : Int} {i : Nat} {t : Tr} (h : ts[i]? = some t) : tradesT (ts.take (i + 1)) d D = tradesT (ts.take i) d D ++ (if 0 < t.2.1 * D / t.2.2 - t.2.1 * d / t.2.2 then [(t.1, t.2.1 * D / t.2.2 - t.2.1 * d / t.2.2)] else []) := by
  unfold tradesT
  rw [List.take_succ, h, List.map_append, List.filter_append]
  congr 1
  by_cases q : 0 < t.2.1 * D / t.2.2 - t.2.1 * d / t.2.2
  · rw [if_pos q]
    simp only [Option.toList, List.map_cons, List.map_nil, List.filter_cons, List.filter_nil, decide_eq_true q, if_true]
  · rw [if_neg q]
    simp only [Option.toList, List.map_cons, List.map_nil, List.filter_cons, List.filter_nil, decide_eq_false q]
    rfl
theorem tradesT_len {ts : List Tr} {d D : Int} : (tradesT ts d D).length ≤ ts.length := by
  unfold tradesT
  exact Nat.le_trans (List.length_filter_le _ _) (by rw [List.length_map]; exact Nat.le_refl _)
theorem bo_take {ts : List Tr} {d : Int} {i : Nat} {t : Tr} (h : ts[i]? = some t) : bo (ts.take (i + 1)) d = bo (ts.take i) d + t.2.1 * d / t.2.2 := by
  show ((ts.take (i + 1)).map fun t => t.2.1 * d / t.2.2).sum = ((ts.take i).map fun t => t.2.1 * d / t.2.2).sum + _
  rw [List.take_succ, h, List.map_append, List.sum_append]
  simp
/-- what stands while the steps are made -/
structure GSt (K : PySem.W.Frag) (H0 : Hp) (x dx o pd sl : Addr) (ts : List Tr) (d f : Int) (pc : List Int) (ss : List (Str × Int)) (H : Hp) : Prop where
  ex : Ex H0 H
  nx : H0 x = none
  np : H0 pd = none
  ns : H0 sl = none
  tb : TabAt K H x dx o pd ts d f pc
  st : StepsL H sl ss
section
variable {H0 H H' : Hp} {x dx o pd sl : Addr} {ts : List Tr} {d f d' f' : Int} {pc pc' : List Int} {ss : List (Str × Int)}
theorem GSt.up (g : GSt K H0 x dx o pd sl ts d f pc ss H) (e : Ex H H') : GSt K H0 x dx o pd sl ts d f pc ss H' := ⟨Evl.Ex.trans g.ex e, g.nx, g.np, g.ns, g.tb.up e, g.st.up e⟩
theorem GSt.tab (g : GSt K H0 x dx o pd sl ts d f pc ss H) (e : ExT x pd H H') (T : TabAt K H' x dx o pd ts d' f' pc') : GSt K H0 x dx o pd sl ts d' f' pc' ss H' := by
  obtain ⟨xs, h1, h2⟩ := g.st
  exact ⟨ExT.ex g.ex g.nx g.np e, g.nx, g.np, g.ns, T, xs, g.tb.keep e h1 (fun _ _ _ z => nomatch z) fun _ z => (nomatch z), stepsBy (fun a ys h => g.tb.keepT e h) h2⟩
theorem GSt.app (g : GSt K H0 x dx o pd sl ts d f pc ss H) {ys : List V} {v : V} {s : Str × Int} (hl : H sl = some (.lst ys)) (hp : Paired (StepAt H) ys ss) (hv : StepAt H v s) (e : ExB sl H H') (h' : H' sl = some (.lst (ys ++ [v]))) : GSt K H0 x dx o pd sl ts d f pc (ss ++ [s]) H' := by
  have k : ∀ a xs, H a = some (.tup xs) → H' a = some (.tup xs) := fun a xs h => e _ _ (ne_of h hl fun z => nomatch z) h
  refine ⟨ExB.ex g.ex g.ns e, g.nx, g.np, g.ns, ⟨e _ _ (ne_of g.tb.ins hl fun z => nomatch z) g.tb.ins, g.tb.of.upN (NL.ofB hl e), e _ _ (ne_of g.tb.pcs hl fun z => nomatch z) g.tb.pcs, g.tb.len⟩, _, h', pairedSnoc (stepsBy k hp) ?_⟩
  obtain ⟨p, e1, h1⟩ := hv
  exact ⟨p, e1, k _ _ h1⟩
end
theorem purex_greedy_steps (O : OfT K) (h : spx_greedy_steps K vs H Q E) : tx_greedy_steps K E (Dn Q) (start N_greedy_steps vs) H := by
  obtain ⟨o, ts, n, rfl, ho, ok, kE, k⟩ := h
  have O' := O
  obtain ⟨⟨cls, np, cr, _, _⟩, tc, f1, f2, f3, f4, _, _⟩ := O
  have fr := ok.fair
  rw [st_greedy_steps]
  unfold tx_greedy_steps
  walk_at "own"
  refine ⟨n, 0, M18, rfl, kE, fun g H1 e1 => ?_⟩
  have kk := k g
  have h1 := g.1
  have h2 : n ≤ 1000000000000000000 := g.2
  have t := drk_spec fr h1
  have tf := t.fix
  have tn := t.nn
  have tl := drk_le fr h1
  walk_at "own"
  intro x dx H2 nx e2 hx
  refine ⟨x, dx, o, ts, n, rfl, hx, ho.up (Evl.Ex.trans e1 e2), ok, fun pd H3 npd e3 T3 => ⟨rfl, ?_⟩⟩
  have nx0 : H x = none := Evl.fresh_back e1 nx
  have npd0 : H pd = none := Evl.fresh_back (Evl.Ex.trans e1 e2) npd
  have e03 : Ex H H3 := ExB.ex (Evl.Ex.trans e1 e2) nx0 e3
  walk_at "own"
  rename_i sl H4 n4 e4 h4
  have g4 : GSt K H x dx o pd sl ts 0 n (restP ts 0) [] H4 := ⟨Evl.Ex.trans e03 e4, nx0, npd0, Evl.fresh_back e03 n4, by rw [restP_zero]; exact T3.up e4, [], h4, .nil⟩
  refine w_while (fun m σ' H' => ∃ (d fl : Int) (o4 o5 o6 o7 : Option V) (ss : List (Str × Int)) (kr : Nat), σ' = [some (.ref o), some (.int n), some (.ref x), some (.ref sl), o4, o5, o6, o7] ∧ GSt K H x dx o pd sl ts d fl (restP ts d) ss H' ∧ 0 ≤ d ∧ 0 ≤ fl ∧ d ≤ drk ts n ∧ d + fl = n + bo ts d ∧ Near kr (drk ts n - d) ∧ ss.length ≤ 4 * kr ∧
      (∀ rest, Greedy ts d fl rest → Greedy ts 0 n (ss ++ rest)) ∧ m = (drk ts n - d).toNat) _ ⟨0, n, _, _, _, _, [], 0, rfl, g4, by decide, h1, tn, by rw [bo_zero]; omega, ⟨fun _ => by simp; omega, fun z => absurd z (by decide)⟩, by simp, fun rest z => z, rfl⟩ ?_
  rintro m σ' H' ⟨d, fl, o4, o5, o6, o7, ss, kr, rfl, gs, d0, f0, dl, df, nr, ls, rs, rfl⟩
  have kl : kr ≤ 490 := by
    by_cases q : 460 ≤ kr
    · have := nr.late q
      omega
    · omega
  have i5 := gs.tb.ins
  walk_at "own"
  refine w_2 (fun pos => ?_) fun npos => ?_
  · refine w_turn ?_
    walk_at "own"
    refine ⟨x, dx, o, pd, ts, d, fl, restP ts d, fl, rfl, gs.tb, ok, fun lt => absurd lt (by omega), fun _ H6 e6 T6 => ?_⟩
    have gs6 := gs.tab e6 T6
    obtain ⟨ys, hl6, hp6⟩ := id gs6.st
    have ly : ys.length < 100000 := by rw [pairedLen hp6]; omega
    walk_at "own"
    rename_i p7 H7 n7 e7 h7 H8 e8 h8
    have hl7 := e7 _ _ hl6
    have gs8 : GSt K H x dx o pd sl ts (d + fl) (fl - fl) (drunkP ts (restP ts d) fl) (ss ++ [(("drink" : Str), fl)]) H8 := (gs6.up e7).app hl7 (stepsBy (fun _ _ z => e7 _ _ z) hp6) ⟨p7, rfl, h7⟩ e8 h8
    rw [Int.sub_self] at gs8
    have ho9 := ho.up gs8.ex
    walk_at "own"
    refine ap_Offer_trades ho9 fun pa H9 ha9 e9 => ?_
    have gs9 := gs8.up e9
    obtain ⟨xs, hx9, hp9⟩ := id ha9
    have lx := pairedLen hp9
    have l3 := fr.1.1
    refine w_foTt (fun i σ' H' => ∃ (o4 o5 o6 o7 : Option V) (qc : List Int) (ss' : List (Str × Int)), σ' = [some (.ref o), some (.int n), some (.ref x), some (.ref sl), o4, o5, o6, o7] ∧ GSt K H x dx o pd sl ts (d + fl) (bo (ts.take i) (d + fl) - bo (ts.take i) d) qc ss' H' ∧ ss' = ss ++ (("drink" : Str), fl) :: tradesT (ts.take i) d (d + fl) ∧ (H' pa = some (.tup xs) ∧ Paired (TrAt H') xs ts) ∧
      ∀ (j : Nat) t, ts[j]? = some t → qc[j]? = some (if j < i then t.2.1 * (d + fl) % t.2.2 else t.2.1 * d % t.2.2 + t.2.1 * fl))
      (Evl.st_of hx9) ⟨_, _, _, _, _, _, rfl, by rw [List.take_zero, bo_nil, bo_nil]; exact gs9, by rw [List.take_zero]; rfl, ⟨hx9, hp9⟩, fun j t ht => ?_⟩ (fun i σ' H' _ ⟨_, _, _, _, _, _, _, _, _, hT, _⟩ => Evl.st_of hT.1) ?_ ?_
    · rw [if_neg (by omega)]
      refine drunkP_at ht ?_
      unfold restP
      rw [List.getElem?_map, ht]
      rfl
    · rintro i v σ' H10 hi ⟨q4, q5, q6, q7, qc, ss', rfl, gi, es, ⟨hx10, hp10⟩, hq⟩
      obtain ⟨t, ht, pt, rfl, hpt⟩ := pairedGet hp10 hi
      have lt := (List.getElem?_eq_some_iff.mp ht).1
      obtain ⟨t1, t2, t3, t4⟩ := fr.1.2 t (List.mem_of_getElem? ht)
      have hqi := hq i t ht
      rw [if_neg (by omega)] at hqi
      obtain ⟨qm1, qm2⟩ := quo_mod (l := t.2.1) (n := t.2.2) (d := d) (f := fl) (by omega)
      have sn := tradesT_snoc (d := d) (D := d + fl) ht
      have b1 := bo_take (d := d) ht
      have b2 := bo_take (d := d + fl) ht
      have p0 : 0 ≤ t.2.1 * d % t.2.2 + t.2.1 * fl := by
        have := Int.emod_nonneg (t.2.1 * d) (show t.2.2 ≠ 0 by omega)
        have := Int.mul_nonneg t1 f0
        omega
      have p1 : t.2.1 * d % t.2.2 + t.2.1 * fl ≤ 1000000000000000000000 := by
        have := Int.emod_lt_of_pos (t.2.1 * d) (show 0 < t.2.2 by omega)
        have b3 := bo_tenth fr d0
        have : t.2.1 * fl ≤ 12 * fl := Int.mul_le_mul_of_nonneg_right t2 f0
        omega
      have em : t.2.1 * (d + fl) % t.2.2 = t.2.1 * d % t.2.2 + t.2.1 * fl - t.2.2 * ((t.2.1 * d % t.2.2 + t.2.1 * fl) / t.2.2) := qm2.symm
      rw [← qm1] at sn
      generalize hp0 : t.2.1 * d % t.2.2 + t.2.1 * fl = p at *
      have i10 := gi.tb.ins
      have nq : 0 ≤ p / t.2.2 := Int.ediv_nonneg p0 (by omega)
      have lt2 : (tradesT (ts.take i) d (d + fl)).length ≤ 3 := Nat.le_trans tradesT_len (by rw [List.length_take]; omega)
      have ls' : ss'.length ≤ 4 * kr + 4 := by
        rw [es, List.length_append, List.length_cons]
        omega
      have qcs : ∀ {qc' : List Int}, qc'.length = ts.length → (∀ j, j ≠ i → qc'[j]? = qc[j]?) → qc'[i]? = some (t.2.1 * (d + fl) % t.2.2) → ∀ (j : Nat) u, ts[j]? = some u → qc'[j]? = some (if j < i + 1 then u.2.1 * (d + fl) % u.2.2 else u.2.1 * d % u.2.2 + u.2.1 * fl) := fun {qc'} _ o' i' j u hu => by
        by_cases e : j = i
        · subst e
          rw [ht] at hu
          obtain rfl := Option.some.inj hu
          rw [if_pos (by omega)]
          exact i'
        · rw [o' j e, hq j u hu]
          by_cases l : j < i
          · rw [if_pos l, if_pos (by omega)]
          · rw [if_neg l, if_neg (by omega)]
      walk_at "own"
      refine w_pget O' ok gi.tb rfl rfl ht hqi ?_
      walk_at "own"
      refine w_2 (fun ps => ?_) fun nps => ?_
      · walk_at "own"
        refine ⟨x, dx, o, pd, ts, d + fl, _, qc, t.1, p / t.2.2, rfl, gi.tb, ok, fun nz => absurd (List.mem_map_of_mem (List.mem_of_getElem? ht)) nz, fun j u p' hu eu hp' => ?_⟩
        obtain rfl := kind_ix ok ht hu eu.symm
        rw [ht] at hu
        rw [hqi] at hp'
        obtain rfl := Option.some.inj hu
        obtain rfl := Option.some.inj hp'
        have mle : t.2.2 * (p / t.2.2) ≤ p := Int.mul_ediv_self_le (by omega)
        refine ⟨fun lt => by omega, fun _ H11 e11 T11 => ?_⟩
        have g11 := gi.tab e11 T11
        obtain ⟨zs, hl11, hp11⟩ := id g11.st
        have lz : zs.length < 100000 := by rw [pairedLen hp11]; omega
        walk_at "own"
        rename_i p12 H12 n12 e12 h12 H13 e13 h13
        have hl12 := e12 _ _ hl11
        have g13 := (g11.up e12).app hl12 (stepsBy (fun _ _ z => e12 _ _ z) hp11) (s := (t.1, p / t.2.2)) ⟨p12, rfl, h12⟩ e13 h13
        have kt : ∀ a ys, H10 a = some (.tup ys) → H13 a = some (.tup ys) := fun a ys hh => e13 _ _ (ne_of (e12 _ _ (gi.tb.keepT e11 hh)) hl12 fun z => nomatch z) (e12 _ _ (gi.tb.keepT e11 hh))
        refine ⟨_, _, _, _, qc.set i (p - t.2.2 * (p / t.2.2)), ss' ++ [(t.1, p / t.2.2)], rfl, ?_, ?_, ⟨kt _ _ hx10, trsBy kt hp10⟩, qcs (by rw [List.length_set]; exact gi.tb.len) (fun j' ne => List.getElem?_set_ne (Ne.symm ne)) ?_⟩
        · have e1' : bo (ts.take (i + 1)) (d + fl) - bo (ts.take (i + 1)) d = bo (ts.take i) (d + fl) - bo (ts.take i) d + p / t.2.2 := by omega
          rw [e1']
          exact g13
        · rw [sn, if_pos ps, es, List.append_assoc, List.cons_append]
        · rw [List.getElem?_set_self (by rw [gi.tb.len]; exact lt), em]
      · walk_at "own"
        have z : p / t.2.2 = 0 := by omega
        refine ⟨_, _, _, _, qc, ss', rfl, ?_, ?_, ⟨hx10, hp10⟩, qcs gi.tb.len (fun _ _ => rfl) ?_⟩
        · have e1' : bo (ts.take (i + 1)) (d + fl) - bo (ts.take (i + 1)) d = bo (ts.take i) (d + fl) - bo (ts.take i) d := by omega
          rw [e1']
          exact gi
        · rw [sn, if_neg nps, List.append_nil, es]
        · rw [hqi, em, z, Int.mul_zero, Int.sub_zero]
    · rintro σ' H10 ⟨q4, q5, q6, q7, qc, ss', rfl, gi, es, hT, hq⟩
      rw [lx, List.take_length] at gi es
      have eq : qc = restP ts (d + fl) := pcs_ext gi.tb.len (by unfold restP; rw [List.length_map]) fun j t ht => by
        have lt := (List.getElem?_eq_some_iff.mp ht).1
        rw [hq j t ht, if_pos (by omega)]
        unfold restP
        rw [List.getElem?_map, ht]
        rfl
      subst eq
      have up := bo_mono fr.1.2 dl
      have m1 := bo_mono fr.1.2 (show d ≤ d + fl by omega)
      have bd := bo_diff fr dl
      have lt2 := tradesT_len (ts := ts) (d := d) (D := d + fl)
      refine ⟨(drk ts n - (d + fl)).toNat, by omega, d + fl, bo ts (d + fl) - bo ts d, _, _, _, _, ss', kr + 1, rfl, gi, by omega, by omega, by omega, by omega, nr.step (by omega) (by omega), ?_, fun rest z => ?_, rfl⟩
      · rw [es, List.length_append, List.length_cons]
        omega
      · rw [es, List.append_assoc, List.cons_append]
        exact rs _ (.cons pos z)
  · walk_at "own"
    have z : fl = 0 := by omega
    subst z
    have := rs [] .nil
    rw [List.append_nil] at this
    exact kk sl ss H' gs.ns gs.ex gs.st this (by omega)
end
end EB
namespace EB
open PySem PySem.Spec L2 StX ClX
set_option maxHeartbeats 4000000
section
variable {K : PySem.W.Frag} {H : Hp} {Q : VK} {E : XK} {vs : List V}
theorem DqAll.app {H : Hp} : ∀ {xs ys : List V} {ds es : List PyData}, DqAll H xs ds → DqAll H ys es → DqAll H (xs ++ ys) (ds ++ es)
  | _, _, _, _, .nil, h => h
  | _, _, _, _, .cons a r, h => .cons a (r.app h)
theorem dqStrL {H : Hp} : ∀ zs : List Str, DqAll H (zs.map V.str) (zs.map PyData.str)
  | [] => .nil
  | z :: zs => .cons (.str z) (dqStrL zs)
theorem dqSteps {H : Hp} : ∀ {xs : List V} {ss : List (Str × Int)}, Paired (StepAt H) xs ss → DqAll H xs (ss.map stepD)
  | _, _, .nil => .nil
  | _, _, .cons ⟨p, e, h⟩ r => .cons (by rw [e]; exact .tup h (.cons (.str _) (.cons (.int _) .nil))) (dqSteps r)
theorem dqObs {H : Hp} : ∀ {xs : List V} {N : List Ob}, Paired (ObAt H) xs N → DqAll H xs (N.map obsD)
  | _, _, .nil => .nil
  | _, o :: _, .cons ⟨p, e, h⟩ r => .cons (by
      rw [e]
      cases o with
      | left z c => exact .tup h (.cons (.str _) (.cons (.str _) (.cons (.int _) .nil)))
      | round m q => exact .tup h (.cons (.str _) (.cons (.int _) (.cons (.int _) .nil)))) (dqObs r)
theorem items2 {H0 H H' : Hp} {xs ys : List V} (a : ∀ x ∈ xs, Item 10000 H0 H x) (e : Ex H H') (b : ∀ y ∈ ys, Item 10000 H0 H' y) : ∀ z ∈ xs ++ ys, Item 10000 H0 H' z := fun z hz => (List.mem_append.mp hz).elim (fun h => (a z h).up e (Nat.le_refl _)) (b z)
theorem Item.nth {n : Nat} {H0 H : Hp} {ts : List Tr} {k : Int} {v : V} (h : NthV ts k v) : Item n H0 H v := by
  rcases h with ⟨rfl, _⟩ | ⟨n, rfl, _⟩
  · exact .non
  · exact .int n
theorem Dq.nth {H : Hp} {ts : List Tr} {k : Int} {v : V} (h : NthV ts k v) : Dq H v (vD v) := by
  rcases h with ⟨rfl, _⟩ | ⟨n, rfl, _⟩
  · exact .non
  · exact .int n
theorem Item.np {n : Nat} {H0 H : Hp} {p : Int → Bool} {k : Int} {v : V} (h : NpV p k v) : Item n H0 H v := by
  rcases h with ⟨n, rfl, _⟩ | ⟨rfl, _⟩
  · exact .int n
  · exact .non
theorem Dq.np {H : Hp} {p : Int → Bool} {k : Int} {v : V} (h : NpV p k v) : Dq H v (vD v) := by
  rcases h with ⟨n, rfl, _⟩ | ⟨rfl, _⟩
  · exact .int n
  · exact .non
/-- an item is no cell that comes later -/
theorem Item.ne {n : Nat} {H0 H : Hp} {v : V} {p : Addr} (h : Item n H0 H v) (hp : H p = none) : v ≠ .ref p := by
  rintro rfl
  cases h with
  | tup h => rw [hp] at h; cases h
  | lst _ h _ => rw [hp] at h; cases h
  | dic _ h => rw [hp] at h; cases h
theorem Keep.tup {H0 H Hg : Hp} (k : Keep H0 H Hg) {a : Addr} {ys : List V} (h : H a = some (.tup ys)) : Hg a = some (.tup ys) := k a _ h (.inr ⟨_, rfl⟩)
theorem Keep.new {H0 H Hg : Hp} (k : Keep H0 H Hg) {a : Addr} {u : HO} (n : H0 a = none) (h : H a = some u) : Hg a = some u := k a _ h (.inl n)
theorem w_boolO1 {σ : L2.St} {o : Addr} {ts : List Tr} {te : TE} (ht : ∀ Q : VK, Q (.ref o) H → te σ H Q) (h : OfferAt K H o ts) (ok : OfferOk ts) (k : ∀ H', Ex H H' → Q (.bl (gives ts)) H') : tBoolO (He.ga K "Offer") (sp_Offer_bool K) E te σ H Q := by
  refine ht _ ⟨o, rfl, ?_, o, ts, rfl, h, ok, fun H' e => ⟨gives ts, rfl, k H' e⟩⟩
  obtain ⟨dx, a, h1, _⟩ := h
  exact ⟨_, _, h1⟩
theorem pure__law_all (O : OfT K) (h : sp__law_all K vs H Q E) : t__law_all K (Dn Q) (start N__law_all vs) H := by
  obtain ⟨o, w, ts, b, N, Z, far, rfl, ho, ok, wa, hs, lN, f0, f1, k⟩ := h
  have f2 : far ≤ 1000000000000000000 := by omega
  have l3 := ok.fair.1.1
  have ls : (ts.map fun t => V.str t.1) = (ts.map (·.1)).map V.str := by rw [List.map_map]; rfl
  rw [st__law_all]
  unfold t__law_all
  walk_at "own"
  refine ap_Offer_trades ho fun pa H1 ha1 e1 => ?_
  have ho1 := ho.up e1
  walk_at "own"
  refine ⟨o, ts, rfl, ho1, by omega, fun pk H2 hk2 e2 => ?_⟩
  have E2 := Evl.Ex.trans e1 e2
  have ho2 := ho.up E2
  walk_at "own"
  refine ap_Offer_period ho2 ok fun pp H3 n3 e3 h3 => ?_
  have E3 := Evl.Ex.trans E2 e3
  have ho3 := ho.up E3
  walk_at "own"
  refine ap_Offer_steady_from ho3 ok fun st H4 hst e4 => ?_
  have E4 := Evl.Ex.trans E3 e4
  have ho4 := ho.up E4
  walk_at "own"
  rename_i H5 e5
  have E5 := Evl.Ex.trans E4 e5
  have ho5 := ho.up E5
  refine ap_Offer_credit ho5 ok f0 f2 fun D H6 hD e6 => ?_
  have E6 := Evl.Ex.trans E5 e6
  have ho6 := ho.up E6
  walk_at "own"
  refine w_inOffer ho6 ok f0 fun com H7 hcom e7 => ?_
  have E7 := Evl.Ex.trans E6 e7
  walk_at "own"
  rename_i l8 H8 n8 e8 h8
  have E8 := Evl.Ex.trans E7 e8
  have ho8 := ho.up E8
  have e28 : Ex H2 H8 := Evl.Ex.trans e3 (Evl.Ex.trans e4 (Evl.Ex.trans e5 (Evl.Ex.trans e6 (Evl.Ex.trans e7 e8))))
  have e38 : Ex H3 H8 := Evl.Ex.trans e4 (Evl.Ex.trans e5 (Evl.Ex.trans e6 (Evl.Ex.trans e7 e8)))
  have t8 := ha1.up (Evl.Ex.trans e2 e28)
  have D8 : ∀ Hg, Keep H H8 Hg → DqAll Hg [.ref pa, .ref pk, .ref pp, .int st, .int (drk ts far), .int D, .bl com] [.tuple (ts.map trD), .tuple ((ts.map (·.1)).map PyData.str), .tuple [.int (nd ts), .int (perd ts)], .int st, .int (drk ts far), .int D, .bool com] := fun Hg G => by
    obtain ⟨xs, g1, g2⟩ := t8
    have hk8 := e28 _ _ hk2
    rw [ls] at hk8
    exact .cons (.tup (G.tup g1) (dqTrs (trsBy (fun _ _ z => G.tup z) g2))) (.cons (.tup (G.tup hk8) (dqStrL _)) (.cons (.tup (G.tup (e38 _ _ h3)) (.cons (.int _) (.cons (.int _) .nil))) (.cons (.int _) (.cons (.int _) (.cons (.int _) (.cons (.bl _) .nil))))))
  have I8 : ∀ x ∈ [.ref pa, .ref pk, .ref pp, .int st, .int (drk ts far), .int D, .bl com], Item 10000 H H8 x := by
    obtain ⟨xs, g1, _⟩ := t8
    intro x hx
    simp only [List.mem_cons, List.not_mem_nil, or_false] at hx
    rcases hx with rfl | rfl | rfl | rfl | rfl | rfl | rfl
    · exact .tup g1
    · exact .tup (e28 _ _ hk2)
    · exact .tup (e38 _ _ h3)
    · exact .int _
    · exact .int _
    · exact .int _
    · exact .bl _
  walk_at "own"
  refine ap_Offer_trades_made ho8 ok f0 f2 fun p9 H9 n9 e9 h9 => ?_
  have E9 := Evl.Ex.trans E8 e9
  have ho9 := ho.up E9
  walk_at "own"
  refine ap_Offer_left_over ho9 ok f0 f2 fun p10 H10 n10 e10 h10 => ?_
  have E10 := Evl.Ex.trans E9 e10
  have ho10 := ho.up E10
  walk_at "own3"
  refine ap_Offer_rounds ho10 ok f0 f2 fun fs H11 hfs lfs e11 p12 n12 => ?_
  have E11 := Evl.Ex.trans E10 e11
  have e12 : Ex H11 (upd H11 p12 (.lst (fs.map V.int))) := Evl.Ex.new n12
  have h12 : (upd H11 p12 (.lst (fs.map V.int))) p12 = some (.lst (fs.map V.int)) := upd_same
  generalize upd H11 p12 (.lst (fs.map V.int)) = H12 at e12 h12 ⊢
  have E12 := Evl.Ex.trans E11 e12
  have ho12 := ho.up E12
  walk_at "own"
  refine ap_Offer_fewest_bottles ho12 ok f0 f2 fun F H13 hF e13 => ?_
  have E13 := Evl.Ex.trans E12 e13
  have h13 : H13 l8 = some (.lst [.ref pa, .ref pk, .ref pp, .int st, .int (drk ts far), .int D, .bl com]) := (Evl.Ex.trans e9 (Evl.Ex.trans e10 (Evl.Ex.trans e11 (Evl.Ex.trans e12 e13)))) _ _ h8
  walk_at "own"
  rename_i l14 H14 n14 e14 h14 l15 H15 n15 e15 h15
  have e1214 := Evl.Ex.trans e13 e14
  have E14 := Evl.Ex.trans E13 e14
  have h9' := (Evl.Ex.trans e10 (Evl.Ex.trans e11 (Evl.Ex.trans e12 e1214))) _ _ h9
  have h10' := (Evl.Ex.trans e11 (Evl.Ex.trans e12 e1214)) _ _ h10
  have h12' := e1214 _ _ h12
  have N9 := Evl.fresh_back E8 n9
  have N10 := Evl.fresh_back E9 n10
  have N12 := Evl.fresh_back E11 n12
  have e815 : Ex H8 H15 := Evl.Ex.trans e9 (Evl.Ex.trans e10 (Evl.Ex.trans e11 (Evl.Ex.trans e12 (Evl.Ex.trans e1214 e15))))
  have E15 := Evl.Ex.trans E14 e15
  have ho15 := ho.up E15
  have D15 : ∀ Hg, Keep H H15 Hg → DqAll Hg _ _ := fun Hg G => DqAll.app (D8 Hg (G.back e815)) (show DqAll Hg [.ref p9, .ref p10, .ref p12, .int F] [dicD (made ts far), dicD (left ts far), .list (fs.map PyData.int), .int F] from
    .cons (.dic (G.new N9 (e15 _ _ h9'))) (.cons (.dic (G.new N10 (e15 _ _ h10'))) (.cons (.lst (G.new N12 (e15 _ _ h12')) dq_ints) (.cons (.int _) .nil))))
  have I15 := items2 I8 e815 (ys := [.ref p9, .ref p10, .ref p12, .int F]) (by
    intro x hx
    simp only [List.mem_cons, List.not_mem_nil, or_false] at hx
    rcases hx with rfl | rfl | rfl | rfl
    · exact .dic N9 (e15 _ _ h9')
    · exact .dic N10 (e15 _ _ h10')
    · exact .lst N12 (e15 _ _ h12') (by rw [List.length_map]; omega)
    · exact .int _)
  walk_at "own3"
  refine ap_Offer_missing ho15 ok (by decide) fun H16 e16 p17 n17 => ?_
  have em : ((30 : Int) + 1 - 0).toNat = 31 := by decide
  rw [em]
  have E16 := Evl.Ex.trans E15 e16
  have e17 : Ex H16 (upd H16 p17 (.lst ((misL ts 0 31).map V.int))) := Evl.Ex.new n17
  have h17 : (upd H16 p17 (.lst ((misL ts 0 31).map V.int))) p17 = some (.lst ((misL ts 0 31).map V.int)) := upd_same
  generalize upd H16 p17 (.lst ((misL ts 0 31).map V.int)) = H17 at e17 h17 ⊢
  have E17 := Evl.Ex.trans E16 e17
  have ho17 := ho.up E17
  walk_at "own"
  refine ap_Offer_count_missing ho17 ok f0 f2 fun H18 e18 => ?_
  have E18 := Evl.Ex.trans E17 e18
  have ho18 := ho.up E18
  walk_at "own"
  refine ap_Offer_nth_missing ho18 ok (by decide) (by decide) fun nv H19 hnv e19 => ?_
  have E19 := Evl.Ex.trans E18 e19
  have ho19 := ho.up E19
  walk_at "own"
  refine ap_Offer_pooled (ns := [3, far]) rfl ho19 ok (by simp) (by simp; omega) (by simp; omega) fun H20 e20 => ?_
  have e1520 : Ex H15 H20 := Evl.Ex.trans e16 (Evl.Ex.trans e17 (Evl.Ex.trans e18 (Evl.Ex.trans e19 e20)))
  have h20 := e1520 _ _ h15
  have E20 := Evl.Ex.trans E19 e20
  walk_at "own"
  rename_i l21 H21 n21 e21 h21 l22 H22 n22 e22 h22
  have E21 := Evl.Ex.trans E20 e21
  have E22 := Evl.Ex.trans E21 e22
  have ho22 := ho.up E22
  have e1522 : Ex H15 H22 := Evl.Ex.trans e1520 (Evl.Ex.trans e21 e22)
  have h17' := (Evl.Ex.trans e18 (Evl.Ex.trans e19 (Evl.Ex.trans e20 (Evl.Ex.trans e21 e22)))) _ _ h17
  have N17 := Evl.fresh_back E16 n17
  have D22 : ∀ Hg, Keep H H22 Hg → DqAll Hg _ _ := fun Hg G => DqAll.app (D15 Hg (G.back e1522)) (show DqAll Hg [.ref p17, .int (mis ts far), nv, .int (drk ts ([3, far] : List Int).sum - drks ts [3, far])] [.list ((misL ts 0 31).map PyData.int), .int (mis ts far), vD nv, .int (drk ts ([3, far] : List Int).sum - drks ts [3, far])] from
    .cons (.lst (G.new N17 h17') dq_ints) (.cons (.int _) (.cons (Dq.nth hnv) (.cons (.int _) .nil))))
  have I22 := items2 I15 e1522 (ys := [.ref p17, .int (mis ts far), nv, .int (drk ts ([3, far] : List Int).sum - drks ts [3, far])]) (by
    intro x hx
    simp only [List.mem_cons, List.not_mem_nil, or_false] at hx
    rcases hx with rfl | rfl | rfl | rfl
    · exact .lst N17 h17' (by rw [List.length_map]; exact Nat.le_trans misL_le (by decide))
    · exact .int _
    · exact Item.nth hnv
    · exact .int _)
  walk_at "own"
  refine ⟨o, ts, far, rfl, ho22, ok, fun z => absurd ⟨f0, f2⟩ z, fun _ p23 ss H23 n23 e23 hss hgr lss => ?_⟩
  have E23 := Evl.Ex.trans E22 e23
  walk_at "own"
  rename_i pt H24 n24 e24 h24 pl H25 n25 e25 h25
  have E25 := Evl.Ex.trans E23 (Evl.Ex.trans e24 e25)
  have ho25 := ho.up E25
  have out : OutT ts [("drink", 5)] (0, 9, ts.map fun _ => 0) (.inl (0 + 5, 9 - 5, drunkP ts (ts.map fun _ => 0) 5)) := .ok ⟨by decide, .inl ⟨rfl, (by decide : (5 : Int) ≤ 9), rfl⟩⟩ .nil
  refine ⟨o, pl, ts, 9, [("drink", 5)], _, rfl, ho25, ok, ⟨_, h25, .cons ⟨pt, rfl, e25 _ _ h24⟩ .nil⟩, by simp, fun z => absurd (by decide) z, fun _ => ⟨out, (fun i z => nomatch z), fun s' es p26 pd H26 n26 npd e26 h26 hpd lpc => ?_⟩⟩
  obtain rfl := Sum.inl.inj es
  have E26 := Evl.Ex.trans E25 e26
  have Npd := Evl.fresh_back E25 npd
  have wa26 := wa.up E26
  obtain ⟨dxw, oo, ee, pq, nn, hw26, _⟩ := id wa26
  walk_at "own"
  refine ⟨w, _, _, rfl, hw26, w, ts, b, N, Z, rfl, wa26, fun p27 H27 n27 e27 hob => ?_⟩
  have E27 := Evl.Ex.trans E26 e27
  have wa27 := wa.up E27
  have hw27 := e27 _ _ hw26
  walk_at "own"
  refine ⟨w, ts, b, N, Z, 2, rfl, wa27, ok, hs, by decide, by decide, fun pv H28 e28' hpv => ?_⟩
  have E28 := Evl.Ex.trans E27 e28'
  have e2228 : Ex H22 H28 := Evl.Ex.trans e23 (Evl.Ex.trans e24 (Evl.Ex.trans e25 (Evl.Ex.trans e26 (Evl.Ex.trans e27 e28'))))
  have h28 := e2228 _ _ h22
  walk_at "own"
  rename_i l29 H29 n29 e29 h29 l30 H30 n30 e30 h30
  have E30 := Evl.Ex.trans E28 (Evl.Ex.trans e29 e30)
  have ho30 := ho.up E30
  have e2230 : Ex H22 H30 := Evl.Ex.trans e2228 (Evl.Ex.trans e29 e30)
  have e2830 : Ex H28 H30 := Evl.Ex.trans e29 e30
  have N23 := Evl.fresh_back E22 n23
  have N27 := Evl.fresh_back E26 n27
  obtain ⟨gs, hg, gp⟩ := hss.up (Evl.Ex.trans e24 (Evl.Ex.trans e25 (Evl.Ex.trans e26 (Evl.Ex.trans e27 (Evl.Ex.trans e28' e2830)))))
  have hd30 := (Evl.Ex.trans e27 (Evl.Ex.trans e28' e2830)) _ _ hpd
  obtain ⟨os, hos, po⟩ := hob
  have hos30 := (Evl.Ex.trans e28' e2830) _ _ hos
  have po30 := obsBy (fun _ _ z => (Evl.Ex.trans e28' e2830) _ _ z) po
  have lgs : gs.length ≤ 10000 := by rw [pairedLen gp]; omega
  have los : os.length ≤ 10000 := by rw [pairedLen po]; omega
  have D30 : ∀ Hg, Keep H H30 Hg → DqAll Hg _ _ := fun Hg G => DqAll.app (D22 Hg (G.back e2230)) (show DqAll Hg [.ref p23, .ref pd, .ref p27, pv] [.list (ss.map stepD), dicD (pcD ts (drunkP ts (ts.map fun _ => 0) 5)), .list (N.map obsD), vD pv] from
    .cons (.lst (G.new N23 hg) (dqSteps (stepsBy (fun _ _ z => G.tup z) gp))) (.cons (.dic (G.new Npd hd30)) (.cons (.lst (G.new N27 hos30) (dqObs (obsBy (fun _ _ z => G.tup z) po30))) (.cons (Dq.np hpv) .nil))))
  have I30 := items2 I22 e2230 (ys := [.ref p23, .ref pd, .ref p27, pv]) (by
    intro x hx
    simp only [List.mem_cons, List.not_mem_nil, or_false] at hx
    rcases hx with rfl | rfl | rfl | rfl
    · exact .lst N23 hg lgs
    · exact .dic Npd hd30
    · exact .lst N27 hos30 los
    · exact Item.np hpv)
  walk_at "own"
  refine w_cmpO (P := Never) ho30 ho30 ok ok fun le H31 hle e31 => ?_
  have E31 := Evl.Ex.trans E30 e31
  have ho31 := ho.up E31
  walk_at "own"
  refine w_cmpO (P := fun ts us => Never ts us ∧ ¬ Same ts us) ho31 ho31 ok ok fun lt H32 hlt e32 => ?_
  have E32 := Evl.Ex.trans E31 e32
  have ho32 := ho.up E32
  walk_at "own"
  refine w_boolO1 (fun R q => w_var rfl q) ho32 ok fun H33 e33 => ?_
  have E33 := Evl.Ex.trans E32 e33
  have ho33 := ho.up E33
  walk_at "own"
  refine ap_Offer_trades_made ho33 ok (by decide) (by decide) fun p34 H34 n34 e34 h34 => ?_
  have E34 := Evl.Ex.trans E33 e34
  have e3034 : Ex H30 H34 := Evl.Ex.trans e31 (Evl.Ex.trans e32 (Evl.Ex.trans e33 e34))
  have h30' := e3034 _ _ h30
  walk_at "own"
  rename_i l35 H35 n35 e35 h35 l36 H36 n36 e36 h36
  have E35 := Evl.Ex.trans E34 e35
  have E36 := Evl.Ex.trans E35 e36
  have N34 := Evl.fresh_back E33 n34
  have h34' := e35 _ _ h34
  have e3035 : Ex H30 H35 := Evl.Ex.trans e3034 e35
  have D36 : ∀ Hg, Keep H H36 Hg → DqAll Hg _ _ := fun Hg G => DqAll.app (D30 Hg (G.back (Evl.Ex.trans e3035 e36))) (show DqAll Hg [.bl le, .bl lt, .bl (gives ts), .ref p34] [.bool le, .bool lt, .bool (gives ts), dicD (made ts 9)] from
    .cons (.bl _) (.cons (.bl _) (.cons (.bl _) (.cons (.dic (G.new N34 (e36 _ _ h34'))) .nil))))
  have I35 := items2 I30 e3035 (ys := [.bl le, .bl lt, .bl (gives ts), .ref p34]) (by
    intro x hx
    simp only [List.mem_cons, List.not_mem_nil, or_false] at hx
    rcases hx with rfl | rfl | rfl | rfl
    · exact .bl _
    · exact .bl _
    · exact .bl _
    · exact .dic N34 h34')
  exact k l36 _ _ H36 (Evl.fresh_back E35 n36) E36 h36 D36 ⟨st, D, F, com, le, lt, fs, ss, nv, pv, rfl, hst, hD, hF, hcom, hle, hlt, ⟨hfs, lfs⟩, ⟨hgr, lss⟩, hnv, hpv⟩ (fun x hx => (I35 x hx).up e36 (Nat.le_refl _)) fun x hx => (I35 x hx).ne n36
/-! ### the law -/
theorem greedy_strs {ts : List Tr} {d f : Int} {ss : List (Str × Int)} (h : Greedy ts d f ss) : ∀ s ∈ ss, s.1 = "drink" ∨ s.1 ∈ ts.map (·.1) := by
  induction h with
  | nil => exact fun _ z => nomatch z
  | cons _ _ ih =>
    intro s hs
    rcases List.mem_cons.mp hs with rfl | hs
    · exact .inl rfl
    · rcases List.mem_append.mp hs with hs | hs
      · obtain ⟨t, ht, rfl⟩ := List.mem_map.mp (List.mem_filter.mp hs).1
        exact .inr (List.mem_map_of_mem ht)
      · exact ih s hs
theorem okD_dic {kvs : List (Str × Int)} (l : kvs.length ≤ 1000) (nd : (kvs.map (·.1)).Nodup) (so : ∀ p ∈ kvs, PyData.strOk p.1 = true) (n : Nat) : okD (n + 3) (dicD kvs) = true := by
  have e : (kvs.map fun p => (PyData.str p.1, PyData.int p.2)).map (fun p => keyS p.1) = kvs.map (·.1) := by
    rw [List.map_map]
    rfl
  refine Bool.and_eq_true_iff.mpr ⟨decide_eq_true (by omega), Bool.and_eq_true_iff.mpr ⟨decide_eq_true (by rw [List.length_map]; exact l), Bool.and_eq_true_iff.mpr ⟨decide_eq_true (by rw [e]; exact nd), List.all_eq_true.mpr fun q hq => ?_⟩⟩⟩
  obtain ⟨p, hp, rfl⟩ := List.mem_map.mp hq
  exact so p hp
theorem okD_all {ts : List Tr} {z : Str} {c far : Int} {ds : List PyData} (ok : OfferOk ts) (so : ∀ t ∈ ts, PyData.strOk t.1 = true) (hz : z ∈ ts.map (·.1)) (h : AllD ts [.left z c] far ds) : okD 4 (.list ds) = true := by
  obtain ⟨st, D, F, com, le, lt, fs, ss, nv, pv, rfl, _, _, _, _, _, _, ⟨_, l1⟩, ⟨hg, l2⟩, hnv, hpv⟩ := h
  have l3 := ok.fair.1.1
  have soz : ∀ y ∈ ts.map (·.1), PyData.strOk y = true := fun y hy => by
    obtain ⟨t, ht, rfl⟩ := List.mem_map.mp hy
    exact so t ht
  have vOk : ∀ v : V, okD 3 (vD v) = true := fun v => by cases v <;> rfl
  have steps : okD 3 (.list (ss.map stepD)) = true := by
    refine Bool.and_eq_true_iff.mpr ⟨decide_eq_true (by rw [List.length_map]; omega), List.all_eq_true.mpr fun y hy => ?_⟩
    obtain ⟨s, hs, rfl⟩ := List.mem_map.mp hy
    have : PyData.strOk s.1 = true := by
      rcases greedy_strs hg s hs with e | e
      · rw [e]
        decide +kernel
      · exact soz _ e
    simp [stepD, okD, this]
  have left' : PyData.strOk "left" = true := by decide +kernel
  refine Bool.and_eq_true_iff.mpr ⟨rfl, List.all_eq_true.mpr fun y hy => ?_⟩
  have kd : ∀ f : Tr → Int, okD 3 (dicD (kindsOf ts f)) = true := fun f => okD_kinds ok so 0
  have lz : (drunkP ts (ts.map fun _ => 0) 5).length = ts.length := drunkP_len (List.length_map ..)
  simp only [allD, List.mem_cons, List.not_mem_nil, or_false] at hy
  rcases hy with rfl | rfl | rfl | rfl | rfl | rfl | rfl | rfl | rfl | rfl | rfl | rfl | rfl | rfl | rfl | rfl | rfl | rfl | rfl | rfl | rfl | rfl | rfl
  · exact okD_trs (Raw.of ok so) 0
  · exact okD_strs (by rw [List.length_map]; omega) soz 1
  · rfl
  · rfl
  · rfl
  · rfl
  · rfl
  · exact kd _
  · exact kd _
  · exact okD_ints l1 1
  · rfl
  · exact okD_ints (Nat.le_trans misL_le (by decide)) 1
  · rfl
  · exact vOk _
  · rfl
  · exact steps
  · refine okD_dic (by rw [pcD_len lz]; omega) (by rw [pcD_keys lz]; exact ok.nodup) (fun p hp => ?_) 0
    have := List.mem_map_of_mem (f := fun q : Str × Int => q.1) hp
    rw [pcD_keys lz] at this
    exact soz _ this
  · simp [obsD, okD, left', soz z hz]
  · exact vOk _
  · rfl
  · rfl
  · rfl
  · exact kd _
theorem srcW {h c w C dx : Addr} {fs : List (Str × V)} {H H' : Hp} (s : Src H h c) (hw : H w = some (.ins C dx fs)) (e : ExB w H H') : Src H' h c := by
  obtain ⟨m', k', ns', g1, g2, rr⟩ := s.ex
  exact ⟨m', k', ns', e _ _ (ne_of g1 hw fun z => nomatch z) g1, e _ _ (ne_of g2 hw fun z => nomatch z) g2, rr⟩
theorem cnt_none {p : Int → Bool} {M n : Int} (z : cnt p (M + 1).toNat = 0) (n0 : 0 ≤ n) (n1 : n ≤ M) : p n = false := by
  cases e : p n with
  | false => rfl
  | true =>
    have a := cnt_mono p (show n.toNat + 1 ≤ (M + 1).toNat by omega)
    have b : cnt p (n.toNat + 1) = cnt p n.toNat + 1 := by
      show cnt p n.toNat + (if p ((n.toNat : Nat) : Int) then 1 else 0) = _
      rw [Int.toNat_of_nonneg n0, if_pos e]
    omega
theorem keepS {h c : Addr} {H0 H H' : Hp} (s0 : Src H0 h c) (s : Src H h c) (u : SrcUp h c H H') : Keep H0 H H' := fun a v ha hc => by
  obtain ⟨m, k, ns, g1, g2, _⟩ := s.ex
  obtain ⟨⟨o1, q1⟩, o2, q2⟩ := s0.there
  refine u.keep a v (fun z => ?_) (fun z => ?_) ha
  · rw [z] at ha hc
    rcases hc with n | ⟨ys, rfl⟩
    · rw [n] at q1; cases q1
    · rw [g1] at ha; cases ha
  · rw [z] at ha hc
    rcases hc with n | ⟨ys, rfl⟩
    · rw [n] at q2; cases q2
    · rw [g2] at ha; cases ha
/-- an item stays one when a new list or dict changes -/
theorem Item.chg {n : Nat} {H0 H H' : Hp} {v : V} {a : Addr} {u : HO} (h : Item n H0 H v) (ha : H a = some u) (n0 : H0 a = none) (e : ExB a H H') (w : (∃ zs, u = .lst zs ∧ ∃ zs', H' a = some (.lst zs') ∧ zs'.length ≤ n + 1) ∨ (∃ kvs, u = .dK kvs ∧ ∃ kvs', H' a = some (.dK kvs'))) : Item (n + 1) H0 H' v := by
  cases h with
  | int i => exact .int i
  | bl b => exact .bl b
  | non => exact .non
  | @tup b ys h =>
    refine .tup (e _ _ (fun z => ?_) h)
    rw [z, ha] at h
    rcases w with ⟨zs, rfl, _⟩ | ⟨kvs, rfl, _⟩ <;> cases h
  | @lst b zs n1 h l =>
    by_cases z : b = a
    · subst z
      rcases w with ⟨zs, rfl, zs', h', l'⟩ | ⟨kvs, rfl, _⟩
      · exact .lst n0 h' l'
      · rw [ha] at h; cases h
    · exact .lst n1 (e _ _ z h) (by omega)
  | @dic b kvs n1 h =>
    by_cases z : b = a
    · subst z
      rcases w with ⟨zs, rfl, _⟩ | ⟨kvs, rfl, kvs', h'⟩
      · rw [ha] at h; cases h
      · exact .dic n0 h'
    · exact .dic n1 (e _ _ z h)
section
variable {σ : L2.St}
theorem w_forR1N {σ : L2.St} {D : Ends} {g : TG} {tb : TS} {ts : TA}
    (q : ts σ H fun vs H1 => ∃ n : Int, vs = [.int n] ∧ (-1000000000000000000 ≤ n ∧ n ≤ 1000000000000000000) ∧ ∃ Pv : Nat → L2.St → Hp → Prop, Pv 0 σ H1 ∧
      (∀ (i : Nat) σ' H', (i : Int) < n → Pv i σ' H' → g (.int i) σ' H' fun σ2 H2 => tb { D with nx := Pv (i + 1), ct := Pv (i + 1), bk := D.nx } σ2 H2) ∧ ∀ σ' H', Pv n.toNat σ' H' → D.nx σ' H')
    (mono : ∀ (R R' : List V → Hp → Prop), (∀ v h, R v h → R' v h) → ts σ H R → ts σ H R') : tFor (iRng1 ts) g tb D σ H := by
  refine mono _ _ (fun v H1 h => ?_) q
  obtain ⟨n, rfl, hn, Pv, h0, hs, hd⟩ := h
  exact ⟨n, rfl, by omega, by omega, for_range (lo := 0) (n := n.toNat) Pv h0 (fun i σ' H' hi p => by
    have e : (0 : Int) + (i : Int) = i := Int.zero_add _
    rw [e]
    exact hs i σ' H' (by omega) p) hd⟩
end
theorem pure_law (O : OfT K) (h : sp_law K vs H Q E) : t_law K (Dn Q) (start N_law vs) H := by
  obtain ⟨a, ns, rfl, ha, hl, k⟩ := h
  rw [st_law]
  unfold t_law
  walk_at "go"
  refine ap__law_mix ha hl (by decide) fun h c H1 h0 c0 e1 s1 => ?_
  walk_at "go"
  refine ap__law_trades s1 (by decide) (by decide) (by decide) (by decide) fun p ts H2 n2 u2 hT lt => ?_
  have s2 := u2.src
  have ok := lt.ok
  have so := lawTr_so lt
  have l3 := ok.fair.1.1
  walk_at "go"
  refine ap__law_offer hT ok fun o H3 n3 e3 ho3 => ?_
  have s3 := s2.up e3
  walk_at "go"
  rename_i p4 H4 n4 e4 h4
  have s4 := s3.up e4
  have ap4 := s3.apart n4
  have ho4 := ho3.up e4
  refine ap__law_next s4 (by decide) (by decide) fun r5 H5 r0 r1 u5 => ?_
  have s5 := u5.src
  have ho5 := ho4.upN (NL.ofS s4 u5)
  have h5 := u5.keep p4 _ ap4.1 ap4.2 h4
  obtain ⟨m, hm, m1, m2⟩ : ∃ m : Int, ([.int 50, .int (10 ^ Int.toNat 17)] : List V)[r5.toNat]? = some (.int m) ∧ 1 ≤ m ∧ m ≤ 100000000000000000 := by
    have : r5.toNat < 2 := by omega
    generalize r5.toNat = j at this
    match j, this with
    | 0, _ => exact ⟨_, rfl, by decide, by decide⟩
    | 1, _ => exact ⟨_, rfl, by decide, by decide⟩
  refine w_ixL (Evl.sq_of h5) (atI_pos (v := .int m) r0 hm) ?_
  walk_at "go"
  refine ap__law_next s5 m1 (by omega) fun far H6 f0 f1 u6 => ?_
  have s6 := u6.src
  have ho6 := ho5.upN (NL.ofS s5 u6)
  clear h5 hm h4
  walk_at "own"
  intro w dw H7 nw e7 hw
  have ho7 := ho6.up e7
  refine ⟨w, dw, o, ts, rfl, hw, ho7, ok, fun H8 bb hs e8 wa8 => ⟨rfl, ?_⟩⟩
  have s7 := s6.up e7
  have s8 := srcW s7 hw e8
  have ho8 := ho7.upI hw (fun _ z => nomatch z) e8
  obtain ⟨⟨_, z1⟩, _, z2⟩ := s7.there
  have zh : (fun x => ∃ u, H7 x = some u) h := ⟨_, z1⟩
  have zc : (fun x => ∃ u, H7 x = some u) c := ⟨_, z2⟩
  have one := ok.one
  obtain ⟨t0, ht0⟩ : ∃ t, ts[0]? = some t := ⟨_, List.getElem?_eq_getElem (by omega)⟩
  have hm0 := List.mem_of_getElem? ht0
  have kd0 : (ts.map fun t => V.str t.1)[(0 : Int).toNat]? = some (.str t0.1) := by
    show (ts.map fun t => V.str t.1)[0]? = _
    rw [List.getElem?_map, ht0]
    rfl
  walk_at "own"
  unfold tDGet
  walk_at "own"
  refine ap_Offer_left_over ho8 ok (by decide) (by decide) fun p9 H9 n9 e9 h9 => ?_
  have ho9 := ho8.up e9
  walk_at "own"
  refine ⟨o, ts, rfl, ho9, by omega, fun pk H10 hk10 e10 => ?_⟩
  have ho10 := ho9.up e10
  walk_at "own"
  refine w_ixT (Evl.st_of hk10) (atI_pos (v := .str t0.1) (by decide) kd0) ?_
  generalize hc0 : t0.2.1 * drk ts 9 % t0.2.2 = lc
  refine ⟨p9, .int lc, rfl, .inl ⟨_, .inr t0.1, .inl (e10 _ _ h9), rfl, ?_⟩, ?_⟩
  · rw [← hc0]
    exact (valV_mem (kvs := left ts 9) (by unfold left kindsOf; rw [List.map_map]; exact ok.nodup) (t0.1, t0.2.1 * drk ts 9 % t0.2.2) (List.mem_map_of_mem hm0)).symm
  have e810 := Evl.Ex.trans e9 e10
  have wa10 := wa8.up e810
  have s10 := s8.up e810
  obtain ⟨dxw, oo, ee, pq, nn, hw10, _⟩ := id wa10
  walk_at "own"
  refine ⟨o, ts, rfl, ho10, by omega, fun pk2 H11 hk11 e11 => ?_⟩
  have wa11 := wa10.up e11
  have s11 := s10.up e11
  have ho11 := ho10.up e11
  have hw11 := e11 _ _ hw10
  walk_at "own"
  refine w_ixT (Evl.st_of hk11) (atI_pos (v := .str t0.1) (by decide) kd0) ?_
  walk_at "own"
  have zin : t0.1 ∈ ts.map (·.1) := List.mem_map_of_mem hm0
  refine ⟨w, ts, bb, [], t0.1, lc, _, rfl, wa11, ok, hs, by simp, fun nz => absurd zin nz, fun _ => ⟨fun z => ?_, fun _ H12 e12 wa12 => ?_⟩⟩
  · have b := cnt_none (p := agrs ts ([] ++ [.left t0.1 lc])) (M := M18) (n := 9) (by unfold cntN at z; omega) (by decide) (by decide)
    have : agrs ts ([] ++ [.left t0.1 lc]) 9 = agr ts (.left t0.1 lc) 9 := by
      unfold agrs
      simp
    rw [this, agr_left ok.nodup hm0, hc0] at b
    simp at b
  rw [List.nil_append] at wa12
  have s12 := srcW s11 hw11 e12
  have ho12 := ho11.upI hw11 (fun _ z => by cases z) e12
  have zh2 : (fun x => (∃ u, H7 x = some u) ∧ ∃ u, H11 x = some u) h := ⟨zh, let ⟨⟨_, q⟩, _⟩ := s11.there; ⟨_, q⟩⟩
  have zc2 : (fun x => (∃ u, H7 x = some u) ∧ ∃ u, H11 x = some u) c := ⟨zc, let ⟨_, _, q⟩ := s11.there; ⟨_, q⟩⟩
  walk_at "own"
  refine ⟨o, w, ts, bb, [.left t0.1 lc], _, far, rfl, ho12, ok, wa12, hs, by simp, f0, by omega, fun kp kxs kds H13 nkp e13 hkp kD kA kI kne => ?_⟩
  have s13 := s12.up e13
  have ho13 := ho12.up e13
  have wa13 := wa12.up e13
  walk_at "own"
  refine w_forR1N ?_ (fun R R' mo z => by
    obtain ⟨v', ev', h', c', n', e', s', a', b', k'⟩ := z
    exact ⟨v', ev', h', c', n', e', s', a', b', fun r' H' r0' r1' u' => by
      obtain ⟨x1, x2, y1, y2, y3⟩ := k' r' H' r0' r1' u'
      exact ⟨x1, x2, y1, y2, mo _ _ y3⟩⟩)
  walk_at "own"
  refine ap__law_next s13 (by decide) (by decide) fun r14 H14 q0 q1 u14 => ?_
  have ho14 := ho13.upN (NL.ofS s13 u14)
  have wa14 := wa13.upS s13 zh2 zc2 u14
  have kp14 := keepS s12 s13 u14
  have hkp14 := kp14.new nkp hkp
  have kD14 := kD H14 kp14
  walk_at "own"
  have okd := fun {ds : List PyData} (A : AllD ts [.left t0.1 lc] far ds) => okD_all ok so zin A
  refine ⟨1 + r14, rfl, by omega, fun i σ' H' => ∃ (lp : Addr) (kxs : List V) (kds : List PyData) (o7 o8 o9 : Option V), σ' = [some (.ref a), some (.ref h), some (.ref o), some (.int far), some (.ref w), some (.int lc), some (.ref lp), o7, o8, o9] ∧ Ex H14 H' ∧ H' lp = some (.lst kxs) ∧ DqAll H' kxs kds ∧ AllD ts [.left t0.1 lc] far kds,
    ⟨kp, kxs, kds, _, _, _, rfl, Evl.Ex.refl _, hkp14, kD14, kA⟩, ?_, ?_⟩
  · rintro i σ' H15 hi ⟨lp, ks, es, o7, o8, o9, rfl, e15, hlp, lD, lA⟩
    clear kD14 kA kI kne kD hkp hkp14
    walk_at "own"
    refine ⟨o, w, ts, bb, [.left t0.1 lc], _, far, rfl, ho14.up e15, ok, wa14.up e15, hs, by simp, f0, by omega, fun fp fxs fds H16 nfp e16 hfp fD fA fI fne => ?_⟩
    have E16 := Evl.Ex.trans e15 e16
    have ho16 := ho14.up E16
    have wa16 := wa14.up E16
    obtain rfl := fA.same lA
    walk_at "own"
    refine ap_alike (n := 3) (d := .list fds) (.lst hfp (fD _ Keep.refl)) (.lst (e16 _ _ hlp) (DqAll.up e16 _ _ lD)) (okd fA) fun H17 e17 => ?_
    have ho17 := ho16.up e17
    have wa17 := wa16.up e17
    obtain ⟨dxw', oo', ee', pq', nn', hw17, _⟩ := id wa17
    walk_at "own"
    refine ⟨w, _, _, rfl, hw17, w, ts, bb, [.left t0.1 lc], _, rfl, wa17, fun p18 H18 n18 e18 hob => ?_⟩
    have ho18 := ho17.up e18
    walk_at "own"
    refine ⟨o, ts, rfl, ho18, by omega, fun pk3 H19 hk19 e19 => ?_⟩
    walk_at "own"
    refine w_ixT (Evl.st_of hk19) (atI_pos (v := .str t0.1) (by decide) kd0) ?_
    walk_at "own"
    rename_i pt H20 n20 e20 h20 pr H21 n21 e21 h21
    have e1821 := Evl.Ex.trans e19 (Evl.Ex.trans e20 e21)
    have soL : PyData.strOk "left" = true := by decide +kernel
    obtain ⟨os, hos, po⟩ := hob
    have sh : SeqAt.shaped (.list (([.left t0.1 lc] : List Ob).map obsD)) = true := okD_shaped (n := 4) (by simp [obsD, okD, soL, so t0 hm0]) rfl (by decide)
    refine w_neD (d := .list (([.left t0.1 lc] : List Ob).map obsD)) (e := .list (([.left t0.1 lc] : List Ob).map obsD)) (Dq.dp _ _ rfl (.lst (e1821 _ _ hos) (dqObs (obsBy (fun _ _ z => e1821 _ _ z) po)))) (Dq.dp _ _ rfl (.lst h21 (.cons (.tup (e21 _ _ h20) (.cons (.str _) (.cons (.str _) (.cons (.int _) .nil)))) .nil))) sh sh ?_
    rw [eqv_same _ rfl]
    walk_at "own"
    have e1621 : Ex H16 H21 := Evl.Ex.trans e17 (Evl.Ex.trans e18 e1821)
    have hf21 := e1621 _ _ hfp
    have lf : fxs.length = 23 := by
      rw [(fD H16 Keep.refl).len]
      obtain ⟨_, _, _, _, _, _, _, _, _, _, ez, _⟩ := fA
      rw [ez]
      rfl
    refine w_foLt (fun j σ' H' => ∃ o9 : Option V, σ' = [some (.ref a), some (.ref h), some (.ref o), some (.int far), some (.ref w), some (.int lc), some (.ref lp), some (.int (i : Nat)), some (.ref fp), o9] ∧ Ex H15 H' ∧ H' fp = some (.lst fxs) ∧ ∀ x ∈ fxs, Item (10000 + j) H15 H' x)
      (Evl.sq_of hf21) ⟨_, rfl, Evl.Ex.trans e16 e1621, hf21, fun x hx => (fI x hx).up e1621 (by omega)⟩ (fun j σ' H' _ ⟨_, _, _, hf, _⟩ => Evl.sq_of hf) ?_ ?_
    · rintro j x σ' H' hj ⟨o9', rfl, eM, hf, its⟩
      have hxm := List.mem_of_getElem? hj
      have jl := (List.getElem?_eq_some_iff.mp hj).1
      have it := its x hxm
      have nex := fne x hxm
      have nxt : ∀ {o9'' : Option V}, (∃ o9 : Option V, [some (V.ref a), some (.ref h), some (.ref o), some (.int far), some (.ref w), some (.int lc), some (.ref lp), some (.int (i : Nat)), some (.ref fp), o9''] = [some (.ref a), some (.ref h), some (.ref o), some (.int far), some (.ref w), some (.int lc), some (.ref lp), some (.int (i : Nat)), some (.ref fp), o9] ∧ Ex H15 H' ∧ H' fp = some (.lst fxs) ∧ ∀ x ∈ fxs, Item (10000 + (j + 1)) H15 H' x) := fun {o9''} => ⟨_, rfl, eM, hf, fun y hy => (its y hy).up (Evl.Ex.refl _) (by omega)⟩
      cases it with
      | int v =>
        walk_at "own"
        refine w_isi (t := "int") (.base (.int v)) (b := false) rfl ?_
        walk_at "own"
        refine w_isi (t := "int") (.base (.int v)) (b := false) rfl ?_
        walk_at "own"
        exact nxt
      | bl v =>
        walk_at "own"
        refine w_isi (t := "bool") (.base (.bl v)) (b := false) rfl ?_
        walk_at "own"
        refine w_isi (t := "bool") (.base (.bl v)) (b := false) rfl ?_
        walk_at "own"
        exact nxt
      | non =>
        walk_at "own"
        refine w_isi (t := "NoneType") (.base .non) (b := false) rfl ?_
        walk_at "own"
        refine w_isi (t := "NoneType") (.base .non) (b := false) rfl ?_
        walk_at "own"
        exact nxt
      | @tup q ys hq =>
        walk_at "own"
        refine w_isi (t := "tuple") (.base (.tup hq)) (b := false) rfl ?_
        walk_at "own"
        refine w_isi (t := "tuple") (.base (.tup hq)) (b := false) rfl ?_
        walk_at "own"
        exact nxt
      | @lst q zs nq hq lq =>
        have lz : zs.length < 100000 := by omega
        walk_at "own"
        refine w_isi (t := "list") (.base (.lst hq)) (b := true) rfl ?_
        walk_at "own"
        rename_i H22 e22 h22
        have nfq : fp ≠ q := fun z => nex (by rw [z])
        exact ⟨_, rfl, ExB.ex eM nq e22, e22 _ _ nfq hf, fun y hy => (its y hy).chg hq nq e22 (.inl ⟨_, rfl, _, h22, by rw [List.length_append, List.length_singleton]; omega⟩)⟩
      | @dic q kvs nq hq =>
        walk_at "own"
        refine w_isi (t := "dict") (.base (.dK hq)) (b := false) rfl ?_
        walk_at "own"
        refine w_isi (t := "dict") (.base (.dK hq)) (b := true) rfl ?_
        walk_at "own"
        have nfq : fp ≠ q := fun z => nex (by rw [z])
        have e22 : ExB q H' (upd H' q (.dK [])) := ExB.upd
        refine w_var rfl ⟨.inr (.inr (.inl ⟨rfl, .inl ⟨_, hq⟩⟩)), q, kvs, rfl, rfl, hq, ?_⟩
        exact ⟨_, rfl, ExB.ex eM nq e22, e22 _ _ nfq hf, fun y hy => (its y hy).chg hq nq e22 (.inr ⟨_, rfl, _, upd_same⟩)⟩
    · rintro σ' H' ⟨o9', rfl, eM, hf, its⟩
      have hl' := eM _ _ hlp
      have lD' := DqAll.up eM _ _ lD
      have E' := Evl.Ex.trans e15 eM
      walk_at "own"
      by_cases i0 : (i : Int) = 0
      · rw [if_pos (decide_eq_true i0)]
        walk_at "own"
        refine ⟨o, w, ts, bb, [.left t0.1 lc], _, far, rfl, ho14.up E', ok, wa14.up E', hs, by simp, f0, by omega, fun gp gxs gds H22 ngp e22 hgp gD gA gI gne => ?_⟩
        walk_at "own"
        exact ⟨gp, gxs, gds, _, _, _, rfl, Evl.Ex.trans E' e22, hgp, gD _ Keep.refl, gA⟩
      · rw [if_neg (by rw [decide_eq_false i0]; decide)]
        walk_at "own"
        exact ⟨lp, ks, fds, _, _, _, rfl, E', hl', lD', lA⟩
  · rintro σ' H15 ⟨lp, ks, es, o7, o8, o9, rfl, e15, hlp, lD, lA⟩
    walk_at "own"
    exact k _
end
end EB
namespace EB
open PySem PySem.Spec L2 StX ClX
set_option maxHeartbeats 4000000
section
variable {P : Program} {w : World} {K : PySem.W.Frag} {mg : Str → Option Value} {base : Heap}
theorem ofK (T : Tx K mg) : OfK K := ⟨T.cls 36 (x := "Offer") rfl, T.noat 16 (x := "Offer") (f := "parts") rfl, T.cread 0 (x := "Offer") rfl, T.cval 1 (x := "Offer") (f := "MAX_NEEDED") (i := 12) rfl, T.cval 2 (x := "Offer") (f := "MAX_TRADES") (i := 3) rfl⟩
theorem ofO (T : Tx K mg) : OfO K := ⟨ofK T, T.cls 45 (x := "BottleObserver") rfl, T.noat 43 (x := "BottleObserver") (f := "offer") rfl, T.noat 41 (x := "BottleObserver") (f := "begin") rfl, T.noat 38 (x := "BottleObserver") (f := "turn") rfl, T.noat 42 (x := "BottleObserver") (f := "early") rfl, T.noat 40 (x := "BottleObserver") (f := "places") rfl, T.noat 37 (x := "BottleObserver") (f := "noted") rfl⟩
theorem ofT (T : Tx K mg) : OfT K := ⟨ofK T, T.cls 56 (x := "Table") rfl, T.noat 53 (x := "Table") (f := "offer") rfl, T.noat 52 (x := "Table") (f := "drunk") rfl, T.noat 51 (x := "Table") (f := "full") rfl, T.noat 50 (x := "Table") (f := "pieces") rfl, (T.oex 1 (x := "InvalidStep") rfl).o, (T.errs 2 rfl).is⟩
theorem kp_common_divisor (T : Tx K mg) : PySem.W.keepIn K (.ref (d_common_divisor.at_ K)) = true := by
  obtain ⟨_, F⟩ := T.says.def_ 0 (d := d_common_divisor) rfl
  exact F.kp
theorem sc_common_divisor : FnScope N_common_divisor ["one", "other"] (defScope s_common_divisor) := ⟨rfl, rfl, rfl, by decide +kernel, rfl, by decide +kernel, by decide +kernel⟩
theorem ok_common_divisor (T : Tx K mg) : FnR P w K mg base CX0 1 (d_common_divisor.at_ K) (sp_common_divisor K) := by
  obtain ⟨fd, F⟩ := T.says.def_ 0 (d := d_common_divisor) rfl
  have nd := sc_common_divisor.nd
  refine fnR_of (F.ok (k := 0) sc_common_divisor len_common_divisor (fun cdv A outer s H vs Q E hr h => ⟨t_common_divisor K, PSs.nox ?_, pure_common_divisor h⟩)) (F.bindsN fun _ _ _ _ _ _ us hl => match us, hl with | [_, _], _ => rfl)
  exact (pss_cons (ps_while PassesOwn.never (pt_cmpR op_ne (pv 1) pe_int (nomark _)) (pss_one (ps_par rfl nd (i := 0) (j := 1) rfl rfl (by decide) rfl rfl (pa_cons (pv 1) (pa_cons (pe_op o_mod (pe_callTy c_int rfl (T.fre 0 (x := "int") rfl) (by decide +kernel) (pa_cons (pv 0) pa_nil)) (pe_callTy c_int rfl (T.fre 0 (x := "int") rfl) (by decide +kernel) (pa_cons (pv 1) pa_nil))) pa_nil)) rfl)))
    (pss_one (ps_ret (pv 0))))
theorem kp_common_multiple (T : Tx K mg) : PySem.W.keepIn K (.ref (d_common_multiple.at_ K)) = true := by
  obtain ⟨_, F⟩ := T.says.def_ 1 (d := d_common_multiple) rfl
  exact F.kp
theorem sc_common_multiple : FnScope N_common_multiple ["one", "other"] (defScope s_common_multiple) := ⟨rfl, rfl, rfl, by decide +kernel, rfl, by decide +kernel, by decide +kernel⟩
theorem ok_common_multiple (T : Tx K mg) : FnR P w K mg base CX0 2 (d_common_multiple.at_ K) (sp_common_multiple K) := by
  obtain ⟨fd, F⟩ := T.says.def_ 1 (d := d_common_multiple) rfl
  have nd := sc_common_multiple.nd
  refine fnR_of (F.ok (k := 1) sc_common_multiple len_common_multiple (fun cdv A outer s H vs Q E hr h => ⟨t_common_multiple K, PSs.nox ?_, pure_common_multiple h⟩)) (F.bindsN fun _ _ _ _ _ _ us hl => match us, hl with | [_, _], _ => rfl)
  exact (pss_one (ps_ret (pe_op o_mul (pe_op o_fd (pv 0) (pe_callR (ok_common_divisor T) (hr.mono (by decide)) (kp_common_divisor T) rfl (T.glo 1 (x := "common_divisor") rfl) pass0 (pa_cons (pv 0) (pa_cons (pv 1) pa_nil)))) (pv 1))))
theorem kp_bought (T : Tx K mg) : PySem.W.keepIn K (.ref (d_bought.at_ K)) = true := by
  obtain ⟨_, F⟩ := T.says.def_ 2 (d := d_bought) rfl
  exact F.kp
theorem sc_bought : FnScope N_bought ["trades", "drinks"] (defScope s_bought) := ⟨rfl, rfl, rfl, by decide +kernel, rfl, by decide +kernel, by decide +kernel⟩
theorem ok_bought (T : Tx K mg) : FnR P w K mg base CX0 1 (d_bought.at_ K) (sp_bought K) := by
  obtain ⟨fd, F⟩ := T.says.def_ 2 (d := d_bought) rfl
  have nd := sc_bought.nd
  refine fnR_of (F.ok (k := 0) sc_bought len_bought (fun cdv A outer s H vs Q E hr h => ⟨t_bought K, PSs.nox ?_, pure_bought h⟩)) (F.bindsN fun _ _ _ _ _ _ us hl => match us, hl with | [_, _], _ => rfl)
  exact (pss_one (ps_ret (pe_callB (cr_sum rfl) rfl (T.fre 2 (x := "sum") rfl) (by decide +kernel) (pa_cons (pe_lc (own := [("kind", 2), ("left", 3), ("needed", 4)]) rfl nd (pi_tup (pv 0)) (blkOk_by (own := [("kind", 2), ("left", 3), ("needed", 4)]) (N := N_bought) (sc := defScope s_bought) (by decide +kernel)) (fun _ _ _ _ _ => (pg_tup rfl (pgs_cons (pg_name (i := 2) nd rfl (Or.inl rfl)) (pgs_cons (pg_name (i := 3) nd rfl (Or.inl rfl)) (pgs_cons (pg_name (i := 4) nd rfl (Or.inl rfl)) pgs_nil))))) (fun _ _ _ _ _ => pts_nil) (fun _ _ _ _ _ => (pe_op o_fd (pe_op o_mul (pv 3) (pv 1)) (pv 4)))) pa_nil))))
theorem kp_least_point (T : Tx K mg) : PySem.W.keepIn K (.ref (d_least_point.at_ K)) = true := by
  obtain ⟨_, F⟩ := T.says.def_ 3 (d := d_least_point) rfl
  exact F.kp
theorem sc_least_point : FnScope N_least_point ["trades", "bottles", "drinks"] (defScope s_least_point) := ⟨rfl, rfl, rfl, by decide +kernel, rfl, by decide +kernel, by decide +kernel⟩
theorem ok_least_point (T : Tx K mg) : FnR P w K mg base CX0 2 (d_least_point.at_ K) (sp_least_point K) := by
  obtain ⟨fd, F⟩ := T.says.def_ 3 (d := d_least_point) rfl
  have nd := sc_least_point.nd
  refine fnR_of (F.ok (k := 1) sc_least_point len_least_point (fun cdv A outer s H vs Q E hr h => ⟨t_least_point K, PSs.nox ?_, pure_least_point h⟩)) (F.bindsN fun _ _ _ _ _ _ us hl => match us, hl with | [_, _, _], _ => rfl)
  exact (pss_cons (ps_whileW PassesOwn.never (ptw_cmp op_ne (pew_named (i := 3) nd rfl (Or.inl rfl) (pew_of (pe_op o_add (pv 1) (pe_callR (ok_bought T) (hr.mono (by decide)) (kp_bought T) rfl (T.glo 3 (x := "bought") rfl) pass0 (pa_cons (pv 0) (pa_cons (pv 2) pa_nil)))))) (pv 2) (nomark _)) (pss_one (ps_set (i := 2) nd rfl (Or.inl rfl) (pv 3))) pss_nil)
    (pss_one (ps_ret (pv 2))))
theorem kp_needed_multiple (T : Tx K mg) : PySem.W.keepIn K (.ref (d_needed_multiple.at_ K)) = true := by
  obtain ⟨_, F⟩ := T.says.def_ 4 (d := d_needed_multiple) rfl
  exact F.kp
theorem sc_needed_multiple : FnScope N_needed_multiple ["trades"] (defScope s_needed_multiple) := ⟨rfl, rfl, rfl, by decide +kernel, rfl, by decide +kernel, by decide +kernel⟩
theorem ok_needed_multiple (T : Tx K mg) : FnR P w K mg base CX0 3 (d_needed_multiple.at_ K) (sp_needed_multiple K) := by
  obtain ⟨fd, F⟩ := T.says.def_ 4 (d := d_needed_multiple) rfl
  have nd := sc_needed_multiple.nd
  refine fnR_of (F.ok (k := 2) sc_needed_multiple len_needed_multiple (fun cdv A outer s H vs Q E hr h => ⟨t_needed_multiple K, PSs.nox ?_, pure_needed_multiple h⟩)) (F.bindsN fun _ _ _ _ _ _ us hl => match us, hl with | [_], _ => rfl)
  exact (pss_cons (ps_set (i := 1) nd rfl (Or.inl rfl) pe_int)
    (pss_cons (ps_for PassesOwn.never rfl (pi_tup (pv 0)) (pg_tup rfl (pgs_cons (pg_name (i := 2) nd rfl (Or.inl rfl)) (pgs_cons (pg_name (i := 3) nd rfl (Or.inl rfl)) (pgs_cons (pg_name (i := 4) nd rfl (Or.inl rfl)) pgs_nil)))) (pss_one (ps_set (i := 1) nd rfl (Or.inl rfl) (pe_callR (ok_common_multiple T) (hr.mono (by decide)) (kp_common_multiple T) rfl (T.glo 4 (x := "common_multiple") rfl) pass0 (pa_cons (pv 1) (pa_cons (pv 4) pa_nil))))))
    (pss_one (ps_ret (pv 1)))))
theorem kp_period_of (T : Tx K mg) : PySem.W.keepIn K (.ref (d_period_of.at_ K)) = true := by
  obtain ⟨_, F⟩ := T.says.def_ 5 (d := d_period_of) rfl
  exact F.kp
theorem sc_period_of : FnScope N_period_of ["trades"] (defScope s_period_of) := ⟨rfl, rfl, rfl, by decide +kernel, rfl, by decide +kernel, by decide +kernel⟩
theorem ok_period_of (T : Tx K mg) : FnR P w K mg base CX0 3 (d_period_of.at_ K) (sp_period_of K) := by
  obtain ⟨fd, F⟩ := T.says.def_ 5 (d := d_period_of) rfl
  have nd := sc_period_of.nd
  refine fnR_of (F.ok (k := 2) sc_period_of len_period_of (fun cdv A outer s H vs Q E hr h => ⟨t_period_of K, PSs.nox ?_, pure_period_of h⟩)) (F.bindsN fun _ _ _ _ _ _ us hl => match us, hl with | [_], _ => rfl)
  exact (pss_cons (ps_set (i := 1) nd rfl (Or.inl rfl) pe_int)
    (pss_cons (ps_for PassesOwn.never rfl (pi_tup (pv 0)) (pg_tup rfl (pgs_cons (pg_name (i := 2) nd rfl (Or.inl rfl)) (pgs_cons (pg_name (i := 3) nd rfl (Or.inl rfl)) (pgs_cons (pg_name (i := 4) nd rfl (Or.inl rfl)) pgs_nil)))) (pss_one (ps_set (i := 1) nd rfl (Or.inl rfl) (pe_callR (ok_common_multiple T) (hr.mono (by decide)) (kp_common_multiple T) rfl (T.glo 4 (x := "common_multiple") rfl) pass0 (pa_cons (pv 1) (pa_cons (pe_op o_fd (pv 4) (pe_callR (ok_common_divisor T) (hr.mono (by decide)) (kp_common_divisor T) rfl (T.glo 1 (x := "common_divisor") rfl) pass0 (pa_cons (pv 3) (pa_cons (pv 4) pa_nil)))) pa_nil))))))
    (pss_one (ps_ret (pe_tup (pa_cl (pa_cons (pe_op o_sub (pv 1) (pe_callR (ok_bought T) (hr.mono (by decide)) (kp_bought T) rfl (T.glo 3 (x := "bought") rfl) pass0 (pa_cons (pv 0) (pa_cons (pv 1) pa_nil)))) (pa_cons (pv 1) pa_nil))))))))
theorem kp_total (T : Tx K mg) : PySem.W.keepIn K (.ref (d_total.at_ K)) = true := by
  obtain ⟨_, F⟩ := T.says.def_ 6 (d := d_total) rfl
  exact F.kp
theorem sc_total : FnScope N_total ["trades", "bottles"] (defScope s_total) := ⟨rfl, rfl, rfl, by decide +kernel, rfl, by decide +kernel, by decide +kernel⟩
theorem ok_total (T : Tx K mg) : FnR P w K mg base CX0 4 (d_total.at_ K) (sp_total K) := by
  obtain ⟨fd, F⟩ := T.says.def_ 6 (d := d_total) rfl
  have nd := sc_total.nd
  refine fnR_of (F.ok (k := 3) sc_total len_total (fun cdv A outer s H vs Q E hr h => ⟨t_total K, PSs.nox ?_, pure_total h⟩)) (F.bindsN fun _ _ _ _ _ _ us hl => match us, hl with | [_, _], _ => rfl)
  exact (pss_cons (ps_asg (pe_callR (ok_period_of T) (hr.mono (by decide)) (kp_period_of T) rfl (T.glo 6 (x := "period_of") rfl) pass0 (pa_cons (pv 0) pa_nil)) (pg_tup rfl (pgs_cons (pg_name (i := 2) nd rfl (Or.inl rfl)) (pgs_cons (pg_name (i := 3) nd rfl (Or.inl rfl)) pgs_nil))))
    (pss_cons (ps_set (i := 4) nd rfl (Or.inl rfl) (pe_op o_fd (pe_op o_mul (pe_op o_sub (pv 1) pe_int) (pv 3)) (pv 2)))
    (pss_one (ps_ret (pe_callR (ok_least_point T) (hr.mono (by decide)) (kp_least_point T) rfl (T.glo 5 (x := "least_point") rfl) pass0 (pa_cons (pv 0) (pa_cons (pv 1) (pa_cons (pe_ifExp (pt_cmpR o_gt (pv 4) (pv 1) (nomark _)) (pv 4) (pv 1)) pa_nil))))))))
theorem kp_is_kind (T : Tx K mg) : PySem.W.keepIn K (.ref (d_is_kind.at_ K)) = true := by
  obtain ⟨_, F⟩ := T.says.def_ 7 (d := d_is_kind) rfl
  exact F.kp
theorem sc_is_kind : FnScope N_is_kind ["kind"] (defScope s_is_kind) := ⟨rfl, rfl, rfl, by decide +kernel, rfl, by decide +kernel, by decide +kernel⟩
theorem ok_is_kind (T : Tx K mg) : FnR P w K mg base CX0 1 (d_is_kind.at_ K) (sp_is_kind K) := by
  obtain ⟨fd, F⟩ := T.says.def_ 7 (d := d_is_kind) rfl
  have nd := sc_is_kind.nd
  refine fnR_of (F.ok (k := 0) sc_is_kind len_is_kind (fun cdv A outer s H vs Q E hr h => ⟨t_is_kind K, PSs.nox ?_, pure_is_kind h⟩)) (F.bindsN fun _ _ _ _ _ _ us hl => match us, hl with | [_], _ => rfl)
  exact (pss_one (ps_ret (pe_and (pe_chain o_le o_le pe_int (pe_callB c_len rfl (T.fre 7 (x := "len") rfl) (by decide +kernel) (pa_cons (pv 0) pa_nil)) (pe_glob rfl (T.int 8 (x := "MAX_LETTERS") (i := 8) rfl).choose_spec ⟨_, rfl⟩)) (pe_one (pe_callB (cr_all rfl) rfl (T.fre 10 (x := "all") rfl) (by decide +kernel) (pa_cons (pe_lc (own := [("letter", 1)]) rfl nd (pi_str (pv 0)) (blkOk_by (own := [("letter", 1)]) (N := N_is_kind) (sc := defScope s_is_kind) (by decide +kernel)) (fun _ _ _ _ _ => (pg_name (i := 1) nd rfl (Or.inl rfl))) (fun _ _ _ _ _ => pts_nil) (fun _ _ _ _ _ => (pe_cmpR op_inS (pv 1) (pe_glob rfl (T.str 9 (x := "LETTERS") (z := "abcdefghijklmnopqrstuvwxyz") rfl).choose_spec ⟨_, rfl⟩) rfl))) pa_nil))))))
theorem kp_is_trade_kind (T : Tx K mg) : PySem.W.keepIn K (.ref (d_is_trade_kind.at_ K)) = true := by
  obtain ⟨_, F⟩ := T.says.def_ 8 (d := d_is_trade_kind) rfl
  exact F.kp
theorem sc_is_trade_kind : FnScope N_is_trade_kind ["kind"] (defScope s_is_trade_kind) := ⟨rfl, rfl, rfl, by decide +kernel, rfl, by decide +kernel, by decide +kernel⟩
theorem ok_is_trade_kind (T : Tx K mg) : FnR P w K mg base CX0 2 (d_is_trade_kind.at_ K) (sp_is_trade_kind K) := by
  obtain ⟨fd, F⟩ := T.says.def_ 8 (d := d_is_trade_kind) rfl
  have nd := sc_is_trade_kind.nd
  refine fnR_of (F.ok (k := 1) sc_is_trade_kind len_is_trade_kind (fun cdv A outer s H vs Q E hr h => ⟨t_is_trade_kind K, PSs.nox ?_, pure_is_trade_kind h⟩)) (F.bindsN fun _ _ _ _ _ _ us hl => match us, hl with | [_], _ => rfl)
  exact (pss_one (ps_ret (pe_and (pe_callR (ok_is_kind T) (hr.mono (by decide)) (kp_is_kind T) rfl (T.glo 11 (x := "is_kind") rfl) pass0 (pa_cons (pv 0) pa_nil)) (pe_one (pe_cmpR op_ne (pv 0) pe_str (nomark _))))))
theorem kp_is_trade (T : Tx K mg) : PySem.W.keepIn K (.ref (d_is_trade.at_ K)) = true := by
  obtain ⟨_, F⟩ := T.says.def_ 9 (d := d_is_trade) rfl
  exact F.kp
theorem sc_is_trade : FnScope N_is_trade ["trade"] (defScope s_is_trade) := ⟨rfl, rfl, rfl, by decide +kernel, rfl, by decide +kernel, by decide +kernel⟩
theorem ok_is_trade (T : Tx K mg) : FnR P w K mg base CX0 3 (d_is_trade.at_ K) (sp_is_trade K) := by
  obtain ⟨fd, F⟩ := T.says.def_ 9 (d := d_is_trade) rfl
  have nd := sc_is_trade.nd
  refine fnR_of (F.ok (k := 2) sc_is_trade len_is_trade (fun cdv A outer s H vs Q E hr h => ⟨t_is_trade K, PSs.nox ?_, pure_is_trade (ofK T) h⟩)) (F.bindsN fun _ _ _ _ _ _ us hl => match us, hl with | [_], _ => rfl)
  exact (pss_cons (ps_asg (pv 0) (pg_tup rfl (pgs_cons (pg_name (i := 1) nd rfl (Or.inl rfl)) (pgs_cons (pg_name (i := 2) nd rfl (Or.inl rfl)) (pgs_cons (pg_name (i := 3) nd rfl (Or.inl rfl)) pgs_nil)))))
    (pss_one (ps_ret (pe_and (pe_callR (ok_is_trade_kind T) (hr.mono (by decide)) (kp_is_trade_kind T) rfl (T.glo 12 (x := "is_trade_kind") rfl) pass0 (pa_cons (pv 1) pa_nil)) (pe_and (pe_chain o_le o_le pe_int (pv 2) (pe_cval (pe_glob rfl (T.glo 13 (x := "Offer") rfl) rfl))) (pe_one (pe_chain o_le o_le pe_int (pv 3) (pe_cval (pe_glob rfl (T.glo 13 (x := "Offer") rfl) rfl)))))))))
theorem kp_validate_number (T : Tx K mg) : PySem.W.keepIn K (.ref (d_validate_number.at_ K)) = true := by
  obtain ⟨_, F⟩ := T.says.def_ 10 (d := d_validate_number) rfl
  exact F.kp
theorem sc_validate_number : FnScope N_validate_number ["number", "smallest", "largest"] (defScope s_validate_number) := ⟨rfl, rfl, rfl, by decide +kernel, rfl, by decide +kernel, by decide +kernel⟩
theorem okx_validate_number (T : Tx K mg) : FnR P w K mg base (L2.CX P w) 1 (d_validate_number.at_ K) (spx_validate_number K) := by
  obtain ⟨fd, F⟩ := T.says.def_ 10 (d := d_validate_number) rfl
  have nd := sc_validate_number.nd
  refine fnR_of (F.ok (k := 0) sc_validate_number lenx_validate_number (fun cdv A outer s H vs Q E hr h => ⟨tx_validate_number K E, ?_, purex_validate_number h⟩)) (F.bindsN fun _ _ _ _ _ _ us hl => match us, hl with | [_, _, _], _ => rfl)
  exact (pss_one (ps_if (pt_not (pt_chain o_le o_le (pv 1) (pv 0) (pv 2))) (pss_one (ps_rs rfl tk_cx (pmk_txt (T.exc 14 (x := "InvalidNumber") rfl) (T.glo 15 (x := "InvalidNumber") rfl) rfl))) pss_nil))
theorem ok_validate_number (T : Tx K mg) : FnR P w K mg base CX0 1 (d_validate_number.at_ K) (sp_validate_number K) := by
  obtain ⟨fd, F⟩ := T.says.def_ 10 (d := d_validate_number) rfl
  have nd := sc_validate_number.nd
  refine fnR_of (F.ok (k := 0) sc_validate_number len_validate_number (fun cdv A outer s H vs Q E hr h => ⟨t_validate_number K, PSs.nox ?_, pure_validate_number h⟩)) (F.bindsN fun _ _ _ _ _ _ us hl => match us, hl with | [_, _, _], _ => rfl)
  exact (pss_one (ps_if (pt_not (pt_chain o_le o_le (pv 1) (pv 0) (pv 2))) (pss_one ps_never) pss_nil))
theorem kp_Offer_init (T : Tx K mg) : PySem.W.keepIn K (.ref (d_Offer_init.at_ K)) = true := by
  obtain ⟨_, F⟩ := T.says.def_ 11 (d := d_Offer_init) rfl
  exact F.kp
theorem sc_Offer_init : FnScope N_Offer_init ["self", "trades"] (defScope s_Offer_init) := ⟨rfl, rfl, rfl, by decide +kernel, rfl, by decide +kernel, by decide +kernel⟩
theorem ok_Offer_init (T : Tx K mg) : FnR P w K mg base CX0 4 (d_Offer_init.at_ K) (sp_Offer_init K) := by
  obtain ⟨fd, F⟩ := T.says.def_ 11 (d := d_Offer_init) rfl
  have nd := sc_Offer_init.nd
  refine FnR.imp (fnR_star1 (k := 3) (spi := spi_Offer_init K) F sc_Offer_init (fun cdv A outer s H vs Q E hr h => ⟨t_Offer_init K, PSs.nox ?_, pure_Offer_init (ofK T) h⟩) ?_ ?_) (out_Offer_init K)
  · exact (pss_cons (ps_if (pt_cmpR (op_eqD hr.units) (pv 1) (pe_tup (pa_cl pa_nil)) (nomark _)) (pss_one ps_never) pss_nil)
    (pss_cons (ps_for PassesOwn.never rfl (pi_enumT rfl (T.fre 18 (x := "enumerate") rfl) (pa_cons (pv 1) pa_nil)) (pg_tup rfl (pgs_cons (pg_name (i := 2) nd rfl (Or.inl rfl)) (pgs_cons (pg_name (i := 3) nd rfl (Or.inl rfl)) pgs_nil))) (pss_cons (ps_setLc (i := 4) (own := [("kind", 6), ("left", 7), ("needed", 8)]) rfl nd rfl rfl (sw_true rfl rfl rfl (by decide +kernel)) (pi_tup (pe_slice sl_tupA (pv 1) po_none (po_some (pv 2)))) (blkOk_by (own := [("kind", 6), ("left", 7), ("needed", 8)]) (N := N_Offer_init) (sc := defScope s_Offer_init) (by decide +kernel)) (fun _ _ _ _ _ => (pg_tup rfl (pgs_cons (pg_name (i := 6) nd rfl (Or.inl rfl)) (pgs_cons (pg_name (i := 7) nd rfl (Or.inl rfl)) (pgs_cons (pg_name (i := 8) nd rfl (Or.inl rfl)) pgs_nil))))) (fun _ _ _ _ _ => pts_nil) (fun _ _ _ _ _ => (pv 6)))
    (pss_one (ps_if (PW.pt (pw_or (pt_cmpR op_eq (pv 2) (pe_cval (pe_glob rfl (T.glo 13 (x := "Offer") rfl) rfl)) (nomark _)) (pw_or (pt_not (pt_val (pe_callR (ok_is_trade T) (hr.mono (by decide)) (kp_is_trade T) rfl (T.glo 19 (x := "is_trade") rfl) pass0 (pa_cons (pv 3) pa_nil)))) (pw_or1 (pt_cmpR op_in_seq (pe_ix ix_tup (pv 3) pe_int (fun _ _ => rfl)) (pv 4) rfl))))) (pss_one ps_never) pss_nil))))
    (pss_cons (ps_set (i := 5) nd rfl (Or.inl rfl) (pe_callR (ok_needed_multiple T) (hr.mono (by decide)) (kp_needed_multiple T) rfl (T.glo 17 (x := "needed_multiple") rfl) pass0 (pa_cons (pv 1) pa_nil)))
    (pss_cons (ps_if (pt_cmpR o_gt (pe_op o_mul pe_int (pe_callR (ok_bought T) (hr.mono (by decide)) (kp_bought T) rfl (T.glo 3 (x := "bought") rfl) pass0 (pa_cons (pv 1) (pa_cons (pv 5) pa_nil)))) (pe_op o_mul pe_int (pv 5)) (nomark _)) (pss_one ps_never) pss_nil)
    (pss_one (ps_fld (pv 0) (pv 1) rfl))))))
  · intros; rfl
  · intros; rfl
theorem kp_Offer_call (T : Tx K mg) : PySem.W.keepIn K (.ref (d_Offer_call.at_ K)) = true := by
  obtain ⟨_, F⟩ := T.says.def_ 12 (d := d_Offer_call) rfl
  exact F.kp
theorem sc_Offer_call : FnScope N_Offer_call ["self", "bottles"] (defScope s_Offer_call) := ⟨rfl, rfl, rfl, by decide +kernel, rfl, by decide +kernel, by decide +kernel⟩
theorem ok_Offer_call (T : Tx K mg) : FnR P w K mg base CX0 5 (d_Offer_call.at_ K) (sp_Offer_call K) := by
  obtain ⟨fd, F⟩ := T.says.def_ 12 (d := d_Offer_call) rfl
  have nd := sc_Offer_call.nd
  refine fnR_of (F.ok (k := 4) sc_Offer_call len_Offer_call (fun cdv A outer s H vs Q E hr h => ⟨t_Offer_call K, PSs.nox ?_, pure_Offer_call (ofK T) h⟩)) (F.bindsN fun _ _ _ _ _ _ us hl => match us, hl with | [_, _], _ => rfl)
  exact (pss_cons (ps_expr (pe_callR (ok_validate_number T) (hr.mono (by decide)) (kp_validate_number T) rfl (T.glo 22 (x := "validate_number") rfl) pass0 (pa_cons (pv 1) (pa_cons pe_int (pa_cons (pe_glob rfl (T.int 21 (x := "MAX_BOTTLES") (i := 1000000000000000000) rfl).choose_spec ⟨_, rfl⟩) pa_nil)))))
    (pss_one (ps_ret (pe_callR (ok_total T) (hr.mono (by decide)) (kp_total T) rfl (T.glo 20 (x := "total") rfl) pass0 (pa_cons (pe_fld (pv 0) rfl) (pa_cons (pv 1) pa_nil))))))
theorem kp_with_credit (T : Tx K mg) : PySem.W.keepIn K (.ref (d_with_credit.at_ K)) = true := by
  obtain ⟨_, F⟩ := T.says.def_ 13 (d := d_with_credit) rfl
  exact F.kp
theorem sc_with_credit : FnScope N_with_credit ["trades", "bottles"] (defScope s_with_credit) := ⟨rfl, rfl, rfl, by decide +kernel, rfl, by decide +kernel, by decide +kernel⟩
theorem ok_with_credit (T : Tx K mg) : FnR P w K mg base CX0 4 (d_with_credit.at_ K) (sp_with_credit K) := by
  obtain ⟨fd, F⟩ := T.says.def_ 13 (d := d_with_credit) rfl
  have nd := sc_with_credit.nd
  refine fnR_of (F.ok (k := 3) sc_with_credit len_with_credit (fun cdv A outer s H vs Q E hr h => ⟨t_with_credit K, PSs.nox ?_, pure_with_credit h⟩)) (F.bindsN fun _ _ _ _ _ _ us hl => match us, hl with | [_, _], _ => rfl)
  exact (pss_cons (ps_set (i := 2) nd rfl (Or.inl rfl) (pe_callR (ok_needed_multiple T) (hr.mono (by decide)) (kp_needed_multiple T) rfl (T.glo 17 (x := "needed_multiple") rfl) pass0 (pa_cons (pv 0) pa_nil)))
    (pss_cons (ps_set (i := 3) nd rfl (Or.inl rfl) (pe_op o_fd (pe_op o_mul (pv 1) (pv 2)) (pe_op o_sub (pv 2) (pe_callR (ok_bought T) (hr.mono (by decide)) (kp_bought T) rfl (T.glo 3 (x := "bought") rfl) pass0 (pa_cons (pv 0) (pa_cons (pv 2) pa_nil))))))
    (pss_cons (ps_whileW PassesOwn.never (ptw_cmp o_lt (pew_named (i := 4) nd rfl (Or.inl rfl) (pew_of (pe_op o_add (pv 1) (pe_callR (ok_bought T) (hr.mono (by decide)) (kp_bought T) rfl (T.glo 3 (x := "bought") rfl) pass0 (pa_cons (pv 0) (pa_cons (pv 3) pa_nil)))))) (pv 3) (nomark _)) (pss_one (ps_set (i := 3) nd rfl (Or.inl rfl) (pv 4))) pss_nil)
    (pss_one (ps_ret (pv 3))))))
theorem kp_steady_begin (T : Tx K mg) : PySem.W.keepIn K (.ref (d_steady_begin.at_ K)) = true := by
  obtain ⟨_, F⟩ := T.says.def_ 14 (d := d_steady_begin) rfl
  exact F.kp
theorem sc_steady_begin : FnScope N_steady_begin ["trades"] (defScope s_steady_begin) := ⟨rfl, rfl, rfl, by decide +kernel, rfl, by decide +kernel, by decide +kernel⟩
theorem ok_steady_begin (T : Tx K mg) : FnR P w K mg base CX0 4 (d_steady_begin.at_ K) (sp_steady_begin K) := by
  obtain ⟨fd, F⟩ := T.says.def_ 14 (d := d_steady_begin) rfl
  have nd := sc_steady_begin.nd
  refine fnR_of (F.ok (k := 3) sc_steady_begin len_steady_begin (fun cdv A outer s H vs Q E hr h => ⟨t_steady_begin K, PSs.nox ?_, pure_steady_begin h⟩)) (F.bindsN fun _ _ _ _ _ _ us hl => match us, hl with | [_], _ => rfl)
  exact (pss_cons (ps_asg (pe_callR (ok_period_of T) (hr.mono (by decide)) (kp_period_of T) rfl (T.glo 6 (x := "period_of") rfl) pass0 (pa_cons (pv 0) pa_nil)) (pg_tup rfl (pgs_cons (pg_name (i := 1) nd rfl (Or.inl rfl)) (pgs_cons (pg_name (i := 2) nd rfl (Or.inl rfl)) pgs_nil))))
    (pss_cons (ps_set (i := 3) nd rfl (Or.inl rfl) pe_int)
    (pss_cons (ps_while PassesOwn.never (pt_cmpR o_lt (pe_callR (ok_least_point T) (hr.mono (by decide)) (kp_least_point T) rfl (T.glo 5 (x := "least_point") rfl) pass0 (pa_cons (pv 0) (pa_cons (pv 3) (pa_cons (pe_op o_sub pe_int (pv 2)) pa_nil)))) pe_int (nomark _)) (pss_one (ps_aug (i := 3) nd rfl (Or.inl rfl) pe_int ip_add)))
    (pss_one (ps_ret (pv 3))))))
theorem kp_fewest (T : Tx K mg) : PySem.W.keepIn K (.ref (d_fewest.at_ K)) = true := by
  obtain ⟨_, F⟩ := T.says.def_ 15 (d := d_fewest) rfl
  exact F.kp
theorem sc_fewest : FnScope N_fewest ["trades", "drinks"] (defScope s_fewest) := ⟨rfl, rfl, rfl, by decide +kernel, rfl, by decide +kernel, by decide +kernel⟩
theorem ok_fewest (T : Tx K mg) : FnR P w K mg base CX0 5 (d_fewest.at_ K) (sp_fewest K) := by
  obtain ⟨fd, F⟩ := T.says.def_ 15 (d := d_fewest) rfl
  have nd := sc_fewest.nd
  refine fnR_of (F.ok (k := 4) sc_fewest len_fewest (fun cdv A outer s H vs Q E hr h => ⟨t_fewest K, PSs.nox ?_, pure_fewest h⟩)) (F.bindsN fun _ _ _ _ _ _ us hl => match us, hl with | [_, _], _ => rfl)
  exact (pss_cons (ps_asg (pe_callR (ok_period_of T) (hr.mono (by decide)) (kp_period_of T) rfl (T.glo 6 (x := "period_of") rfl) pass0 (pa_cons (pv 0) pa_nil)) (pg_tup rfl (pgs_cons (pg_name (i := 2) nd rfl (Or.inl rfl)) (pgs_cons (pg_name (i := 3) nd rfl (Or.inl rfl)) pgs_nil))))
    (pss_cons (ps_set (i := 4) nd rfl (Or.inl rfl) (pe_op o_sub pe_int (pe_op o_fd (pe_callTy c_int rfl (T.fre 0 (x := "int") rfl) (by decide +kernel) (pa_cons (pe_op o_sub pe_int (pe_op o_mul (pe_callTy c_int rfl (T.fre 0 (x := "int") rfl) (by decide +kernel) (pa_cons (pv 1) pa_nil)) (pv 2))) pa_nil)) (pv 3))))
    (pss_cons (ps_for PassesOwn.never rfl (pi_tup (pe_tup (pa_cl (pa_cons (pv 4) (pa_cons (pe_op o_add (pv 4) pe_int) (pa_cons (pe_op o_add (pv 4) pe_int) pa_nil)))))) (pg_name (i := 5) nd rfl (Or.inl rfl)) (pss_one (ps_if (pt_cmpR o_ge (pe_callR (ok_total T) (hr.mono (by decide)) (kp_total T) rfl (T.glo 20 (x := "total") rfl) pass0 (pa_cons (pv 0) (pa_cons (pv 5) pa_nil))) (pe_callTy c_int rfl (T.fre 0 (x := "int") rfl) (by decide +kernel) (pa_cons (pv 1) pa_nil)) (nomark _)) (pss_one (ps_ret (pv 5))) pss_nil)))
    (pss_one (ps_ret (pe_op o_add (pv 4) pe_int))))))
theorem kp_common_of (T : Tx K mg) : PySem.W.keepIn K (.ref (d_common_of.at_ K)) = true := by
  obtain ⟨_, F⟩ := T.says.def_ 16 (d := d_common_of) rfl
  exact F.kp
theorem sc_common_of : FnScope N_common_of ["trades", "others"] (defScope s_common_of) := ⟨rfl, rfl, rfl, by decide +kernel, rfl, by decide +kernel, by decide +kernel⟩
theorem ok_common_of (T : Tx K mg) : FnR P w K mg base CX0 5 (d_common_of.at_ K) (sp_common_of K) := by
  obtain ⟨fd, F⟩ := T.says.def_ 16 (d := d_common_of) rfl
  have nd := sc_common_of.nd
  refine fnR_of (F.ok (k := 4) sc_common_of len_common_of (fun cdv A outer s H vs Q E hr h => ⟨t_common_of K, PSs.nox ?_, pure_common_of h⟩)) (F.bindsN fun _ _ _ _ _ _ us hl => match us, hl with | [_, _], _ => rfl)
  exact (pss_cons (ps_asg (pe_callR (ok_period_of T) (hr.mono (by decide)) (kp_period_of T) rfl (T.glo 6 (x := "period_of") rfl) pass0 (pa_cons (pv 0) pa_nil)) (pg_tup rfl (pgs_cons (pg_name (i := 2) nd rfl (Or.inl rfl)) (pgs_cons (pg_name (i := 3) nd rfl (Or.inl rfl)) pgs_nil))))
    (pss_cons (ps_asg (pe_callR (ok_period_of T) (hr.mono (by decide)) (kp_period_of T) rfl (T.glo 6 (x := "period_of") rfl) pass0 (pa_cons (pv 1) pa_nil)) (pg_tup rfl (pgs_cons (pg_name (i := 4) nd rfl (Or.inl rfl)) (pgs_cons (pg_name (i := 5) nd rfl (Or.inl rfl)) pgs_nil))))
    (pss_cons (ps_par rfl nd (i := 6) (j := 7) rfl rfl (by decide) rfl rfl (pa_cons (pe_callR (ok_steady_begin T) (hr.mono (by decide)) (kp_steady_begin T) rfl (T.glo 23 (x := "steady_begin") rfl) pass0 (pa_cons (pv 0) pa_nil)) (pa_cons (pe_callR (ok_steady_begin T) (hr.mono (by decide)) (kp_steady_begin T) rfl (T.glo 23 (x := "steady_begin") rfl) pass0 (pa_cons (pv 1) pa_nil)) pa_nil)) rfl)
    (pss_cons (ps_set (i := 8) nd rfl (Or.inl rfl) (pe_callR (ok_common_multiple T) (hr.mono (by decide)) (kp_common_multiple T) rfl (T.glo 4 (x := "common_multiple") rfl) pass0 (pa_cons (pv 2) (pa_cons (pv 4) pa_nil))))
    (pss_cons (ps_set (i := 9) nd rfl (Or.inl rfl) (pe_op o_sub (pe_op o_mul (pe_op o_fd (pv 8) (pv 2)) (pv 3)) (pe_op o_mul (pe_op o_fd (pv 8) (pv 4)) (pv 5))))
    (pss_one (ps_ret (pe_tup (pa_cl (pa_cons (pe_ifExp (pt_cmpR o_gt (pv 6) (pv 7) (nomark _)) (pv 6) (pv 7)) (pa_cons (pv 8) (pa_cons (pv 9) pa_nil))))))))))))
theorem kp_is_never_more (T : Tx K mg) : PySem.W.keepIn K (.ref (d_is_never_more.at_ K)) = true := by
  obtain ⟨_, F⟩ := T.says.def_ 17 (d := d_is_never_more) rfl
  exact F.kp
theorem sc_is_never_more : FnScope N_is_never_more ["trades", "others"] (defScope s_is_never_more) := ⟨rfl, rfl, rfl, by decide +kernel, rfl, by decide +kernel, by decide +kernel⟩
theorem ok_is_never_more (T : Tx K mg) : FnR P w K mg base CX0 6 (d_is_never_more.at_ K) (sp_is_never_more K) := by
  obtain ⟨fd, F⟩ := T.says.def_ 17 (d := d_is_never_more) rfl
  have nd := sc_is_never_more.nd
  refine fnR_of (F.ok (k := 5) sc_is_never_more len_is_never_more (fun cdv A outer s H vs Q E hr h => ⟨t_is_never_more K, PSs.nox ?_, pure_is_never_more h⟩)) (F.bindsN fun _ _ _ _ _ _ us hl => match us, hl with | [_, _], _ => rfl)
  exact (pss_cons (ps_asg (pe_callR (ok_common_of T) (hr.mono (by decide)) (kp_common_of T) rfl (T.glo 25 (x := "common_of") rfl) pass0 (pa_cons (pv 0) (pa_cons (pv 1) pa_nil))) (pg_tup rfl (pgs_cons (pg_name (i := 2) nd rfl (Or.inl rfl)) (pgs_cons (pg_name (i := 3) nd rfl (Or.inl rfl)) (pgs_cons (pg_name (i := 4) nd rfl (Or.inl rfl)) pgs_nil)))))
    (pss_cons (ps_if (pt_cmpR o_gt (pv 4) pe_int (nomark _)) (pss_one (ps_ret pe_bl)) pss_nil)
    (pss_cons (ps_for PassesOwn.never rfl (pi_range1 rfl (T.fre 24 (x := "range") rfl) (pa_cons (pe_op o_add (pe_op o_add (pv 2) (pv 3)) pe_int) pa_nil)) (pg_name (i := 5) nd rfl (Or.inl rfl)) (pss_one (ps_if (pt_cmpR o_gt (pe_callR (ok_total T) (hr.mono (by decide)) (kp_total T) rfl (T.glo 20 (x := "total") rfl) pass0 (pa_cons (pv 0) (pa_cons (pv 5) pa_nil))) (pe_callR (ok_total T) (hr.mono (by decide)) (kp_total T) rfl (T.glo 20 (x := "total") rfl) pass0 (pa_cons (pv 1) (pa_cons (pv 5) pa_nil))) (nomark _)) (pss_one (ps_ret pe_bl)) pss_nil)))
    (pss_one (ps_ret pe_bl)))))
theorem kp_first_gap (T : Tx K mg) : PySem.W.keepIn K (.ref (d_first_gap.at_ K)) = true := by
  obtain ⟨_, F⟩ := T.says.def_ 18 (d := d_first_gap) rfl
  exact F.kp
theorem sc_first_gap : FnScope N_first_gap ["trades", "others"] (defScope s_first_gap) := ⟨rfl, rfl, rfl, by decide +kernel, rfl, by decide +kernel, by decide +kernel⟩
theorem ok_first_gap (T : Tx K mg) : FnR P w K mg base CX0 6 (d_first_gap.at_ K) (sp_first_gap K) := by
  obtain ⟨fd, F⟩ := T.says.def_ 18 (d := d_first_gap) rfl
  have nd := sc_first_gap.nd
  refine fnR_of (F.ok (k := 5) sc_first_gap len_first_gap (fun cdv A outer s H vs Q E hr h => ⟨t_first_gap K, PSs.nox ?_, pure_first_gap h⟩)) (F.bindsN fun _ _ _ _ _ _ us hl => match us, hl with | [_, _], _ => rfl)
  exact (pss_cons (ps_asg (pe_callR (ok_common_of T) (hr.mono (by decide)) (kp_common_of T) rfl (T.glo 25 (x := "common_of") rfl) pass0 (pa_cons (pv 0) (pa_cons (pv 1) pa_nil))) (pg_tup rfl (pgs_cons (pg_name (i := 2) nd rfl (Or.inl rfl)) (pgs_cons (pg_name (i := 3) nd rfl (Or.inl rfl)) (pgs_cons (pg_name (i := 4) nd rfl (Or.inl rfl)) pgs_nil)))))
    (pss_cons (ps_for PassesOwn.never rfl (pi_range1 rfl (T.fre 24 (x := "range") rfl) (pa_cons (pe_op o_add (pe_op o_add (pv 2) (pv 3)) pe_int) pa_nil)) (pg_name (i := 5) nd rfl (Or.inl rfl)) (pss_one (ps_if (pt_cmpR op_ne (pe_callR (ok_total T) (hr.mono (by decide)) (kp_total T) rfl (T.glo 20 (x := "total") rfl) pass0 (pa_cons (pv 0) (pa_cons (pv 5) pa_nil))) (pe_callR (ok_total T) (hr.mono (by decide)) (kp_total T) rfl (T.glo 20 (x := "total") rfl) pass0 (pa_cons (pv 1) (pa_cons (pv 5) pa_nil))) (nomark _)) (pss_one (ps_ret (pv 5))) pss_nil)))
    (pss_one (ps_ret pe_non))))
theorem kp_Offer_period (T : Tx K mg) : PySem.W.keepIn K (.ref (d_Offer_period.at_ K)) = true := by
  obtain ⟨_, F⟩ := T.says.def_ 19 (d := d_Offer_period) rfl
  exact F.kp
theorem sc_Offer_period : FnScope N_Offer_period ["self"] (defScope s_Offer_period) := ⟨rfl, rfl, rfl, by decide +kernel, rfl, by decide +kernel, by decide +kernel⟩
theorem pk_Offer_period (T : Tx K mg) : ∃ fd, FnOk P w K mg base CX0 4 (d_Offer_period.at_ K) fd ["self"] (sp_Offer_period K) ∧ Binds K fd ["self"] [] := by
  obtain ⟨fd, F⟩ := T.says.def_ 19 (d := d_Offer_period) rfl
  have nd := sc_Offer_period.nd
  refine ⟨fd, F.ok (k := 3) sc_Offer_period len_Offer_period (fun cdv A outer s H vs Q E hr h => ⟨t_Offer_period K, PSs.nox ?_, pure_Offer_period (ofK T) h⟩), F.bindsN fun _ _ _ _ _ _ us hl => match us, hl with | [_], _ => rfl⟩
  exact (pss_one (ps_ret (pe_callR (ok_period_of T) (hr.mono (by decide)) (kp_period_of T) rfl (T.glo 6 (x := "period_of") rfl) pass0 (pa_cons (pe_fld (pv 0) rfl) pa_nil))))
theorem kp_Offer_steady_from (T : Tx K mg) : PySem.W.keepIn K (.ref (d_Offer_steady_from.at_ K)) = true := by
  obtain ⟨_, F⟩ := T.says.def_ 20 (d := d_Offer_steady_from) rfl
  exact F.kp
theorem sc_Offer_steady_from : FnScope N_Offer_steady_from ["self"] (defScope s_Offer_steady_from) := ⟨rfl, rfl, rfl, by decide +kernel, rfl, by decide +kernel, by decide +kernel⟩
theorem pk_Offer_steady_from (T : Tx K mg) : ∃ fd, FnOk P w K mg base CX0 5 (d_Offer_steady_from.at_ K) fd ["self"] (sp_Offer_steady_from K) ∧ Binds K fd ["self"] [] := by
  obtain ⟨fd, F⟩ := T.says.def_ 20 (d := d_Offer_steady_from) rfl
  have nd := sc_Offer_steady_from.nd
  refine ⟨fd, F.ok (k := 4) sc_Offer_steady_from len_Offer_steady_from (fun cdv A outer s H vs Q E hr h => ⟨t_Offer_steady_from K, PSs.nox ?_, pure_Offer_steady_from (ofK T) h⟩), F.bindsN fun _ _ _ _ _ _ us hl => match us, hl with | [_], _ => rfl⟩
  exact (pss_one (ps_ret (pe_callR (ok_steady_begin T) (hr.mono (by decide)) (kp_steady_begin T) rfl (T.glo 23 (x := "steady_begin") rfl) pass0 (pa_cons (pe_fld (pv 0) rfl) pa_nil))))
theorem kp_Offer_trades (T : Tx K mg) : PySem.W.keepIn K (.ref (d_Offer_trades.at_ K)) = true := by
  obtain ⟨_, F⟩ := T.says.def_ 21 (d := d_Offer_trades) rfl
  exact F.kp
theorem sc_Offer_trades : FnScope N_Offer_trades ["self"] (defScope s_Offer_trades) := ⟨rfl, rfl, rfl, by decide +kernel, rfl, by decide +kernel, by decide +kernel⟩
theorem pk_Offer_trades (T : Tx K mg) : ∃ fd, FnOk P w K mg base CX0 1 (d_Offer_trades.at_ K) fd ["self"] (sp_Offer_trades K) ∧ Binds K fd ["self"] [] := by
  obtain ⟨fd, F⟩ := T.says.def_ 21 (d := d_Offer_trades) rfl
  have nd := sc_Offer_trades.nd
  refine ⟨fd, F.ok (k := 0) sc_Offer_trades len_Offer_trades (fun cdv A outer s H vs Q E hr h => ⟨t_Offer_trades K, PSs.nox ?_, pure_Offer_trades (ofK T) h⟩), F.bindsN fun _ _ _ _ _ _ us hl => match us, hl with | [_], _ => rfl⟩
  exact (pss_one (ps_ret (pe_fld (pv 0) rfl)))
theorem kp_Offer_kinds (T : Tx K mg) : PySem.W.keepIn K (.ref (d_Offer_kinds.at_ K)) = true := by
  obtain ⟨_, F⟩ := T.says.def_ 22 (d := d_Offer_kinds) rfl
  exact F.kp
theorem sc_Offer_kinds : FnScope N_Offer_kinds ["self"] (defScope s_Offer_kinds) := ⟨rfl, rfl, rfl, by decide +kernel, rfl, by decide +kernel, by decide +kernel⟩
theorem pk_Offer_kinds (T : Tx K mg) : ∃ fd, FnOk P w K mg base CX0 1 (d_Offer_kinds.at_ K) fd ["self"] (sp_Offer_kinds K) ∧ Binds K fd ["self"] [] := by
  obtain ⟨fd, F⟩ := T.says.def_ 22 (d := d_Offer_kinds) rfl
  have nd := sc_Offer_kinds.nd
  refine ⟨fd, F.ok (k := 0) sc_Offer_kinds len_Offer_kinds (fun cdv A outer s H vs Q E hr h => ⟨t_Offer_kinds K, PSs.nox ?_, pure_Offer_kinds (ofK T) h⟩), F.bindsN fun _ _ _ _ _ _ us hl => match us, hl with | [_], _ => rfl⟩
  exact (pss_one (ps_ret (pe_callTy c_tupO rfl (T.fre 26 (x := "tuple") rfl) (by decide +kernel) (pa_cons (pe_lc (own := [("kind", 1), ("left", 2), ("needed", 3)]) rfl nd (pi_tup (pe_fld (pv 0) rfl)) (blkOk_by (own := [("kind", 1), ("left", 2), ("needed", 3)]) (N := N_Offer_kinds) (sc := defScope s_Offer_kinds) (by decide +kernel)) (fun _ _ _ _ _ => (pg_tup rfl (pgs_cons (pg_name (i := 1) nd rfl (Or.inl rfl)) (pgs_cons (pg_name (i := 2) nd rfl (Or.inl rfl)) (pgs_cons (pg_name (i := 3) nd rfl (Or.inl rfl)) pgs_nil))))) (fun _ _ _ _ _ => pts_nil) (fun _ _ _ _ _ => (pv 1))) pa_nil))))
theorem kp_Offer_bool (T : Tx K mg) : PySem.W.keepIn K (.ref (d_Offer_bool.at_ K)) = true := by
  obtain ⟨_, F⟩ := T.says.def_ 23 (d := d_Offer_bool) rfl
  exact F.kp
theorem sc_Offer_bool : FnScope N_Offer_bool ["self"] (defScope s_Offer_bool) := ⟨rfl, rfl, rfl, by decide +kernel, rfl, by decide +kernel, by decide +kernel⟩
theorem ok_Offer_bool (T : Tx K mg) : FnR P w K mg base CX0 1 (d_Offer_bool.at_ K) (sp_Offer_bool K) := by
  obtain ⟨fd, F⟩ := T.says.def_ 23 (d := d_Offer_bool) rfl
  have nd := sc_Offer_bool.nd
  refine fnR_of (F.ok (k := 0) sc_Offer_bool len_Offer_bool (fun cdv A outer s H vs Q E hr h => ⟨t_Offer_bool K, PSs.nox ?_, pure_Offer_bool (ofK T) h⟩)) (F.bindsN fun _ _ _ _ _ _ us hl => match us, hl with | [_], _ => rfl)
  exact (pss_one (ps_ret (pe_callB (cr_any rfl) rfl (T.fre 27 (x := "any") rfl) (by decide +kernel) (pa_cons (pe_lc (own := [("kind", 1), ("left", 2), ("needed", 3)]) rfl nd (pi_tup (pe_fld (pv 0) rfl)) (blkOk_by (own := [("kind", 1), ("left", 2), ("needed", 3)]) (N := N_Offer_bool) (sc := defScope s_Offer_bool) (by decide +kernel)) (fun _ _ _ _ _ => (pg_tup rfl (pgs_cons (pg_name (i := 1) nd rfl (Or.inl rfl)) (pgs_cons (pg_name (i := 2) nd rfl (Or.inl rfl)) (pgs_cons (pg_name (i := 3) nd rfl (Or.inl rfl)) pgs_nil))))) (fun _ _ _ _ _ => pts_nil) (fun _ _ _ _ _ => (pe_cmpR o_gt (pv 2) pe_int (nomark _)))) pa_nil))))
theorem kp_Offer_getitem (T : Tx K mg) : PySem.W.keepIn K (.ref (d_Offer_getitem.at_ K)) = true := by
  obtain ⟨_, F⟩ := T.says.def_ 24 (d := d_Offer_getitem) rfl
  exact F.kp
theorem sc_Offer_getitem : FnScope N_Offer_getitem ["self", "kind"] (defScope s_Offer_getitem) := ⟨rfl, rfl, rfl, by decide +kernel, rfl, by decide +kernel, by decide +kernel⟩
theorem okx_Offer_getitem (T : Tx K mg) : FnR P w K mg base (L2.CX P w) 1 (d_Offer_getitem.at_ K) (spx_Offer_getitem K) := by
  obtain ⟨fd, F⟩ := T.says.def_ 24 (d := d_Offer_getitem) rfl
  have nd := sc_Offer_getitem.nd
  refine fnR_of (F.ok (k := 0) sc_Offer_getitem lenx_Offer_getitem (fun cdv A outer s H vs Q E hr h => ⟨tx_Offer_getitem K E, ?_, purex_Offer_getitem (ofK T) h⟩)) (F.bindsN fun _ _ _ _ _ _ us hl => match us, hl with | [_, _], _ => rfl)
  exact (pss_cons (ps_for owns_cx rfl (pi_tup (pe_fld (pv 0) rfl)) (pg_tup rfl (pgs_cons (pg_name (i := 2) nd rfl (Or.inl rfl)) (pgs_cons (pg_name (i := 3) nd rfl (Or.inl rfl)) (pgs_cons (pg_name (i := 4) nd rfl (Or.inl rfl)) pgs_nil)))) (pss_one (ps_if (pt_cmpR op_eq (pv 2) (pv 1) (nomark _)) (pss_one (ps_ret (pe_tup (pa_cl (pa_cons (pv 3) (pa_cons (pv 4) pa_nil)))))) pss_nil)))
    (pss_one (ps_rs rfl tk_cx (pmk_txt (T.exc 28 (x := "UnknownKind") rfl) (T.glo 29 (x := "UnknownKind") rfl) rfl))))
theorem kp_Offer_contains (T : Tx K mg) : PySem.W.keepIn K (.ref (d_Offer_contains.at_ K)) = true := by
  obtain ⟨_, F⟩ := T.says.def_ 25 (d := d_Offer_contains) rfl
  exact F.kp
theorem sc_Offer_contains : FnScope N_Offer_contains ["self", "drinks"] (defScope s_Offer_contains) := ⟨rfl, rfl, rfl, by decide +kernel, rfl, by decide +kernel, by decide +kernel⟩
theorem ok_Offer_contains (T : Tx K mg) : FnR P w K mg base CX0 6 (d_Offer_contains.at_ K) (sp_Offer_contains K) := by
  obtain ⟨fd, F⟩ := T.says.def_ 25 (d := d_Offer_contains) rfl
  have nd := sc_Offer_contains.nd
  refine fnR_of (F.ok (k := 5) sc_Offer_contains len_Offer_contains (fun cdv A outer s H vs Q E hr h => ⟨t_Offer_contains K, PSs.nox ?_, pure_Offer_contains (ofK T) h⟩)) (F.bindsN fun _ _ _ _ _ _ us hl => match us, hl with | [_, _], _ => rfl)
  exact (pss_one (ps_ret (pe_cmpR op_eq (pe_callR (ok_total T) (hr.mono (by decide)) (kp_total T) rfl (T.glo 20 (x := "total") rfl) pass0 (pa_cons (pe_fld (pv 0) rfl) (pa_cons (pe_callR (ok_fewest T) (hr.mono (by decide)) (kp_fewest T) rfl (T.glo 30 (x := "fewest") rfl) pass0 (pa_cons (pe_fld (pv 0) rfl) (pa_cons (pv 1) pa_nil))) pa_nil))) (pv 1) (nomark _))))
theorem kp_Offer_le (T : Tx K mg) : PySem.W.keepIn K (.ref (d_Offer_le.at_ K)) = true := by
  obtain ⟨_, F⟩ := T.says.def_ 26 (d := d_Offer_le) rfl
  exact F.kp
theorem sc_Offer_le : FnScope N_Offer_le ["self", "other"] (defScope s_Offer_le) := ⟨rfl, rfl, rfl, by decide +kernel, rfl, by decide +kernel, by decide +kernel⟩
theorem ok_Offer_le (T : Tx K mg) : FnR P w K mg base CX0 7 (d_Offer_le.at_ K) (sp_Offer_le K) := by
  obtain ⟨fd, F⟩ := T.says.def_ 26 (d := d_Offer_le) rfl
  have nd := sc_Offer_le.nd
  refine fnR_of (F.ok (k := 6) sc_Offer_le len_Offer_le (fun cdv A outer s H vs Q E hr h => ⟨t_Offer_le K, PSs.nox ?_, pure_Offer_le (ofK T) h⟩)) (F.bindsN fun _ _ _ _ _ _ us hl => match us, hl with | [_, _], _ => rfl)
  exact (pss_one (ps_ret (pe_callR (ok_is_never_more T) (hr.mono (by decide)) (kp_is_never_more T) rfl (T.glo 31 (x := "is_never_more") rfl) pass0 (pa_cons (pe_fld (pv 0) rfl) (pa_cons (pe_fld (pv 1) rfl) pa_nil)))))
theorem kp_Offer_lt (T : Tx K mg) : PySem.W.keepIn K (.ref (d_Offer_lt.at_ K)) = true := by
  obtain ⟨_, F⟩ := T.says.def_ 27 (d := d_Offer_lt) rfl
  exact F.kp
theorem sc_Offer_lt : FnScope N_Offer_lt ["self", "other"] (defScope s_Offer_lt) := ⟨rfl, rfl, rfl, by decide +kernel, rfl, by decide +kernel, by decide +kernel⟩
theorem ok_Offer_lt (T : Tx K mg) : FnR P w K mg base CX0 7 (d_Offer_lt.at_ K) (sp_Offer_lt K) := by
  obtain ⟨fd, F⟩ := T.says.def_ 27 (d := d_Offer_lt) rfl
  have nd := sc_Offer_lt.nd
  refine fnR_of (F.ok (k := 6) sc_Offer_lt len_Offer_lt (fun cdv A outer s H vs Q E hr h => ⟨t_Offer_lt K, PSs.nox ?_, pure_Offer_lt (ofK T) h⟩)) (F.bindsN fun _ _ _ _ _ _ us hl => match us, hl with | [_, _], _ => rfl)
  exact (pss_one (ps_ret (pe_and (pe_callR (ok_is_never_more T) (hr.mono (by decide)) (kp_is_never_more T) rfl (T.glo 31 (x := "is_never_more") rfl) pass0 (pa_cons (pe_fld (pv 0) rfl) (pa_cons (pe_fld (pv 1) rfl) pa_nil))) (pe_one (pe_cmpR op_notN1 (pe_callR (ok_first_gap T) (hr.mono (by decide)) (kp_first_gap T) rfl (T.glo 32 (x := "first_gap") rfl) pass0 (pa_cons (pe_fld (pv 0) rfl) (pa_cons (pe_fld (pv 1) rfl) pa_nil))) pe_non (nomark _))))))
theorem kp_Offer_trades_made (T : Tx K mg) : PySem.W.keepIn K (.ref (d_Offer_trades_made.at_ K)) = true := by
  obtain ⟨_, F⟩ := T.says.def_ 28 (d := d_Offer_trades_made) rfl
  exact F.kp
theorem sc_Offer_trades_made : FnScope N_Offer_trades_made ["self", "bottles"] (defScope s_Offer_trades_made) := ⟨rfl, rfl, rfl, by decide +kernel, rfl, by decide +kernel, by decide +kernel⟩
theorem ok_Offer_trades_made (T : Tx K mg) : FnR P w K mg base CX0 6 (d_Offer_trades_made.at_ K) (sp_Offer_trades_made K) := by
  obtain ⟨fd, F⟩ := T.says.def_ 28 (d := d_Offer_trades_made) rfl
  have nd := sc_Offer_trades_made.nd
  refine fnR_of (F.ok (k := 5) sc_Offer_trades_made len_Offer_trades_made (fun cdv A outer s H vs Q E hr h => ⟨t_Offer_trades_made K, PSs.nox ?_, pure_Offer_trades_made (ofK T) h⟩)) (F.bindsN fun _ _ _ _ _ _ us hl => match us, hl with | [_, _], _ => rfl)
  exact (pss_cons (ps_set (i := 2) nd rfl (Or.inr rfl) (pe_CO (pv 0) (T.callO 3 (x := "Offer") rfl) (ok_Offer_call T) (hr.mono (by decide)) pass0 (pa_cons (pv 1) pa_nil)))
    (pss_one (ps_ret (pe_dc (own := [("kind", 3), ("left", 4), ("needed", 5)]) rfl nd (pi_tup (pe_fld (pv 0) rfl)) (blkOk_by (own := [("kind", 3), ("left", 4), ("needed", 5)]) (N := N_Offer_trades_made) (sc := defScope s_Offer_trades_made) (by decide +kernel)) (fun _ _ _ _ _ => (pg_tup rfl (pgs_cons (pg_name (i := 3) nd rfl (Or.inl rfl)) (pgs_cons (pg_name (i := 4) nd rfl (Or.inl rfl)) (pgs_cons (pg_name (i := 5) nd rfl (Or.inl rfl)) pgs_nil))))) (fun _ _ _ _ _ => pts_nil) (fun _ _ _ _ _ => (pv 3)) (fun _ _ _ _ _ => (pe_op o_fd (pe_op o_mul (pv 4) (pv 2)) (pv 5)))))))
theorem kp_Offer_left_over (T : Tx K mg) : PySem.W.keepIn K (.ref (d_Offer_left_over.at_ K)) = true := by
  obtain ⟨_, F⟩ := T.says.def_ 29 (d := d_Offer_left_over) rfl
  exact F.kp
theorem sc_Offer_left_over : FnScope N_Offer_left_over ["self", "bottles"] (defScope s_Offer_left_over) := ⟨rfl, rfl, rfl, by decide +kernel, rfl, by decide +kernel, by decide +kernel⟩
theorem ok_Offer_left_over (T : Tx K mg) : FnR P w K mg base CX0 6 (d_Offer_left_over.at_ K) (sp_Offer_left_over K) := by
  obtain ⟨fd, F⟩ := T.says.def_ 29 (d := d_Offer_left_over) rfl
  have nd := sc_Offer_left_over.nd
  refine fnR_of (F.ok (k := 5) sc_Offer_left_over len_Offer_left_over (fun cdv A outer s H vs Q E hr h => ⟨t_Offer_left_over K, PSs.nox ?_, pure_Offer_left_over (ofK T) h⟩)) (F.bindsN fun _ _ _ _ _ _ us hl => match us, hl with | [_, _], _ => rfl)
  exact (pss_cons (ps_set (i := 2) nd rfl (Or.inr rfl) (pe_CO (pv 0) (T.callO 3 (x := "Offer") rfl) (ok_Offer_call T) (hr.mono (by decide)) pass0 (pa_cons (pv 1) pa_nil)))
    (pss_one (ps_ret (pe_dc (own := [("kind", 3), ("left", 4), ("needed", 5)]) rfl nd (pi_tup (pe_fld (pv 0) rfl)) (blkOk_by (own := [("kind", 3), ("left", 4), ("needed", 5)]) (N := N_Offer_left_over) (sc := defScope s_Offer_left_over) (by decide +kernel)) (fun _ _ _ _ _ => (pg_tup rfl (pgs_cons (pg_name (i := 3) nd rfl (Or.inl rfl)) (pgs_cons (pg_name (i := 4) nd rfl (Or.inl rfl)) (pgs_cons (pg_name (i := 5) nd rfl (Or.inl rfl)) pgs_nil))))) (fun _ _ _ _ _ => pts_nil) (fun _ _ _ _ _ => (pv 3)) (fun _ _ _ _ _ => (pe_op o_mod (pe_callTy c_int rfl (T.fre 0 (x := "int") rfl) (by decide +kernel) (pa_cons (pe_op o_mul (pv 4) (pv 2)) pa_nil)) (pv 5)))))))
theorem kp_Offer_rounds (T : Tx K mg) : PySem.W.keepIn K (.ref (d_Offer_rounds.at_ K)) = true := by
  obtain ⟨_, F⟩ := T.says.def_ 30 (d := d_Offer_rounds) rfl
  exact F.kp
theorem sc_Offer_rounds : GScope N_Offer_rounds ["self", "bottles"] (defScope s_Offer_rounds) := ⟨rfl, rfl, rfl, by decide +kernel, rfl, by decide +kernel, by decide +kernel⟩
theorem gk_Offer_rounds (T : Tx K mg) : ∃ fd, GFn P w K mg base 2 (d_Offer_rounds.at_ K) fd ["self", "bottles"] (sp_Offer_rounds K) ∧ Binds K fd ["self", "bottles"] [] := by
  obtain ⟨fd, F⟩ := T.says.def_ 30 (d := d_Offer_rounds) rfl
  have nd := sc_Offer_rounds.nd
  have b : Binds K fd ["self", "bottles"] [] := F.bindsN fun _ _ _ _ _ _ us hl => match us, hl with | [_, _], _ => rfl
  obtain ⟨oc, od, dV, kV, doc, pm, an, cdv, ct, osl, rfl, lk, hcd, _, _⟩ := F.ex
  refine ⟨_, gfn_of (k := 1) lk hcd sc_Offer_rounds len_Offer_rounds fun A outer s H vs Q E pn hr h => ⟨t_Offer_rounds K, ?_, pure_Offer_rounds (ofK T) h⟩, b⟩
  exact (gss_cons (gs_ps (ps_expr (pe_callR (ok_validate_number T) (hr.mono (by decide)) (kp_validate_number T) rfl (T.glo 22 (x := "validate_number") rfl) pass0 (pa_cons (pv 1) (pa_cons pe_int (pa_cons (pe_glob rfl (T.int 21 (x := "MAX_BOTTLES") (i := 1000000000000000000) rfl).choose_spec ⟨_, rfl⟩) pa_nil))))))
    (gss_cons (gs_ps (ps_par rfl nd (i := 2) (j := 3) rfl rfl (by decide) rfl rfl (pa_cons pe_int (pa_cons (pv 1) pa_nil)) rfl))
    (gss_cons (gs_while owns_gcx (pt_cmpR o_gt (pv 3) pe_int (nomark _)) (gss_cons (gs_yield (pv 3))
    (gss_cons (gs_ps (ps_par rfl nd (i := 4) (j := 2) rfl rfl (by decide) rfl rfl (pa_cons (pe_callR (ok_bought T) (hr.mono (by decide)) (kp_bought T) rfl (T.glo 3 (x := "bought") rfl) pass0 (pa_cons (pe_fld (pv 0) rfl) (pa_cons (pv 2) pa_nil))) (pa_cons (pe_op o_add (pv 2) (pv 3)) pa_nil)) rfl))
    (gss_cons (gs_ps (ps_set (i := 3) nd rfl (Or.inl rfl) (pe_op o_sub (pe_callR (ok_bought T) (hr.mono (by decide)) (kp_bought T) rfl (T.glo 3 (x := "bought") rfl) pass0 (pa_cons (pe_fld (pv 0) rfl) (pa_cons (pv 2) pa_nil))) (pv 4))))
    gss_nil))))
    gss_nil)))
theorem kp_Offer_credit (T : Tx K mg) : PySem.W.keepIn K (.ref (d_Offer_credit.at_ K)) = true := by
  obtain ⟨_, F⟩ := T.says.def_ 31 (d := d_Offer_credit) rfl
  exact F.kp
theorem sc_Offer_credit : FnScope N_Offer_credit ["self", "bottles"] (defScope s_Offer_credit) := ⟨rfl, rfl, rfl, by decide +kernel, rfl, by decide +kernel, by decide +kernel⟩
theorem ok_Offer_credit (T : Tx K mg) : FnR P w K mg base CX0 5 (d_Offer_credit.at_ K) (sp_Offer_credit K) := by
  obtain ⟨fd, F⟩ := T.says.def_ 31 (d := d_Offer_credit) rfl
  have nd := sc_Offer_credit.nd
  refine fnR_of (F.ok (k := 4) sc_Offer_credit len_Offer_credit (fun cdv A outer s H vs Q E hr h => ⟨t_Offer_credit K, PSs.nox ?_, pure_Offer_credit (ofK T) h⟩)) (F.bindsN fun _ _ _ _ _ _ us hl => match us, hl with | [_, _], _ => rfl)
  exact (pss_cons (ps_expr (pe_callR (ok_validate_number T) (hr.mono (by decide)) (kp_validate_number T) rfl (T.glo 22 (x := "validate_number") rfl) pass0 (pa_cons (pv 1) (pa_cons pe_int (pa_cons (pe_glob rfl (T.int 21 (x := "MAX_BOTTLES") (i := 1000000000000000000) rfl).choose_spec ⟨_, rfl⟩) pa_nil)))))
    (pss_one (ps_ret (pe_callR (ok_with_credit T) (hr.mono (by decide)) (kp_with_credit T) rfl (T.glo 33 (x := "with_credit") rfl) pass0 (pa_cons (pe_fld (pv 0) rfl) (pa_cons (pv 1) pa_nil))))))
theorem kp_Offer_fewest_bottles (T : Tx K mg) : PySem.W.keepIn K (.ref (d_Offer_fewest_bottles.at_ K)) = true := by
  obtain ⟨_, F⟩ := T.says.def_ 32 (d := d_Offer_fewest_bottles) rfl
  exact F.kp
theorem sc_Offer_fewest_bottles : FnScope N_Offer_fewest_bottles ["self", "drinks"] (defScope s_Offer_fewest_bottles) := ⟨rfl, rfl, rfl, by decide +kernel, rfl, by decide +kernel, by decide +kernel⟩
theorem ok_Offer_fewest_bottles (T : Tx K mg) : FnR P w K mg base CX0 6 (d_Offer_fewest_bottles.at_ K) (sp_Offer_fewest_bottles K) := by
  obtain ⟨fd, F⟩ := T.says.def_ 32 (d := d_Offer_fewest_bottles) rfl
  have nd := sc_Offer_fewest_bottles.nd
  refine fnR_of (F.ok (k := 5) sc_Offer_fewest_bottles len_Offer_fewest_bottles (fun cdv A outer s H vs Q E hr h => ⟨t_Offer_fewest_bottles K, PSs.nox ?_, pure_Offer_fewest_bottles (ofK T) h⟩)) (F.bindsN fun _ _ _ _ _ _ us hl => match us, hl with | [_, _], _ => rfl)
  exact (pss_cons (ps_expr (pe_callR (ok_validate_number T) (hr.mono (by decide)) (kp_validate_number T) rfl (T.glo 22 (x := "validate_number") rfl) pass0 (pa_cons (pv 1) (pa_cons pe_int (pa_cons (pe_glob rfl (T.int 21 (x := "MAX_BOTTLES") (i := 1000000000000000000) rfl).choose_spec ⟨_, rfl⟩) pa_nil)))))
    (pss_one (ps_ret (pe_callR (ok_fewest T) (hr.mono (by decide)) (kp_fewest T) rfl (T.glo 30 (x := "fewest") rfl) pass0 (pa_cons (pe_fld (pv 0) rfl) (pa_cons (pv 1) pa_nil))))))
theorem kp_Offer_missing (T : Tx K mg) : PySem.W.keepIn K (.ref (d_Offer_missing.at_ K)) = true := by
  obtain ⟨_, F⟩ := T.says.def_ 33 (d := d_Offer_missing) rfl
  exact F.kp
theorem sc_Offer_missing : GScope N_Offer_missing ["self", "first", "last"] (defScope s_Offer_missing) := ⟨rfl, rfl, rfl, by decide +kernel, rfl, by decide +kernel, by decide +kernel⟩
theorem gk_Offer_missing (T : Tx K mg) : ∃ fd, GFn P w K mg base 6 (d_Offer_missing.at_ K) fd ["self", "first", "last"] (sp_Offer_missing K) ∧ Binds K fd ["self", "first", "last"] [] := by
  obtain ⟨fd, F⟩ := T.says.def_ 33 (d := d_Offer_missing) rfl
  have nd := sc_Offer_missing.nd
  have b : Binds K fd ["self", "first", "last"] [] := F.bindsN fun _ _ _ _ _ _ us hl => match us, hl with | [_, _, _], _ => rfl
  obtain ⟨oc, od, dV, kV, doc, pm, an, cdv, ct, osl, rfl, lk, hcd, _, _⟩ := F.ex
  refine ⟨_, gfn_of (k := 5) lk hcd sc_Offer_missing len_Offer_missing fun A outer s H vs Q E pn hr h => ⟨t_Offer_missing K, ?_, pure_Offer_missing (ofK T) h⟩, b⟩
  exact (gss_cons (gs_ps (ps_expr (pe_callR (ok_validate_number T) (hr.mono (by decide)) (kp_validate_number T) rfl (T.glo 22 (x := "validate_number") rfl) pass0 (pa_cons (pv 1) (pa_cons pe_int (pa_cons (pe_glob rfl (T.int 21 (x := "MAX_BOTTLES") (i := 1000000000000000000) rfl).choose_spec ⟨_, rfl⟩) pa_nil))))))
    (gss_cons (gs_ps (ps_set (i := 3) nd rfl (Or.inl rfl) (pe_op o_sub (pe_op o_add (pv 1) (pe_glob rfl (T.int 34 (x := "MAX_LISTED") (i := 10000) rfl).choose_spec ⟨_, rfl⟩)) pe_int)))
    (gss_cons (gs_ps (ps_expr (pe_callR (ok_validate_number T) (hr.mono (by decide)) (kp_validate_number T) rfl (T.glo 22 (x := "validate_number") rfl) pass0 (pa_cons (pv 2) (pa_cons (pv 1) (pa_cons (pe_ifExp (pt_cmpR o_lt (pv 3) (pe_glob rfl (T.int 21 (x := "MAX_BOTTLES") (i := 1000000000000000000) rfl).choose_spec ⟨_, rfl⟩) (nomark _)) (pv 3) (pe_glob rfl (T.int 21 (x := "MAX_BOTTLES") (i := 1000000000000000000) rfl).choose_spec ⟨_, rfl⟩)) pa_nil))))))
    (gss_cons (gs_ps (ps_set (i := 4) nd rfl (Or.inl rfl) (pe_callR (ok_fewest T) (hr.mono (by decide)) (kp_fewest T) rfl (T.glo 30 (x := "fewest") rfl) pass0 (pa_cons (pe_fld (pv 0) rfl) (pa_cons (pv 1) pa_nil)))))
    (gss_cons (gs_for owns_gcx rfl (pi_range2 rfl (T.fre 24 (x := "range") rfl) (pa_cons (pv 1) (pa_cons (pe_op o_add (pv 2) pe_int) pa_nil))) (pg_name (i := 5) nd rfl (Or.inl rfl)) (gss_cons (gs_if (pt_cmpR op_eq (pe_callR (ok_total T) (hr.mono (by decide)) (kp_total T) rfl (T.glo 20 (x := "total") rfl) pass0 (pa_cons (pe_fld (pv 0) rfl) (pa_cons (pv 4) pa_nil))) (pv 5) (nomark _)) (gss_cons (gs_ps (ps_aug (i := 4) nd rfl (Or.inl rfl) pe_int ip_add))
    gss_nil) (gss_cons (gs_yield (pv 5))
    gss_nil))
    gss_nil))
    gss_nil)))))
theorem kp_Offer_count_up_to (T : Tx K mg) : PySem.W.keepIn K (.ref (d_Offer_count_up_to.at_ K)) = true := by
  obtain ⟨_, F⟩ := T.says.def_ 34 (d := d_Offer_count_up_to) rfl
  exact F.kp
theorem sc_Offer_count_up_to : FnScope N_Offer_count_up_to ["self", "last"] (defScope s_Offer_count_up_to) := ⟨rfl, rfl, rfl, by decide +kernel, rfl, by decide +kernel, by decide +kernel⟩
theorem ok_Offer_count_up_to (T : Tx K mg) : FnR P w K mg base CX0 6 (d_Offer_count_up_to.at_ K) (sp_Offer_count_up_to K) := by
  obtain ⟨fd, F⟩ := T.says.def_ 34 (d := d_Offer_count_up_to) rfl
  have nd := sc_Offer_count_up_to.nd
  refine fnR_of (F.ok (k := 5) sc_Offer_count_up_to len_Offer_count_up_to (fun cdv A outer s H vs Q E hr h => ⟨t_Offer_count_up_to K, PSs.nox ?_, pure_Offer_count_up_to (ofK T) h⟩)) (F.bindsN fun _ _ _ _ _ _ us hl => match us, hl with | [_, _], _ => rfl)
  exact (pss_one (ps_ret (pe_op o_sub (pe_op o_add (pv 1) pe_int) (pe_callR (ok_fewest T) (hr.mono (by decide)) (kp_fewest T) rfl (T.glo 30 (x := "fewest") rfl) pass0 (pa_cons (pe_fld (pv 0) rfl) (pa_cons (pe_op o_add (pv 1) pe_int) pa_nil))))))
theorem kp_Offer_count_missing (T : Tx K mg) : PySem.W.keepIn K (.ref (d_Offer_count_missing.at_ K)) = true := by
  obtain ⟨_, F⟩ := T.says.def_ 35 (d := d_Offer_count_missing) rfl
  exact F.kp
theorem sc_Offer_count_missing : FnScope N_Offer_count_missing ["self", "last"] (defScope s_Offer_count_missing) := ⟨rfl, rfl, rfl, by decide +kernel, rfl, by decide +kernel, by decide +kernel⟩
theorem ok_Offer_count_missing (T : Tx K mg) : FnR P w K mg base CX0 7 (d_Offer_count_missing.at_ K) (sp_Offer_count_missing K) := by
  obtain ⟨fd, F⟩ := T.says.def_ 35 (d := d_Offer_count_missing) rfl
  have nd := sc_Offer_count_missing.nd
  refine fnR_of (F.ok (k := 6) sc_Offer_count_missing len_Offer_count_missing (fun cdv A outer s H vs Q E hr h => ⟨t_Offer_count_missing K, PSs.nox ?_, pure_Offer_count_missing h⟩)) (F.bindsN fun _ _ _ _ _ _ us hl => match us, hl with | [_, _], _ => rfl)
  exact (pss_cons (ps_expr (pe_callR (ok_validate_number T) (hr.mono (by decide)) (kp_validate_number T) rfl (T.glo 22 (x := "validate_number") rfl) pass0 (pa_cons (pv 1) (pa_cons pe_int (pa_cons (pe_glob rfl (T.int 21 (x := "MAX_BOTTLES") (i := 1000000000000000000) rfl).choose_spec ⟨_, rfl⟩) pa_nil)))))
    (pss_one (ps_ret (pe_methR (pv 0) (T.cls 36 (x := "Offer") rfl) (T.meth 35 (x := "Offer") (m := "count_up_to") rfl) (ok_Offer_count_up_to T) (hr.mono (by decide)) pass0 (pa_cons (pv 1) pa_nil)))))
theorem kp_Offer_nth_missing (T : Tx K mg) : PySem.W.keepIn K (.ref (d_Offer_nth_missing.at_ K)) = true := by
  obtain ⟨_, F⟩ := T.says.def_ 36 (d := d_Offer_nth_missing) rfl
  exact F.kp
theorem sc_Offer_nth_missing : FnScope N_Offer_nth_missing ["self", "number"] (defScope s_Offer_nth_missing) := ⟨rfl, rfl, rfl, by decide +kernel, rfl, by decide +kernel, by decide +kernel⟩
theorem ok_Offer_nth_missing (T : Tx K mg) : FnR P w K mg base CX0 7 (d_Offer_nth_missing.at_ K) (sp_Offer_nth_missing K) := by
  obtain ⟨fd, F⟩ := T.says.def_ 36 (d := d_Offer_nth_missing) rfl
  have nd := sc_Offer_nth_missing.nd
  refine fnR_of (F.ok (k := 6) sc_Offer_nth_missing len_Offer_nth_missing (fun cdv A outer s H vs Q E hr h => ⟨t_Offer_nth_missing K, PSs.nox ?_, pure_Offer_nth_missing h⟩)) (F.bindsN fun _ _ _ _ _ _ us hl => match us, hl with | [_, _], _ => rfl)
  exact (pss_cons (ps_expr (pe_callR (ok_validate_number T) (hr.mono (by decide)) (kp_validate_number T) rfl (T.glo 22 (x := "validate_number") rfl) pass0 (pa_cons (pv 1) (pa_cons pe_int (pa_cons (pe_glob rfl (T.int 21 (x := "MAX_BOTTLES") (i := 1000000000000000000) rfl).choose_spec ⟨_, rfl⟩) pa_nil)))))
    (pss_cons (ps_if (pt_not (pt_own (pv 0) (T.own 4 (x := "Offer") (m := "__bool__") rfl) (ok_Offer_bool T) (hr.mono (by decide)) pass0)) (pss_one (ps_ret pe_non)) pss_nil)
    (pss_cons (ps_set (i := 2) nd rfl (Or.inl rfl) pe_int)
    (pss_cons (ps_while PassesOwn.never (pt_cmpR o_lt (pe_methR (pv 0) (T.cls 36 (x := "Offer") rfl) (T.meth 35 (x := "Offer") (m := "count_up_to") rfl) (ok_Offer_count_up_to T) (hr.mono (by decide)) pass0 (pa_cons (pv 2) pa_nil)) (pv 1) (nomark _)) (pss_one (ps_aug (i := 2) nd rfl (Or.inl rfl) pe_int ip_mul)))
    (pss_cons (ps_set (i := 3) nd rfl (Or.inl rfl) pe_int)
    (pss_cons (ps_while PassesOwn.never (pt_cmpR o_lt (pv 3) (pv 2) (nomark _)) (pss_cons (ps_set (i := 4) nd rfl (Or.inl rfl) (pe_op o_fd (pe_op o_add (pv 3) (pv 2)) pe_int))
    (pss_one (ps_if (pt_cmpR o_ge (pe_methR (pv 0) (T.cls 36 (x := "Offer") rfl) (T.meth 35 (x := "Offer") (m := "count_up_to") rfl) (ok_Offer_count_up_to T) (hr.mono (by decide)) pass0 (pa_cons (pv 4) pa_nil)) (pv 1) (nomark _)) (pss_one (ps_set (i := 2) nd rfl (Or.inl rfl) (pv 4))) (pss_one (ps_set (i := 3) nd rfl (Or.inl rfl) (pe_op o_add (pv 4) pe_int)))))))
    (pss_one (ps_ret (pv 3)))))))))
theorem kp_Offer_pooled (T : Tx K mg) : PySem.W.keepIn K (.ref (d_Offer_pooled.at_ K)) = true := by
  obtain ⟨_, F⟩ := T.says.def_ 37 (d := d_Offer_pooled) rfl
  exact F.kp
theorem sc_Offer_pooled : FnScope N_Offer_pooled ["self", "counts"] (defScope s_Offer_pooled) := ⟨rfl, rfl, rfl, by decide +kernel, rfl, by decide +kernel, by decide +kernel⟩
theorem ok_Offer_pooled (T : Tx K mg) : FnR P w K mg base CX0 6 (d_Offer_pooled.at_ K) (sp_Offer_pooled K) := by
  obtain ⟨fd, F⟩ := T.says.def_ 37 (d := d_Offer_pooled) rfl
  have nd := sc_Offer_pooled.nd
  refine FnR.imp (fnR_star1 (k := 5) (spi := spi_Offer_pooled K) F sc_Offer_pooled (fun cdv A outer s H vs Q E hr h => ⟨t_Offer_pooled K, PSs.nox ?_, pure_Offer_pooled (ofK T) h⟩) ?_ ?_) (out_Offer_pooled K)
  · exact (pss_cons (ps_for PassesOwn.never rfl (pi_tup (pv 1)) (pg_name (i := 2) nd rfl (Or.inl rfl)) (pss_one (ps_expr (pe_callR (ok_validate_number T) (hr.mono (by decide)) (kp_validate_number T) rfl (T.glo 22 (x := "validate_number") rfl) pass0 (pa_cons (pv 2) (pa_cons pe_int (pa_cons (pe_glob rfl (T.int 21 (x := "MAX_BOTTLES") (i := 1000000000000000000) rfl).choose_spec ⟨_, rfl⟩) pa_nil)))))))
    (pss_one (ps_ret (pe_op o_sub (pe_CO (pv 0) (T.callO 3 (x := "Offer") rfl) (ok_Offer_call T) (hr.mono (by decide)) pass0 (pa_cons (pe_callB (c_sumT rfl) rfl (T.fre 2 (x := "sum") rfl) (by decide +kernel) (pa_cons (pv 1) pa_nil)) pa_nil)) (pe_callB (cr_sum rfl) rfl (T.fre 2 (x := "sum") rfl) (by decide +kernel) (pa_cons (pe_lc (own := [("count", 2)]) rfl nd (pi_tup (pv 1)) (blkOk_by (own := [("count", 2)]) (N := N_Offer_pooled) (sc := defScope s_Offer_pooled) (by decide +kernel)) (fun _ _ _ _ _ => (pg_name (i := 2) nd rfl (Or.inl rfl))) (fun _ _ _ _ _ => pts_nil) (fun _ _ _ _ _ => (pe_CO (pv 0) (T.callO 3 (x := "Offer") rfl) (ok_Offer_call T) (hr.mono (by decide)) pass0 (pa_cons (pv 2) pa_nil)))) pa_nil))))))
  · intros; rfl
  · intros; rfl
theorem kp_BottleObserver_init (T : Tx K mg) : PySem.W.keepIn K (.ref (d_BottleObserver_init.at_ K)) = true := by
  obtain ⟨_, F⟩ := T.says.def_ 38 (d := d_BottleObserver_init) rfl
  exact F.kp
theorem sc_BottleObserver_init : FnScope N_BottleObserver_init ["self", "offer"] (defScope s_BottleObserver_init) := ⟨rfl, rfl, rfl, by decide +kernel, rfl, by decide +kernel, by decide +kernel⟩
theorem ok_BottleObserver_init (T : Tx K mg) : FnR P w K mg base CX0 5 (d_BottleObserver_init.at_ K) (sp_BottleObserver_init K) := by
  obtain ⟨fd, F⟩ := T.says.def_ 38 (d := d_BottleObserver_init) rfl
  have nd := sc_BottleObserver_init.nd
  refine fnR_of (F.ok (k := 4) sc_BottleObserver_init len_BottleObserver_init (fun cdv A outer s H vs Q E hr h => ⟨t_BottleObserver_init K, PSs.nox ?_, pure_BottleObserver_init (ofO T) h⟩)) (F.bindsN fun _ _ _ _ _ _ us hl => match us, hl with | [_, _], _ => rfl)
  exact (pss_cons (ps_fld (pv 0) (pv 1) rfl)
    (pss_cons (ps_fld (pv 0) (pe_callR (ok_steady_begin T) (hr.mono (by decide)) (kp_steady_begin T) rfl (T.glo 23 (x := "steady_begin") rfl) pass0 (pa_cons (pe_prop (pv 1) (T.cls 36 (x := "Offer") rfl) (T.prop 5 (x := "Offer") (f := "trades") rfl) (pk_Offer_trades T).choose_spec.1 (hr.mono (by decide)) (pk_Offer_trades T).choose_spec.2 .nil pass0 rfl) pa_nil)) rfl)
    (pss_cons (ps_fld (pv 0) (pe_callR (ok_common_multiple T) (hr.mono (by decide)) (kp_common_multiple T) rfl (T.glo 4 (x := "common_multiple") rfl) pass0 (pa_cons (pe_ix ix_tup (pe_callR (ok_period_of T) (hr.mono (by decide)) (kp_period_of T) rfl (T.glo 6 (x := "period_of") rfl) pass0 (pa_cons (pe_prop (pv 1) (T.cls 36 (x := "Offer") rfl) (T.prop 5 (x := "Offer") (f := "trades") rfl) (pk_Offer_trades T).choose_spec.1 (hr.mono (by decide)) (pk_Offer_trades T).choose_spec.2 .nil pass0 rfl) pa_nil)) pe_int (fun _ _ => rfl)) (pa_cons (pe_op o_mul pe_int (pe_callR (ok_needed_multiple T) (hr.mono (by decide)) (kp_needed_multiple T) rfl (T.glo 17 (x := "needed_multiple") rfl) pass0 (pa_cons (pe_prop (pv 1) (T.cls 36 (x := "Offer") rfl) (T.prop 5 (x := "Offer") (f := "trades") rfl) (pk_Offer_trades T).choose_spec.1 (hr.mono (by decide)) (pk_Offer_trades T).choose_spec.2 .nil pass0 rfl) pa_nil))) pa_nil))) rfl)
    (pss_cons (ps_fld (pv 0) (pe_listRg rfl rfl (T.fre 39 (x := "list") rfl) (prg_1 rfl (T.fre 24 (x := "range") rfl) (pe_fld (pv 0) rfl))) rfl)
    (pss_cons (ps_fld (pv 0) (pe_listRg rfl rfl (T.fre 39 (x := "list") rfl) (prg_1 rfl (T.fre 24 (x := "range") rfl) (pe_fld (pv 0) rfl))) rfl)
    (pss_one (ps_fld (pv 0) (pe_lst (pa_cl pa_nil)) rfl)))))))
theorem kp_BottleObserver_records (T : Tx K mg) : PySem.W.keepIn K (.ref (d_BottleObserver_records.at_ K)) = true := by
  obtain ⟨_, F⟩ := T.says.def_ 39 (d := d_BottleObserver_records) rfl
  exact F.kp
theorem sc_BottleObserver_records : FnScope N_BottleObserver_records ["self"] (defScope s_BottleObserver_records) := ⟨rfl, rfl, rfl, by decide +kernel, rfl, by decide +kernel, by decide +kernel⟩
theorem pk_BottleObserver_records (T : Tx K mg) : ∃ fd, FnOk P w K mg base CX0 1 (d_BottleObserver_records.at_ K) fd ["self"] (sp_BottleObserver_records K) ∧ Binds K fd ["self"] [] := by
  obtain ⟨fd, F⟩ := T.says.def_ 39 (d := d_BottleObserver_records) rfl
  have nd := sc_BottleObserver_records.nd
  refine ⟨fd, F.ok (k := 0) sc_BottleObserver_records len_BottleObserver_records (fun cdv A outer s H vs Q E hr h => ⟨t_BottleObserver_records K, PSs.nox ?_, pure_BottleObserver_records (ofO T) h⟩), F.bindsN fun _ _ _ _ _ _ us hl => match us, hl with | [_], _ => rfl⟩
  exact (pss_one (ps_ret (pe_callTy c_listO rfl (T.fre 39 (x := "list") rfl) (by decide +kernel) (pa_cons (pe_fld (pv 0) rfl) pa_nil))))
theorem kp_BottleObserver_count_in (T : Tx K mg) : PySem.W.keepIn K (.ref (d_BottleObserver_count_in.at_ K)) = true := by
  obtain ⟨_, F⟩ := T.says.def_ 40 (d := d_BottleObserver_count_in) rfl
  exact F.kp
theorem sc_BottleObserver_count_in : FnScope N_BottleObserver_count_in ["self", "early", "places", "last"] (defScope s_BottleObserver_count_in) := ⟨rfl, rfl, rfl, by decide +kernel, rfl, by decide +kernel, by decide +kernel⟩
theorem ok_BottleObserver_count_in (T : Tx K mg) : FnR P w K mg base CX0 1 (d_BottleObserver_count_in.at_ K) (sp_BottleObserver_count_in K) := by
  obtain ⟨fd, F⟩ := T.says.def_ 40 (d := d_BottleObserver_count_in) rfl
  have nd := sc_BottleObserver_count_in.nd
  refine fnR_of (F.ok (k := 0) sc_BottleObserver_count_in len_BottleObserver_count_in (fun cdv A outer s H vs Q E hr h => ⟨t_BottleObserver_count_in K, PSs.nox ?_, pure_BottleObserver_count_in (ofO T) h⟩)) (F.bindsN fun _ _ _ _ _ _ us hl => match us, hl with | [_, _, _, _], _ => rfl)
  exact (pss_cons (ps_set (i := 4) nd rfl (Or.inl rfl) (pe_callB c_len rfl (T.fre 7 (x := "len") rfl) (by decide +kernel) (pa_cons (pe_lc (own := [("number", 7)]) rfl nd (pi_list (pv 1)) (blkOk_by (own := [("number", 7)]) (N := N_BottleObserver_count_in) (sc := defScope s_BottleObserver_count_in) (by decide +kernel)) (fun _ _ _ _ _ => (pg_name (i := 7) nd rfl (Or.inl rfl))) (fun _ _ _ _ _ => (pts_one (pt_cmpR o_le (pv 7) (pv 3) (nomark _)))) (fun _ _ _ _ _ => (pv 7))) pa_nil)))
    (pss_cons (ps_if (pt_cmpR o_lt (pv 3) (pe_fld (pv 0) rfl) (nomark _)) (pss_one (ps_ret (pv 4))) pss_nil)
    (pss_cons (ps_set (i := 5) nd rfl (Or.inr rfl) (pe_op o_mod (pe_callTy c_int rfl (T.fre 0 (x := "int") rfl) (by decide +kernel) (pa_cons (pe_op o_sub (pv 3) (pe_fld (pv 0) rfl)) pa_nil)) (pe_fld (pv 0) rfl)))
    (pss_cons (ps_set (i := 6) nd rfl (Or.inl rfl) (pe_op o_fd (pe_op o_sub (pv 3) (pe_fld (pv 0) rfl)) (pe_fld (pv 0) rfl)))
    (pss_one (ps_ret (pe_op o_add (pe_op o_add (pv 4) (pe_op o_mul (pv 6) (pe_callB c_len rfl (T.fre 7 (x := "len") rfl) (by decide +kernel) (pa_cons (pv 2) pa_nil)))) (pe_callB c_len rfl (T.fre 7 (x := "len") rfl) (by decide +kernel) (pa_cons (pe_lc (own := [("place", 8)]) rfl nd (pi_list (pv 2)) (blkOk_by (own := [("place", 8)]) (N := N_BottleObserver_count_in) (sc := defScope s_BottleObserver_count_in) (by decide +kernel)) (fun _ _ _ _ _ => (pg_name (i := 8) nd rfl (Or.inl rfl))) (fun _ _ _ _ _ => (pts_one (pt_cmpR o_le (pv 8) (pv 5) (nomark _)))) (fun _ _ _ _ _ => (pv 8))) pa_nil)))))))))
theorem kp_BottleObserver_note (T : Tx K mg) : PySem.W.keepIn K (.ref (d_BottleObserver_note.at_ K)) = true := by
  obtain ⟨_, F⟩ := T.says.def_ 41 (d := d_BottleObserver_note) rfl
  exact F.kp
theorem sc_BottleObserver_note : FnScope N_BottleObserver_note ["self", "record", "early", "places"] (defScope s_BottleObserver_note) := ⟨rfl, rfl, rfl, by decide +kernel, rfl, by decide +kernel, by decide +kernel⟩
theorem okx_BottleObserver_note (T : Tx K mg) : FnR P w K mg base (L2.CX P w) 2 (d_BottleObserver_note.at_ K) (spx_BottleObserver_note K) := by
  obtain ⟨fd, F⟩ := T.says.def_ 41 (d := d_BottleObserver_note) rfl
  have nd := sc_BottleObserver_note.nd
  refine fnR_of (F.ok (k := 1) sc_BottleObserver_note lenx_BottleObserver_note (fun cdv A outer s H vs Q E hr h => ⟨tx_BottleObserver_note K E, ?_, purex_BottleObserver_note (ofO T) h⟩)) (F.bindsN fun _ _ _ _ _ _ us hl => match us, hl with | [_, _, _, _], _ => rfl)
  exact (pss_cons (ps_set (i := 4) nd rfl (Or.inl rfl) (pe_methR (pv 0) (T.cls 45 (x := "BottleObserver") rfl) (T.meth 44 (x := "BottleObserver") (m := "count_in") rfl) (ok_BottleObserver_count_in T) (hr.mono (by decide)) pass0 (pa_cons (pv 2) (pa_cons (pv 3) (pa_cons (pe_glob rfl (T.int 21 (x := "MAX_BOTTLES") (i := 1000000000000000000) rfl).choose_spec ⟨_, rfl⟩) pa_nil)))))
    (pss_cons (ps_if (pt_cmpR op_eq (pv 4) pe_int (nomark _)) (pss_one (ps_rs rfl tk_cx (pmk_txt (T.exc 46 (x := "Contradiction") rfl) (T.glo 47 (x := "Contradiction") rfl) rfl))) pss_nil)
    (pss_cons (ps_fld (pv 0) (pv 2) rfl)
    (pss_cons (ps_fld (pv 0) (pv 3) rfl)
    (pss_cons (ps_fld (pv 0) (pe_op op_cat (pe_fld (pv 0) rfl) (pe_lst (pa_cl (pa_cons (pv 1) pa_nil)))) rfl)
    (pss_one (ps_ret (pv 4))))))))
theorem kp_BottleObserver_see_left (T : Tx K mg) : PySem.W.keepIn K (.ref (d_BottleObserver_see_left.at_ K)) = true := by
  obtain ⟨_, F⟩ := T.says.def_ 42 (d := d_BottleObserver_see_left) rfl
  exact F.kp
theorem sc_BottleObserver_see_left : FnScope N_BottleObserver_see_left ["self", "kind", "count"] (defScope s_BottleObserver_see_left) := ⟨rfl, rfl, rfl, by decide +kernel, rfl, by decide +kernel, by decide +kernel⟩
theorem okx_BottleObserver_see_left (T : Tx K mg) : FnR P w K mg base (L2.CX P w) 5 (d_BottleObserver_see_left.at_ K) (spx_BottleObserver_see_left K) := by
  obtain ⟨fd, F⟩ := T.says.def_ 42 (d := d_BottleObserver_see_left) rfl
  have nd := sc_BottleObserver_see_left.nd
  refine fnR_of (F.ok (k := 4) sc_BottleObserver_see_left lenx_BottleObserver_see_left (fun cdv A outer s H vs Q E hr h => ⟨tx_BottleObserver_see_left K E, ?_, purex_BottleObserver_see_left (ofO T) h⟩)) (F.bindsN fun _ _ _ _ _ _ us hl => match us, hl with | [_, _, _], _ => rfl)
  exact (pss_cons (ps_if (pt_cmpR op_notIn_seq (pv 1) (pe_prop (pe_fld (pv 0) rfl) (T.cls 36 (x := "Offer") rfl) (T.prop 7 (x := "Offer") (f := "kinds") rfl) (pk_Offer_kinds T).choose_spec.1 (hr.mono (by decide)) (pk_Offer_kinds T).choose_spec.2 .nil pass0 rfl) rfl) (pss_one (ps_rs rfl tk_cx (pmk_txt (T.exc 28 (x := "UnknownKind") rfl) (T.glo 29 (x := "UnknownKind") rfl) rfl))) pss_nil)
    (pss_cons (ps_asg (pe_ixO (T.own 6 (x := "Offer") (m := "__getitem__") rfl) (okx_Offer_getitem T) (hr.mono (by decide)).in1 px_cx (pe_fld (pv 0) rfl) (pv 1) (fun _ _ => rfl)) (pg_tup rfl (pgs_cons (pg_name (i := 3) nd rfl (Or.inr rfl)) (pgs_cons (pg_name (i := 4) nd rfl (Or.inr rfl)) pgs_nil))))
    (pss_cons (ps_set (i := 5) nd rfl (Or.inr rfl) (pe_prop (pe_fld (pv 0) rfl) (T.cls 36 (x := "Offer") rfl) (T.prop 5 (x := "Offer") (f := "trades") rfl) (pk_Offer_trades T).choose_spec.1 (hr.mono (by decide)) (pk_Offer_trades T).choose_spec.2 .nil pass0 rfl))
    (pss_cons (ps_setLc (i := 6) (own := [("one", 8)]) rfl nd rfl rfl (sw_true rfl rfl rfl (by decide +kernel)) (pi_list (pe_fld (pv 0) rfl)) (blkOk_by (own := [("one", 8)]) (N := N_BottleObserver_see_left) (sc := defScope s_BottleObserver_see_left) (by decide +kernel)) (fun _ _ _ _ _ => (pg_name (i := 8) nd rfl (Or.inl rfl))) (fun _ _ _ _ _ => (pts_one (pt_cmpR op_eq (pe_op o_mod (pe_callTy c_int rfl (T.fre 0 (x := "int") rfl) (by decide +kernel) (pa_cons (pe_op o_mul (pv 3) (pe_callR (ok_total T) (hr.mono (by decide)) (kp_total T) rfl (T.glo 20 (x := "total") rfl) pass0 (pa_cons (pv 5) (pa_cons (pv 8) pa_nil)))) pa_nil)) (pv 4)) (pv 2) (nomark _)))) (fun _ _ _ _ _ => (pv 8)))
    (pss_cons (ps_setLc (i := 7) (own := [("one", 8)]) rfl nd rfl rfl (sw_true rfl rfl rfl (by decide +kernel)) (pi_list (pe_fld (pv 0) rfl)) (blkOk_by (own := [("one", 8)]) (N := N_BottleObserver_see_left) (sc := defScope s_BottleObserver_see_left) (by decide +kernel)) (fun _ _ _ _ _ => (pg_name (i := 8) nd rfl (Or.inl rfl))) (fun _ _ _ _ _ => (pts_one (pt_cmpR op_eq (pe_op o_mod (pe_callTy c_int rfl (T.fre 0 (x := "int") rfl) (by decide +kernel) (pa_cons (pe_op o_mul (pv 3) (pe_callR (ok_total T) (hr.mono (by decide)) (kp_total T) rfl (T.glo 20 (x := "total") rfl) pass0 (pa_cons (pv 5) (pa_cons (pe_op o_add (pe_fld (pv 0) rfl) (pv 8)) pa_nil)))) pa_nil)) (pv 4)) (pv 2) (nomark _)))) (fun _ _ _ _ _ => (pv 8)))
    (pss_one (ps_ret (pe_methR (pv 0) (T.cls 45 (x := "BottleObserver") rfl) (T.meth 48 (x := "BottleObserver") (m := "note") rfl) (okx_BottleObserver_note T) (hr.mono (by decide)) px_cx (pa_cons (pe_tup (pa_cl (pa_cons pe_str (pa_cons (pv 1) (pa_cons (pv 2) pa_nil))))) (pa_cons (pv 6) (pa_cons (pv 7) pa_nil)))))))))))
theorem kp_BottleObserver_nth_possible (T : Tx K mg) : PySem.W.keepIn K (.ref (d_BottleObserver_nth_possible.at_ K)) = true := by
  obtain ⟨_, F⟩ := T.says.def_ 43 (d := d_BottleObserver_nth_possible) rfl
  exact F.kp
theorem sc_BottleObserver_nth_possible : FnScope N_BottleObserver_nth_possible ["self", "number"] (defScope s_BottleObserver_nth_possible) := ⟨rfl, rfl, rfl, by decide +kernel, rfl, by decide +kernel, by decide +kernel⟩
theorem ok_BottleObserver_nth_possible (T : Tx K mg) : FnR P w K mg base CX0 2 (d_BottleObserver_nth_possible.at_ K) (sp_BottleObserver_nth_possible K) := by
  obtain ⟨fd, F⟩ := T.says.def_ 43 (d := d_BottleObserver_nth_possible) rfl
  have nd := sc_BottleObserver_nth_possible.nd
  refine fnR_of (F.ok (k := 1) sc_BottleObserver_nth_possible len_BottleObserver_nth_possible (fun cdv A outer s H vs Q E hr h => ⟨t_BottleObserver_nth_possible K, PSs.nox ?_, pure_BottleObserver_nth_possible (ofO T) h⟩)) (F.bindsN fun _ _ _ _ _ _ us hl => match us, hl with | [_, _], _ => rfl)
  exact (pss_cons (ps_expr (pe_callR (ok_validate_number T) (hr.mono (by decide)) (kp_validate_number T) rfl (T.glo 22 (x := "validate_number") rfl) pass0 (pa_cons (pv 1) (pa_cons pe_int (pa_cons (pe_op o_add (pe_glob rfl (T.int 21 (x := "MAX_BOTTLES") (i := 1000000000000000000) rfl).choose_spec ⟨_, rfl⟩) pe_int) pa_nil)))))
    (pss_cons (ps_if (pt_cmpR o_le (pv 1) (pe_callB c_len rfl (T.fre 7 (x := "len") rfl) (by decide +kernel) (pa_cons (pe_fld (pv 0) rfl) pa_nil)) (nomark _)) (pss_one (ps_ret (pe_ix ix_list (pe_fld (pv 0) rfl) (pe_op o_sub (pv 1) pe_int) (fun _ _ => rfl)))) pss_nil)
    (pss_cons (ps_set (i := 2) nd rfl (Or.inl rfl) (pe_op o_sub (pe_op o_sub (pv 1) (pe_callB c_len rfl (T.fre 7 (x := "len") rfl) (by decide +kernel) (pa_cons (pe_fld (pv 0) rfl) pa_nil))) pe_int))
    (pss_cons (ps_if (pt_cmpR (op_eqD hr.units) (pe_fld (pv 0) rfl) (pe_lst (pa_cl pa_nil)) (nomark _)) (pss_one (ps_ret pe_non)) pss_nil)
    (pss_cons (ps_set (i := 3) nd rfl (Or.inl rfl) (pe_op o_add (pe_op o_add (pe_fld (pv 0) rfl) (pe_op o_mul (pe_op o_fd (pv 2) (pe_callB c_len rfl (T.fre 7 (x := "len") rfl) (by decide +kernel) (pa_cons (pe_fld (pv 0) rfl) pa_nil))) (pe_fld (pv 0) rfl))) (pe_ix ix_list (pe_fld (pv 0) rfl) (pe_op o_mod (pe_callTy c_int rfl (T.fre 0 (x := "int") rfl) (by decide +kernel) (pa_cons (pv 2) pa_nil)) (pe_callB c_len rfl (T.fre 7 (x := "len") rfl) (by decide +kernel) (pa_cons (pe_fld (pv 0) rfl) pa_nil))) (fun _ _ => rfl))))
    (pss_one (ps_ret (pe_ifExp (pt_cmpR o_le (pv 3) (pe_glob rfl (T.int 21 (x := "MAX_BOTTLES") (i := 1000000000000000000) rfl).choose_spec ⟨_, rfl⟩) (nomark _)) (pv 3) pe_non))))))))
theorem kp_InvalidStep_init (T : Tx K mg) : PySem.W.keepIn K (.ref (d_InvalidStep_init.at_ K)) = true := by
  obtain ⟨_, F⟩ := T.says.def_ 44 (d := d_InvalidStep_init) rfl
  exact F.kp
theorem sc_InvalidStep_init : FnScope N_InvalidStep_init ["self", "index"] (defScope s_InvalidStep_init) := ⟨rfl, rfl, rfl, by decide +kernel, rfl, by decide +kernel, by decide +kernel⟩
theorem oki_InvalidStep_init (T : Tx K mg) : ∃ fd, FnOk P w K mg base CX0 1 (d_InvalidStep_init.at_ K) fd ["self", "index"] (sp_excInit K "index") ∧ KBn K fd ["self", "index"] 1 ["index"] gApp gApp := by
  obtain ⟨fd, F⟩ := T.says.def_ 44 (d := d_InvalidStep_init) rfl
  have nd := sc_InvalidStep_init.nd
  refine ⟨fd, F.ok (k := 0) sc_InvalidStep_init len_excInit (fun cdv A outer s H vs Q E hr h => ⟨t_excInit K (He.ga K "TradeError") "invalid step" "index", PSs.nox ?_, pure_excInit h⟩), ?_⟩
  · exact (pss_cons (ps_expr (pe_tinit (pe_glob rfl (T.glo 49 (x := "TradeError") rfl) rfl) (T.cread 8 (x := "TradeError") rfl) (T.tin 0 (x := "TradeError") rfl) (pa_cons (pv 0) (pa_cons pe_str pa_nil))))
    (pss_one (ps_ost (pv 0) (pv 1))))
  · obtain ⟨oc, od, dV, kV, doc, pm, an, cdv, ct, osl, rfl, lk, hcd, hD, _⟩ := F.ex
    obtain rfl : dV = .none := by
      rcases hD with ⟨_, z⟩ | ⟨z, _⟩
      · exact z
      · exact absurd rfl z
    exact ⟨fun s us ws X l1 l2 => match us, ws, l1, l2 with | [_], [_], _, _ => BindsTo.of_eq rfl, fun r1 r2 => r1.append r2⟩
theorem kp_Table_init (T : Tx K mg) : PySem.W.keepIn K (.ref (d_Table_init.at_ K)) = true := by
  obtain ⟨_, F⟩ := T.says.def_ 45 (d := d_Table_init) rfl
  exact F.kp
theorem sc_Table_init : FnScope N_Table_init ["self", "offer", "bottles"] (defScope s_Table_init) := ⟨rfl, rfl, rfl, by decide +kernel, rfl, by decide +kernel, by decide +kernel⟩
theorem ok_Table_init (T : Tx K mg) : FnR P w K mg base CX0 3 (d_Table_init.at_ K) (sp_Table_init K) := by
  obtain ⟨fd, F⟩ := T.says.def_ 45 (d := d_Table_init) rfl
  have nd := sc_Table_init.nd
  refine fnR_of (F.ok (k := 2) sc_Table_init len_Table_init (fun cdv A outer s H vs Q E hr h => ⟨t_Table_init K, PSs.nox ?_, pure_Table_init (ofT T) h⟩)) (F.bindsN fun _ _ _ _ _ _ us hl => match us, hl with | [_, _, _], _ => rfl)
  exact (pss_cons (ps_fld (pv 0) (pv 1) rfl)
    (pss_cons (ps_fld (pv 0) pe_int rfl)
    (pss_cons (ps_fld (pv 0) (pv 2) rfl)
    (pss_one (ps_fld (pv 0) (pe_dc (own := [("kind", 3)]) rfl nd (pi_tup (pe_prop (pv 1) (T.cls 36 (x := "Offer") rfl) (T.prop 7 (x := "Offer") (f := "kinds") rfl) (pk_Offer_kinds T).choose_spec.1 (hr.mono (by decide)) (pk_Offer_kinds T).choose_spec.2 .nil pass0 rfl)) (blkOk_by (own := [("kind", 3)]) (N := N_Table_init) (sc := defScope s_Table_init) (by decide +kernel)) (fun _ _ _ _ _ => (pg_name (i := 3) nd rfl (Or.inl rfl))) (fun _ _ _ _ _ => pts_nil) (fun _ _ _ _ _ => (pv 3)) (fun _ _ _ _ _ => pe_int)) rfl)))))
theorem kp_Table_can_drink (T : Tx K mg) : PySem.W.keepIn K (.ref (d_Table_can_drink.at_ K)) = true := by
  obtain ⟨_, F⟩ := T.says.def_ 46 (d := d_Table_can_drink) rfl
  exact F.kp
theorem sc_Table_can_drink : FnScope N_Table_can_drink ["self", "count"] (defScope s_Table_can_drink) := ⟨rfl, rfl, rfl, by decide +kernel, rfl, by decide +kernel, by decide +kernel⟩
theorem ok_Table_can_drink (T : Tx K mg) : FnR P w K mg base CX0 3 (d_Table_can_drink.at_ K) (sp_Table_can_drink K) := by
  obtain ⟨fd, F⟩ := T.says.def_ 46 (d := d_Table_can_drink) rfl
  have nd := sc_Table_can_drink.nd
  refine fnR_of (F.ok (k := 2) sc_Table_can_drink len_Table_can_drink (fun cdv A outer s H vs Q E hr h => ⟨t_Table_can_drink K, PSs.nox ?_, pure_Table_can_drink (ofT T) h⟩)) (F.bindsN fun _ _ _ _ _ _ us hl => match us, hl with | [_, _], _ => rfl)
  exact (pss_cons (ps_if (pt_cmpR o_gt (pv 1) (pe_fld (pv 0) rfl) (nomark _)) (pss_one (ps_ret pe_bl)) pss_nil)
    (pss_cons (ps_fldaug (pv 0) (pv 1) in_sub)
    (pss_cons (ps_fldaug (pv 0) (pv 1) in_add)
    (pss_cons (ps_for PassesOwn.never rfl (pi_tup (pe_prop (pe_fld (pv 0) rfl) (T.cls 36 (x := "Offer") rfl) (T.prop 5 (x := "Offer") (f := "trades") rfl) (pk_Offer_trades T).choose_spec.1 (hr.mono (by decide)) (pk_Offer_trades T).choose_spec.2 .nil pass0 rfl)) (pg_tup rfl (pgs_cons (pg_name (i := 2) nd rfl (Or.inl rfl)) (pgs_cons (pg_name (i := 3) nd rfl (Or.inl rfl)) (pgs_cons (pg_name (i := 4) nd rfl (Or.inl rfl)) pgs_nil)))) (pss_one (ps_daug (hu_of hr) (pe_fld (pv 0) rfl) (pv 2) (pe_op o_mul (pv 3) (pv 1)) in_add (fun _ _ _ => rfl))))
    (pss_one (ps_ret pe_bl))))))
theorem kp_Table_can_trade (T : Tx K mg) : PySem.W.keepIn K (.ref (d_Table_can_trade.at_ K)) = true := by
  obtain ⟨_, F⟩ := T.says.def_ 47 (d := d_Table_can_trade) rfl
  exact F.kp
theorem sc_Table_can_trade : FnScope N_Table_can_trade ["self", "kind", "count"] (defScope s_Table_can_trade) := ⟨rfl, rfl, rfl, by decide +kernel, rfl, by decide +kernel, by decide +kernel⟩
theorem ok_Table_can_trade (T : Tx K mg) : FnR P w K mg base CX0 3 (d_Table_can_trade.at_ K) (sp_Table_can_trade K) := by
  obtain ⟨fd, F⟩ := T.says.def_ 47 (d := d_Table_can_trade) rfl
  have nd := sc_Table_can_trade.nd
  refine fnR_of (F.ok (k := 2) sc_Table_can_trade len_Table_can_trade (fun cdv A outer s H vs Q E hr h => ⟨t_Table_can_trade K, PSs.nox ?_, pure_Table_can_trade (ofT T) h⟩)) (F.bindsN fun _ _ _ _ _ _ us hl => match us, hl with | [_, _, _], _ => rfl)
  exact (pss_cons (ps_if (PW.pt (pw_or (pt_cmp (pc_dnotin (hu_of hr) (pv 1) (pe_fld (pv 0) rfl)) rfl) (pw_or1 (pt_cmpR o_gt (pe_op o_mul (pe_ix ix_tup (pe_ixO (T.own 6 (x := "Offer") (m := "__getitem__") rfl) (okx_Offer_getitem T) (hr.mono (by decide)).in1 passX0 (pe_fld (pv 0) rfl) (pv 1) (fun _ _ => rfl)) pe_int (fun _ _ => rfl)) (pv 2)) (pe_dget (hu_of hr) (pe_fld (pv 0) rfl) (pv 1) (fun _ _ => rfl)) (nomark _))))) (pss_one (ps_ret pe_bl)) pss_nil)
    (pss_cons (ps_daug (hu_of hr) (pe_fld (pv 0) rfl) (pv 1) (pe_op o_mul (pe_ix ix_tup (pe_ixO (T.own 6 (x := "Offer") (m := "__getitem__") rfl) (okx_Offer_getitem T) (hr.mono (by decide)).in1 passX0 (pe_fld (pv 0) rfl) (pv 1) (fun _ _ => rfl)) pe_int (fun _ _ => rfl)) (pv 2)) in_sub (fun _ _ _ => rfl))
    (pss_cons (ps_fldaug (pv 0) (pv 2) in_add)
    (pss_one (ps_ret pe_bl)))))
theorem kp_play (T : Tx K mg) : PySem.W.keepIn K (.ref (d_play.at_ K)) = true := by
  obtain ⟨_, F⟩ := T.says.def_ 48 (d := d_play) rfl
  exact F.kp
theorem sc_play : FnScope N_play ["offer", "bottles", "steps"] (defScope s_play) := ⟨rfl, rfl, rfl, by decide +kernel, rfl, by decide +kernel, by decide +kernel⟩
theorem okx_play (T : Tx K mg) : FnR P w K mg base (L2.CX P w) 5 (d_play.at_ K) (spx_play K) := by
  obtain ⟨fd, F⟩ := T.says.def_ 48 (d := d_play) rfl
  have nd := sc_play.nd
  refine fnR_of (F.ok (k := 4) sc_play lenx_play (fun cdv A outer s H vs Q E hr h => ⟨tx_play K E, ?_, purex_play (ofT T) h⟩)) (F.bindsN fun _ _ _ _ _ _ us hl => match us, hl with | [_, _, _], _ => rfl)
  exact (pss_cons (ps_expr (pe_callR (okx_validate_number T) (hr.mono (by decide)) (kp_validate_number T) rfl (T.glo 22 (x := "validate_number") rfl) px_cx (pa_cons (pv 1) (pa_cons pe_int (pa_cons (pe_glob rfl (T.int 21 (x := "MAX_BOTTLES") (i := 1000000000000000000) rfl).choose_spec ⟨_, rfl⟩) pa_nil)))))
    (pss_cons (ps_set (i := 3) nd rfl (Or.inl rfl) (pe_makeR (T.mkr 58 (x := "Table") rfl) (ok_Table_init T) (hr.mono (by decide)) rfl (T.glo 59 (x := "Table") rfl) pass0 (pa_cl (pa_cons (pv 0) (pa_cons (pv 1) pa_nil)))))
    (pss_cons (ps_for owns_cx rfl (pi_enum rfl (T.fre 18 (x := "enumerate") rfl) (pa_cons (pv 2) pa_nil)) (pg_tup rfl (pgs_cons (pg_name (i := 4) nd rfl (Or.inl rfl)) (pgs_cons (pg_tup rfl (pgs_cons (pg_name (i := 5) nd rfl (Or.inl rfl)) (pgs_cons (pg_name (i := 6) nd rfl (Or.inl rfl)) pgs_nil))) pgs_nil))) (pss_cons (ps_if (pt_not (pt_chain o_le o_le pe_int (pv 6) (pe_glob rfl (T.int 21 (x := "MAX_BOTTLES") (i := 1000000000000000000) rfl).choose_spec ⟨_, rfl⟩))) (pss_one (ps_rs rfl tk_cx (pmk_fld (T.oex 1 (x := "InvalidStep") rfl) (oki_InvalidStep_init T).choose_spec.1 (oki_InvalidStep_init T).choose_spec.2 (hr.mono (by decide)) rfl (T.glo 60 (x := "InvalidStep") rfl) (pv 4)))) pss_nil)
    (pss_cons (ps_set (i := 7) nd rfl (Or.inl rfl) (pe_ifExp (pt_cmpR op_eq (pv 5) (pe_glob rfl (T.str 54 (x := "DRINK") (z := "drink") rfl).choose_spec ⟨_, rfl⟩) (nomark _)) (pe_methR (pv 3) (T.cls 56 (x := "Table") rfl) (T.meth 55 (x := "Table") (m := "can_drink") rfl) (ok_Table_can_drink T) (hr.mono (by decide)) pass0 (pa_cons (pv 6) pa_nil)) (pe_methR (pv 3) (T.cls 56 (x := "Table") rfl) (T.meth 57 (x := "Table") (m := "can_trade") rfl) (ok_Table_can_trade T) (hr.mono (by decide)) pass0 (pa_cons (pv 5) (pa_cons (pv 6) pa_nil)))))
    (pss_one (ps_if (pt_not (pt_val (pv 7))) (pss_one (ps_rs rfl tk_cx (pmk_fld (T.oex 1 (x := "InvalidStep") rfl) (oki_InvalidStep_init T).choose_spec.1 (oki_InvalidStep_init T).choose_spec.2 (hr.mono (by decide)) rfl (T.glo 60 (x := "InvalidStep") rfl) (pv 4)))) pss_nil)))))
    (pss_one (ps_ret (pe_tup (pa_cl (pa_cons (pe_fld (pv 3) rfl) (pa_cons (pe_fld (pv 3) rfl) (pa_cons (pe_fld (pv 3) rfl) pa_nil))))))))))
theorem kp_greedy_steps (T : Tx K mg) : PySem.W.keepIn K (.ref (d_greedy_steps.at_ K)) = true := by
  obtain ⟨_, F⟩ := T.says.def_ 49 (d := d_greedy_steps) rfl
  exact F.kp
theorem sc_greedy_steps : FnScope N_greedy_steps ["offer", "bottles"] (defScope s_greedy_steps) := ⟨rfl, rfl, rfl, by decide +kernel, rfl, by decide +kernel, by decide +kernel⟩
theorem okx_greedy_steps (T : Tx K mg) : FnR P w K mg base (L2.CX P w) 5 (d_greedy_steps.at_ K) (spx_greedy_steps K) := by
  obtain ⟨fd, F⟩ := T.says.def_ 49 (d := d_greedy_steps) rfl
  have nd := sc_greedy_steps.nd
  refine fnR_of (F.ok (k := 4) sc_greedy_steps lenx_greedy_steps (fun cdv A outer s H vs Q E hr h => ⟨tx_greedy_steps K E, ?_, purex_greedy_steps (ofT T) h⟩)) (F.bindsN fun _ _ _ _ _ _ us hl => match us, hl with | [_, _], _ => rfl)
  exact (pss_cons (ps_expr (pe_callR (okx_validate_number T) (hr.mono (by decide)) (kp_validate_number T) rfl (T.glo 22 (x := "validate_number") rfl) px_cx (pa_cons (pv 1) (pa_cons pe_int (pa_cons (pe_glob rfl (T.int 21 (x := "MAX_BOTTLES") (i := 1000000000000000000) rfl).choose_spec ⟨_, rfl⟩) pa_nil)))))
    (pss_cons (ps_par rfl nd (i := 2) (j := 3) rfl rfl (by decide) rfl rfl (pa_cons (pe_makeR (T.mkr 58 (x := "Table") rfl) (ok_Table_init T) (hr.mono (by decide)) rfl (T.glo 59 (x := "Table") rfl) pass0 (pa_cl (pa_cons (pv 0) (pa_cons (pv 1) pa_nil)))) (pa_cons (pe_lst (pa_cl pa_nil)) pa_nil)) rfl)
    (pss_cons (ps_while owns_cx (pt_cmpR o_gt (pe_fld (pv 2) rfl) pe_int (nomark _)) (pss_cons (ps_set (i := 4) nd rfl (Or.inl rfl) (pe_fld (pv 2) rfl))
    (pss_cons (ps_if (pt_val (pe_methR (pv 2) (T.cls 56 (x := "Table") rfl) (T.meth 55 (x := "Table") (m := "can_drink") rfl) (ok_Table_can_drink T) (hr.mono (by decide)) pass0 (pa_cons (pv 4) pa_nil))) (pss_one (ps_expr (pe_bm PySem.F.plainAttrs_list PySem.F.slot_list_append PySem.F.type_list_append mt_append (pv 3) (pa_cons (pe_tup (pa_cl (pa_cons (pe_glob rfl (T.str 54 (x := "DRINK") (z := "drink") rfl).choose_spec ⟨_, rfl⟩) (pa_cons (pv 4) pa_nil)))) pa_nil)))) pss_nil)
    (pss_one (ps_for owns_cx rfl (pi_tup (pe_prop (pv 0) (T.cls 36 (x := "Offer") rfl) (T.prop 5 (x := "Offer") (f := "trades") rfl) (pk_Offer_trades T).choose_spec.1 (hr.mono (by decide)) (pk_Offer_trades T).choose_spec.2 .nil pass0 rfl)) (pg_tup rfl (pgs_cons (pg_name (i := 5) nd rfl (Or.inl rfl)) (pgs_cons (pg_name (i := 6) nd rfl (Or.inl rfl)) (pgs_cons (pg_name (i := 7) nd rfl (Or.inl rfl)) pgs_nil)))) (pss_cons (ps_set (i := 4) nd rfl (Or.inl rfl) (pe_op o_fd (pe_dget (hu_of hr) (pe_fld (pv 2) rfl) (pv 5) (fun _ _ => rfl)) (pv 7)))
    (pss_one (ps_if (PW.pt (pw_and (pt_cmpR o_gt (pv 4) pe_int (nomark _)) (pw_and1 (pt_val (pe_methR (pv 2) (T.cls 56 (x := "Table") rfl) (T.meth 57 (x := "Table") (m := "can_trade") rfl) (ok_Table_can_trade T) (hr.mono (by decide)) pass0 (pa_cons (pv 5) (pa_cons (pv 4) pa_nil))))))) (pss_one (ps_expr (pe_bm PySem.F.plainAttrs_list PySem.F.slot_list_append PySem.F.type_list_append mt_append (pv 3) (pa_cons (pe_tup (pa_cl (pa_cons (pv 5) (pa_cons (pv 4) pa_nil)))) pa_nil)))) pss_nil))))))))
    (pss_one (ps_ret (pv 3))))))
theorem kp__law_mix (T : Tx K mg) : PySem.W.keepIn K (.ref (d__law_mix.at_ K)) = true := by
  obtain ⟨_, F⟩ := T.says.def_ 50 (d := d__law_mix) rfl
  exact F.kp
theorem sc__law_mix : FnScope N__law_mix ["_law_script", "_law_seed"] (defScope s__law_mix) := ⟨rfl, rfl, rfl, by decide +kernel, rfl, by decide +kernel, by decide +kernel⟩
theorem ok__law_mix (T : Tx K mg) : FnR P w K mg base CX0 1 (d__law_mix.at_ K) (sp__law_mix K) := by
  obtain ⟨fd, F⟩ := T.says.def_ 50 (d := d__law_mix) rfl
  have nd := sc__law_mix.nd
  refine fnR_of (F.ok (k := 0) sc__law_mix len__law_mix (fun cdv A outer s H vs Q E hr h => ⟨t__law_mix K, PSs.nox ?_, pure__law_mix h⟩)) (F.bindsN fun _ _ _ _ _ _ us hl => match us, hl with | [_, _], _ => rfl)
  exact (pss_cons (ps_set (i := 2) nd rfl (Or.inl rfl) (pv 1))
    (pss_cons (ps_for PassesOwn.never rfl (pi_list (pv 0)) (pg_name (i := 3) nd rfl (Or.inl rfl)) (pss_one (ps_set (i := 2) nd rfl (Or.inl rfl) (pe_op o_mod (pe_op o_add (pe_op o_add (pe_op o_mul (pv 2) pe_int) (pe_op o_mod (pv 3) pe_int)) pe_int) pe_int))))
    (pss_one (ps_ret (pe_lst (pa_cl (pa_cons (pv 2) (pa_cons (pe_callTy c_listO rfl (T.fre 39 (x := "list") rfl) (by decide +kernel) (pa_cons (pv 0) pa_nil)) (pa_cons pe_int pa_nil)))))))))
theorem kp__law_next (T : Tx K mg) : PySem.W.keepIn K (.ref (d__law_next.at_ K)) = true := by
  obtain ⟨_, F⟩ := T.says.def_ 51 (d := d__law_next) rfl
  exact F.kp
theorem sc__law_next : FnScope N__law_next ["_law_h", "_law_limit"] (defScope s__law_next) := ⟨rfl, rfl, rfl, by decide +kernel, rfl, by decide +kernel, by decide +kernel⟩
theorem ok__law_next (T : Tx K mg) : FnR P w K mg base CX0 1 (d__law_next.at_ K) (sp__law_next K) := by
  obtain ⟨fd, F⟩ := T.says.def_ 51 (d := d__law_next) rfl
  have nd := sc__law_next.nd
  refine fnR_of (F.ok (k := 0) sc__law_next len__law_next (fun cdv A outer s H vs Q E hr h => ⟨t__law_next K, PSs.nox ?_, pure__law_next h⟩)) (F.bindsN fun _ _ _ _ _ _ us hl => match us, hl with | [_, _], _ => rfl)
  exact (pss_cons (ps_set (i := 2) nd rfl (Or.inl rfl) (pe_ix ix_list (pe_op op_cat (pe_ix ix_list (pv 0) pe_int (fun _ _ => rfl)) (pe_lst (pa_cl (pa_cons pe_int pa_nil)))) (pe_op o_mod (pe_ix ix_list (pv 0) pe_int (fun _ _ => rfl)) (pe_callB (c_mx2 rfl) rfl (T.fre 61 (x := "max") rfl) (by decide +kernel) (pa_cons pe_int (pa_cons (pe_callB c_len rfl (T.fre 7 (x := "len") rfl) (by decide +kernel) (pa_cons (pe_ix ix_list (pv 0) pe_int (fun _ _ => rfl)) pa_nil)) pa_nil)))) (fun _ _ => rfl)))
    (pss_cons (ps_if (pt_cmpR o_ge (pv 2) (pe_op o_pow pe_int pe_int) (nomark _)) (pss_cons (ps_asg (pe_op o_fdW (pv 2) (pv 1)) (pg_sub (pe_ix ix_list (pv 0) pe_int (fun _ _ => rfl)) (pe_op o_mod (pe_ix ix_list (pv 0) pe_int (fun _ _ => rfl)) (pe_callB c_len rfl (T.fre 7 (x := "len") rfl) (by decide +kernel) (pa_cons (pe_ix ix_list (pv 0) pe_int (fun _ _ => rfl)) pa_nil))) set_list))
    (pss_one (ps_ret (pe_op o_mod (pv 2) (pv 1))))) pss_nil)
    (pss_cons (ps_asg (pe_op o_mod (pe_op o_add (pe_op o_add (pe_op o_mul (pe_ix ix_list (pv 0) pe_int (fun _ _ => rfl)) pe_int) (pe_op o_mul (pv 2) pe_int)) pe_int) pe_int) (pg_sub (pv 0) pe_int set_list))
    (pss_cons (ps_asg (pe_op o_add (pe_ix ix_list (pv 0) pe_int (fun _ _ => rfl)) pe_int) (pg_sub (pv 0) pe_int set_list))
    (pss_one (ps_ret (pe_op o_mod (pe_op o_fd (pe_ix ix_list (pv 0) pe_int (fun _ _ => rfl)) pe_int) (pv 1))))))))
theorem kp__law_alike (T : Tx K mg) : PySem.W.keepIn K (.ref (d__law_alike.at_ K)) = true := by
  obtain ⟨_, F⟩ := T.says.def_ 52 (d := d__law_alike) rfl
  exact F.kp
theorem sc__law_alike : FnScope N__law_alike ["_law_found", "_law_due"] (defScope s__law_alike) := ⟨rfl, rfl, rfl, by decide +kernel, rfl, by decide +kernel, by decide +kernel⟩
theorem ok__law_alike (T : Tx K mg) : ∀ n, FnR P w K mg base CX0 n (d__law_alike.at_ K) (sp_alike n)
  | 0 => fun _ _ _ _ _ _ _ _ _ _ _ z => nomatch z
  | n + 1 => by
    have ih : FnR P w K mg base CX0 n (d__law_alike.at_ K) (sp_alike n) := ok__law_alike T n
    obtain ⟨fd, F⟩ := T.says.def_ 52 (d := d__law_alike) rfl
    have nd := sc__law_alike.nd
    refine fnR_of (F.ok (k := n) sc__law_alike (len_alike (n + 1)) (fun cdv A outer s H vs Q E hr h => ⟨t__law_alike K (sp_alike n), PSs.nox ?_, pure_alike h⟩)) (F.bindsN fun _ _ _ _ _ _ us hl => match us, hl with | [_, _], _ => rfl)
    exact (pss_cons (ps_if (pt_val (pe_callB call_isi rfl (T.fre 62 (x := "isinstance") rfl) (by decide +kernel) (pa_cons (pv 1) (pa_cons (pe_bltn rfl (T.fre 66 (x := "dict") rfl) (by decide +kernel) rfl) pa_nil)))) (pss_one (ps_ret (pe_and (pe_callB call_isi rfl (T.fre 62 (x := "isinstance") rfl) (by decide +kernel) (pa_cons (pv 0) (pa_cons (pe_bltn rfl (T.fre 66 (x := "dict") rfl) (by decide +kernel) rfl) pa_nil))) (pe_and (pe_callR ih hr (kp__law_alike T) rfl (T.glo 65 (x := "_law_alike") rfl) pass0 (pa_cons (pe_callTy (call_list_dK rfl) rfl (T.fre 39 (x := "list") rfl) (by decide +kernel) (pa_cons (pv 0) pa_nil)) (pa_cons (pe_callTy (call_list_dK rfl) rfl (T.fre 39 (x := "list") rfl) (by decide +kernel) (pa_cons (pv 1) pa_nil)) pa_nil))) (pe_one (pe_cmpR (op_eqX hr.units) (pv 0) (pv 1) (nomark _))))))) pss_nil)
    (pss_cons (ps_if (pt_val (pe_callB call_isiT rfl (T.fre 62 (x := "isinstance") rfl) (by decide +kernel) (pa_cons (pv 1) (pa_cons (pe_tup (pa_cl (pa_cons (pe_bltn rfl (T.fre 26 (x := "tuple") rfl) (by decide +kernel) rfl) (pa_cons (pe_bltn rfl (T.fre 39 (x := "list") rfl) (by decide +kernel) rfl) pa_nil)))) pa_nil)))) (pss_cons (ps_if (PW.pt (pw_or (pt_not (pt_val (pe_callB call_isiT rfl (T.fre 62 (x := "isinstance") rfl) (by decide +kernel) (pa_cons (pv 0) (pa_cons (pe_tup (pa_cl (pa_cons (pe_bltn rfl (T.fre 26 (x := "tuple") rfl) (by decide +kernel) rfl) (pa_cons (pe_bltn rfl (T.fre 39 (x := "list") rfl) (by decide +kernel) rfl) pa_nil)))) pa_nil))))) (pw_or1 (pt_cmpR op_ne (pe_callB call_isi rfl (T.fre 62 (x := "isinstance") rfl) (by decide +kernel) (pa_cons (pv 0) (pa_cons (pe_bltn rfl (T.fre 39 (x := "list") rfl) (by decide +kernel) rfl) pa_nil))) (pe_callB call_isi rfl (T.fre 62 (x := "isinstance") rfl) (by decide +kernel) (pa_cons (pv 1) (pa_cons (pe_bltn rfl (T.fre 39 (x := "list") rfl) (by decide +kernel) rfl) pa_nil))) (nomark _))))) (pss_one (ps_ret pe_bl)) pss_nil)
    (pss_cons (ps_if (pt_cmpR op_ne (pe_callB c_len rfl (T.fre 7 (x := "len") rfl) (by decide +kernel) (pa_cons (pv 0) pa_nil)) (pe_callB c_len rfl (T.fre 7 (x := "len") rfl) (by decide +kernel) (pa_cons (pv 1) pa_nil)) (nomark _)) (pss_one (ps_ret pe_bl)) pss_nil)
    (pss_one (ps_ret (pe_cmpR (op_eqD hr.units) (pe_lc (own := [("_law_k", 2)]) rfl nd (pi_range1 rfl (T.fre 24 (x := "range") rfl) (pa_cons (pe_callB c_len rfl (T.fre 7 (x := "len") rfl) (by decide +kernel) (pa_cons (pv 1) pa_nil)) pa_nil)) (blkOk_by (own := [("_law_k", 2)]) (N := N__law_alike) (sc := defScope s__law_alike) (by decide +kernel)) (fun _ _ _ _ _ => (pg_name (i := 2) nd rfl (Or.inl rfl))) (fun _ _ _ _ _ => (pts_one (pt_not (pt_val (pe_callR ih hr (kp__law_alike T) rfl (T.glo 65 (x := "_law_alike") rfl) pass0 (pa_cons (pe_ix ix_any (pv 0) (pv 2) (fun _ _ => rfl)) (pa_cons (pe_ix ix_any (pv 1) (pv 2) (fun _ _ => rfl)) pa_nil))))))) (fun _ _ _ _ _ => (pv 2))) (pe_lst (pa_cl pa_nil)) (nomark _)))))) pss_nil)
    (pss_cons (ps_if (PW.pt (pw_or (pt_cmpR op_isN1 (pv 1) pe_non (nomark _)) (pw_or1 (pt_val (pe_callB call_isi rfl (T.fre 62 (x := "isinstance") rfl) (by decide +kernel) (pa_cons (pv 1) (pa_cons (pe_bltn rfl (T.fre 64 (x := "str") rfl) (by decide +kernel) rfl) pa_nil))))))) (pss_one (ps_ret (pe_and (pe_cmpR (op_eqX hr.units) (pv 0) (pv 1) (nomark _)) (pe_one (pe_cmpR op_eq (pe_callB call_isi rfl (T.fre 62 (x := "isinstance") rfl) (by decide +kernel) (pa_cons (pv 0) (pa_cons (pe_bltn rfl (T.fre 64 (x := "str") rfl) (by decide +kernel) rfl) pa_nil))) (pe_callB call_isi rfl (T.fre 62 (x := "isinstance") rfl) (by decide +kernel) (pa_cons (pv 1) (pa_cons (pe_bltn rfl (T.fre 64 (x := "str") rfl) (by decide +kernel) rfl) pa_nil))) (nomark _)))))) pss_nil)
    (pss_one (ps_ret (pe_and (pe_callB call_isi rfl (T.fre 62 (x := "isinstance") rfl) (by decide +kernel) (pa_cons (pv 0) (pa_cons (pe_bltn rfl (T.fre 0 (x := "int") rfl) (by decide +kernel) rfl) pa_nil))) (pe_and (pe_cmpR op_eq (pe_callB call_isi rfl (T.fre 62 (x := "isinstance") rfl) (by decide +kernel) (pa_cons (pv 0) (pa_cons (pe_bltn rfl (T.fre 63 (x := "bool") rfl) (by decide +kernel) rfl) pa_nil))) (pe_callB call_isi rfl (T.fre 62 (x := "isinstance") rfl) (by decide +kernel) (pa_cons (pv 1) (pa_cons (pe_bltn rfl (T.fre 63 (x := "bool") rfl) (by decide +kernel) rfl) pa_nil))) (nomark _)) (pe_one (pe_cmpR (op_eqX hr.units) (pv 0) (pv 1) (nomark _))))))))))
theorem kp__law_trades (T : Tx K mg) : PySem.W.keepIn K (.ref (d__law_trades.at_ K)) = true := by
  obtain ⟨_, F⟩ := T.says.def_ 53 (d := d__law_trades) rfl
  exact F.kp
theorem sc__law_trades : FnScope N__law_trades ["_law_h", "_law_most", "_law_largest"] (defScope s__law_trades) := ⟨rfl, rfl, rfl, by decide +kernel, rfl, by decide +kernel, by decide +kernel⟩
theorem ok__law_trades (T : Tx K mg) : FnR P w K mg base CX0 2 (d__law_trades.at_ K) (sp__law_trades K) := by
  obtain ⟨fd, F⟩ := T.says.def_ 53 (d := d__law_trades) rfl
  have nd := sc__law_trades.nd
  refine fnR_of (F.ok (k := 1) sc__law_trades len__law_trades (fun cdv A outer s H vs Q E hr h => ⟨t__law_trades K, PSs.nox ?_, pure__law_trades h⟩)) (F.bindsN fun _ _ _ _ _ _ us hl => match us, hl with | [_, _, _], _ => rfl)
  exact (pss_cons (ps_par rfl nd (i := 3) (j := 4) rfl rfl (by decide) rfl rfl (pa_cons (pe_lst (pa_cl pa_nil)) (pa_cons pe_int pa_nil)) rfl)
    (pss_cons (ps_for PassesOwn.never rfl (pi_list (pe_slice sl_list (pe_lst (pa_cl (pa_cons pe_str (pa_cons pe_str (pa_cons pe_str pa_nil))))) po_none (po_some (pe_op o_add pe_int (pe_callR (ok__law_next T) (hr.mono (by decide)) (kp__law_next T) rfl (T.glo 67 (x := "_law_next") rfl) pass0 (pa_cons (pv 0) (pa_cons (pv 1) pa_nil))))))) (pg_name (i := 5) nd rfl (Or.inl rfl)) (pss_cons (ps_set (i := 6) nd rfl (Or.inl rfl) (pe_op o_add pe_int (pe_callR (ok__law_next T) (hr.mono (by decide)) (kp__law_next T) rfl (T.glo 67 (x := "_law_next") rfl) pass0 (pa_cons (pv 0) (pa_cons (pv 2) pa_nil)))))
    (pss_cons (ps_set (i := 7) nd rfl (Or.inl rfl) (pe_callR (ok__law_next T) (hr.mono (by decide)) (kp__law_next T) rfl (T.glo 67 (x := "_law_next") rfl) pass0 (pa_cons (pv 0) (pa_cons (pe_op o_add (pv 6) pe_int) pa_nil))))
    (pss_cons (ps_while PassesOwn.never (pt_cmpR o_gt (pe_op o_mul pe_int (pe_op o_add (pe_op o_mul (pv 4) (pv 6)) (pe_op o_mul (pv 7) pe_int))) (pe_op o_mul (pe_op o_mul pe_int pe_int) (pv 6)) (nomark _)) (pss_one (ps_set (i := 7) nd rfl (Or.inl rfl) (pe_op o_sub (pv 7) pe_int))))
    (pss_cons (ps_set (i := 4) nd rfl (Or.inl rfl) (pe_op o_add (pv 4) (pe_op o_fd (pe_op o_mul (pv 7) pe_int) (pv 6))))
    (pss_one (ps_expr (pe_bm PySem.F.plainAttrs_list PySem.F.slot_list_append PySem.F.type_list_append mt_append (pv 3) (pa_cons (pe_tup (pa_cl (pa_cons (pv 5) (pa_cons (pv 7) (pa_cons (pv 6) pa_nil))))) pa_nil)))))))))
    (pss_one (ps_ret (pe_callTy c_tupO rfl (T.fre 26 (x := "tuple") rfl) (by decide +kernel) (pa_cons (pv 3) pa_nil))))))
theorem kp__law_offer (T : Tx K mg) : PySem.W.keepIn K (.ref (d__law_offer.at_ K)) = true := by
  obtain ⟨_, F⟩ := T.says.def_ 54 (d := d__law_offer) rfl
  exact F.kp
theorem sc__law_offer : FnScope N__law_offer ["_law_trades_here"] (defScope s__law_offer) := ⟨rfl, rfl, rfl, by decide +kernel, rfl, by decide +kernel, by decide +kernel⟩
theorem ok__law_offer (T : Tx K mg) : FnR P w K mg base CX0 6 (d__law_offer.at_ K) (sp__law_offer K) := by
  obtain ⟨fd, F⟩ := T.says.def_ 54 (d := d__law_offer) rfl
  have nd := sc__law_offer.nd
  refine fnR_of (F.ok (k := 5) sc__law_offer len__law_offer (fun cdv A outer s H vs Q E hr h => ⟨t__law_offer K, PSs.nox ?_, pure__law_offer h⟩)) (F.bindsN fun _ _ _ _ _ _ us hl => match us, hl with | [_], _ => rfl)
  exact (pss_cons (ps_if (pt_cmpR op_eq (pe_callB c_len rfl (T.fre 7 (x := "len") rfl) (by decide +kernel) (pa_cons (pv 0) pa_nil)) pe_int (nomark _)) (pss_one (ps_ret (pe_makeR (T.mkr 68 (x := "Offer") rfl) (ok_Offer_init T) (hr.mono (by decide)) rfl (T.glo 13 (x := "Offer") rfl) pass0 (pa_cl (pa_cons (pe_ix ix_tup (pv 0) pe_int (fun _ _ => rfl)) pa_nil))))) pss_nil)
    (pss_one (ps_ret (pe_ifExp (pt_cmpR op_eq (pe_callB c_len rfl (T.fre 7 (x := "len") rfl) (by decide +kernel) (pa_cons (pv 0) pa_nil)) pe_int (nomark _)) (pe_makeR (T.mkr 68 (x := "Offer") rfl) (ok_Offer_init T) (hr.mono (by decide)) rfl (T.glo 13 (x := "Offer") rfl) pass0 (pa_cl (pa_cons (pe_ix ix_tup (pv 0) pe_int (fun _ _ => rfl)) (pa_cons (pe_ix ix_tup (pv 0) pe_int (fun _ _ => rfl)) pa_nil)))) (pe_makeR (T.mkr 68 (x := "Offer") rfl) (ok_Offer_init T) (hr.mono (by decide)) rfl (T.glo 13 (x := "Offer") rfl) pass0 (pa_cl (pa_cons (pe_ix ix_tup (pv 0) pe_int (fun _ _ => rfl)) (pa_cons (pe_ix ix_tup (pv 0) pe_int (fun _ _ => rfl)) (pa_cons (pe_ix ix_tup (pv 0) pe_int (fun _ _ => rfl)) pa_nil)))))))))
theorem kp__law_all (T : Tx K mg) : PySem.W.keepIn K (.ref (d__law_all.at_ K)) = true := by
  obtain ⟨_, F⟩ := T.says.def_ 55 (d := d__law_all) rfl
  exact F.kp
theorem sc__law_all : FnScope N__law_all ["_law_offer_here", "_law_observer", "_law_far"] (defScope s__law_all) := ⟨rfl, rfl, rfl, by decide +kernel, rfl, by decide +kernel, by decide +kernel⟩
theorem ok__law_all (T : Tx K mg) : FnR P w K mg base CX0 10 (d__law_all.at_ K) (sp__law_all K) := by
  obtain ⟨fd, F⟩ := T.says.def_ 55 (d := d__law_all) rfl
  have nd := sc__law_all.nd
  refine fnR_of (F.ok (k := 9) sc__law_all len__law_all (fun cdv A outer s H vs Q E hr h => ⟨t__law_all K, PSs.nox ?_, pure__law_all (ofT T) h⟩)) (F.bindsN fun _ _ _ _ _ _ us hl => match us, hl with | [_, _, _], _ => rfl)
  exact (pss_cons (ps_set (i := 3) nd rfl (Or.inl rfl) (pe_lst (pa_cl (pa_cons (pe_prop (pv 0) (T.cls 36 (x := "Offer") rfl) (T.prop 5 (x := "Offer") (f := "trades") rfl) (pk_Offer_trades T).choose_spec.1 (hr.mono (by decide)) (pk_Offer_trades T).choose_spec.2 .nil pass0 rfl) (pa_cons (pe_prop (pv 0) (T.cls 36 (x := "Offer") rfl) (T.prop 7 (x := "Offer") (f := "kinds") rfl) (pk_Offer_kinds T).choose_spec.1 (hr.mono (by decide)) (pk_Offer_kinds T).choose_spec.2 .nil pass0 rfl) (pa_cons (pe_prop (pv 0) (T.cls 36 (x := "Offer") rfl) (T.prop 14 (x := "Offer") (f := "period") rfl) (pk_Offer_period T).choose_spec.1 (hr.mono (by decide)) (pk_Offer_period T).choose_spec.2 .nil pass0 rfl) (pa_cons (pe_prop (pv 0) (T.cls 36 (x := "Offer") rfl) (T.prop 13 (x := "Offer") (f := "steady_from") rfl) (pk_Offer_steady_from T).choose_spec.1 (hr.mono (by decide)) (pk_Offer_steady_from T).choose_spec.2 .nil pass0 rfl) (pa_cons (pe_CO (pv 0) (T.callO 3 (x := "Offer") rfl) (ok_Offer_call T) (hr.mono (by decide)) pass0 (pa_cons (pv 2) pa_nil)) (pa_cons (pe_methR (pv 0) (T.cls 36 (x := "Offer") rfl) (T.meth 80 (x := "Offer") (m := "credit") rfl) (ok_Offer_credit T) (hr.mono (by decide)) pass0 (pa_cons (pv 2) pa_nil)) (pa_cons (pe_cmpR (op_inO (T.own 12 (x := "Offer") (m := "__contains__") rfl) (ok_Offer_contains T) (hr.mono (by decide)) pass0) (pv 2) (pv 0) rfl) pa_nil))))))))))
    (pss_cons (ps_set (i := 3) nd rfl (Or.inl rfl) (pe_op op_cat (pv 3) (pe_lst (pa_cl (pa_cons (pe_methR (pv 0) (T.cls 36 (x := "Offer") rfl) (T.meth 69 (x := "Offer") (m := "trades_made") rfl) (ok_Offer_trades_made T) (hr.mono (by decide)) pass0 (pa_cons (pv 2) pa_nil)) (pa_cons (pe_methR (pv 0) (T.cls 36 (x := "Offer") rfl) (T.meth 79 (x := "Offer") (m := "left_over") rfl) (ok_Offer_left_over T) (hr.mono (by decide)) pass0 (pa_cons (pv 2) pa_nil)) (pa_cons (pe_listG (pgen_meth (E := E0) (pv 0) (T.cls 36 (x := "Offer") rfl) (T.meth 78 (x := "Offer") (m := "rounds") rfl) (gk_Offer_rounds T).choose_spec.1 (hr.mono (by decide)) (gk_Offer_rounds T).choose_spec.2 .nil (pa_cons (pv 2) pa_nil)) passE0 noStop0 (hr.mono (by decide)) rfl (T.fre 39 (x := "list") rfl) (by decide +kernel)) (pa_cons (pe_methR (pv 0) (T.cls 36 (x := "Offer") rfl) (T.meth 77 (x := "Offer") (m := "fewest_bottles") rfl) (ok_Offer_fewest_bottles T) (hr.mono (by decide)) pass0 (pa_cons (pv 2) pa_nil)) pa_nil))))))))
    (pss_cons (ps_set (i := 3) nd rfl (Or.inl rfl) (pe_op op_cat (pv 3) (pe_lst (pa_cl (pa_cons (pe_listG (pgen_meth (E := E0) (pv 0) (T.cls 36 (x := "Offer") rfl) (T.meth 76 (x := "Offer") (m := "missing") rfl) (gk_Offer_missing T).choose_spec.1 (hr.mono (by decide)) (gk_Offer_missing T).choose_spec.2 .nil (pa_cons pe_int (pa_cons pe_int pa_nil))) passE0 noStop0 (hr.mono (by decide)) rfl (T.fre 39 (x := "list") rfl) (by decide +kernel)) (pa_cons (pe_methR (pv 0) (T.cls 36 (x := "Offer") rfl) (T.meth 75 (x := "Offer") (m := "count_missing") rfl) (ok_Offer_count_missing T) (hr.mono (by decide)) pass0 (pa_cons (pv 2) pa_nil)) (pa_cons (pe_methR (pv 0) (T.cls 36 (x := "Offer") rfl) (T.meth 74 (x := "Offer") (m := "nth_missing") rfl) (ok_Offer_nth_missing T) (hr.mono (by decide)) pass0 (pa_cons pe_int pa_nil)) (pa_cons (pe_methR (pv 0) (T.cls 36 (x := "Offer") rfl) (T.meth 73 (x := "Offer") (m := "pooled") rfl) (ok_Offer_pooled T) (hr.mono (by decide)) pass0 (pa_cons pe_int (pa_cons (pv 2) pa_nil))) pa_nil))))))))
    (pss_cons (ps_set (i := 3) nd rfl (Or.inl rfl) (pe_op op_cat (pv 3) (pe_lst (pa_cl (pa_cons (pe_callR (okx_greedy_steps T) (hr.mono (by decide)) (kp_greedy_steps T) rfl (T.glo 72 (x := "greedy_steps") rfl) passX0 (pa_cons (pv 0) (pa_cons (pv 2) pa_nil))) (pa_cons (pe_ix ix_tup (pe_callR (okx_play T) (hr.mono (by decide)) (kp_play T) rfl (T.glo 71 (x := "play") rfl) passX0 (pa_cons (pv 0) (pa_cons pe_int (pa_cons (pe_lst (pa_cl (pa_cons (pe_tup (pa_cl (pa_cons pe_str (pa_cons pe_int pa_nil)))) pa_nil))) pa_nil)))) pe_int (fun _ _ => rfl)) (pa_cons (pe_prop (pv 1) (T.cls 45 (x := "BottleObserver") rfl) (T.prop 11 (x := "BottleObserver") (f := "records") rfl) (pk_BottleObserver_records T).choose_spec.1 (hr.mono (by decide)) (pk_BottleObserver_records T).choose_spec.2 .nil pass0 rfl) (pa_cons (pe_methR (pv 1) (T.cls 45 (x := "BottleObserver") rfl) (T.meth 70 (x := "BottleObserver") (m := "nth_possible") rfl) (ok_BottleObserver_nth_possible T) (hr.mono (by decide)) pass0 (pa_cons pe_int pa_nil)) pa_nil))))))))
    (pss_one (ps_ret (pe_op op_cat (pv 3) (pe_lst (pa_cl (pa_cons (pe_cmpR (op_leO hr.units (T.own 10 (x := "Offer") (m := "__le__") rfl) (ok_Offer_le T) (hr.mono (by decide)) pass0) (pv 0) (pv 0) (nomark _)) (pa_cons (pe_cmpR (op_ltO hr.units (T.own 9 (x := "Offer") (m := "__lt__") rfl) (ok_Offer_lt T) (hr.mono (by decide)) pass0) (pv 0) (pv 0) (nomark _)) (pa_cons (pe_boolO (pv 0) (T.own 4 (x := "Offer") (m := "__bool__") rfl) (ok_Offer_bool T) (hr.mono (by decide)).in1.in1 pass0 rfl (T.fre 63 (x := "bool") rfl) (by decide +kernel)) (pa_cons (pe_methR (pv 0) (T.cls 36 (x := "Offer") rfl) (T.meth 69 (x := "Offer") (m := "trades_made") rfl) (ok_Offer_trades_made T) (hr.mono (by decide)) pass0 (pa_cons pe_int pa_nil)) pa_nil)))))))))))))
theorem kp_law (T : Tx K mg) : PySem.W.keepIn K (.ref (d_law.at_ K)) = true := by
  obtain ⟨_, F⟩ := T.says.def_ 56 (d := d_law) rfl
  exact F.kp
theorem sc_law : FnScope N_law ["_law_script"] (defScope s_law) := ⟨rfl, rfl, rfl, by decide +kernel, rfl, by decide +kernel, by decide +kernel⟩
theorem ok_law (T : Tx K mg) {f : Addr} {fd : FuncData} (F : FunD K "law" "law" (defArgs s_law) (defBody s_law) (defScope s_law) [] [] f fd) : FnOk P w K mg base CX0 11 f fd ["_law_script"] (sp_law K) := by
  have nd := sc_law.nd
  refine F.ok (k := 10) sc_law len_law (fun cdv A outer s H vs Q E hr h => ⟨t_law K, PSs.nox ?_, pure_law (ofT T) h⟩)
  exact (pss_cons (ps_set (i := 1) nd rfl (Or.inl rfl) (pe_callR (ok__law_mix T) (hr.mono (by decide)) (kp__law_mix T) rfl (T.glo 87 (x := "_law_mix") rfl) pass0 (pa_cons (pv 0) (pa_cons pe_int pa_nil))))
    (pss_cons (ps_par rfl nd (i := 2) (j := 3) rfl rfl (by decide) rfl rfl (pa_cons (pe_callR (ok__law_offer T) (hr.mono (by decide)) (kp__law_offer T) rfl (T.glo 86 (x := "_law_offer") rfl) pass0 (pa_cons (pe_callR (ok__law_trades T) (hr.mono (by decide)) (kp__law_trades T) rfl (T.glo 85 (x := "_law_trades") rfl) pass0 (pa_cons (pv 1) (pa_cons pe_int (pa_cons pe_int pa_nil)))) pa_nil)) (pa_cons (pe_callR (ok__law_next T) (hr.mono (by decide)) (kp__law_next T) rfl (T.glo 67 (x := "_law_next") rfl) pass0 (pa_cons (pv 1) (pa_cons (pe_ix ix_list (pe_lst (pa_cl (pa_cons pe_int (pa_cons (pe_op o_pow pe_int pe_int) pa_nil)))) (pe_callR (ok__law_next T) (hr.mono (by decide)) (kp__law_next T) rfl (T.glo 67 (x := "_law_next") rfl) pass0 (pa_cons (pv 1) (pa_cons pe_int pa_nil))) (fun _ _ => rfl)) pa_nil))) pa_nil)) rfl)
    (pss_cons (ps_par rfl nd (i := 4) (j := 5) rfl rfl (by decide) rfl rfl (pa_cons (pe_makeR (T.mkr 83 (x := "BottleObserver") rfl) (ok_BottleObserver_init T) (hr.mono (by decide)) rfl (T.glo 84 (x := "BottleObserver") rfl) pass0 (pa_cl (pa_cons (pv 2) pa_nil))) (pa_cons (pe_dget (hu_of hr) (pe_methR (pv 2) (T.cls 36 (x := "Offer") rfl) (T.meth 79 (x := "Offer") (m := "left_over") rfl) (ok_Offer_left_over T) (hr.mono (by decide)) pass0 (pa_cons pe_int pa_nil)) (pe_ix ix_tup (pe_prop (pv 2) (T.cls 36 (x := "Offer") rfl) (T.prop 7 (x := "Offer") (f := "kinds") rfl) (pk_Offer_kinds T).choose_spec.1 (hr.mono (by decide)) (pk_Offer_kinds T).choose_spec.2 .nil pass0 rfl) pe_int (fun _ _ => rfl)) (fun _ _ => rfl)) pa_nil)) rfl)
    (pss_cons (ps_expr (pe_methR (pv 4) (T.cls 45 (x := "BottleObserver") rfl) (T.meth 82 (x := "BottleObserver") (m := "see_left") rfl) (okx_BottleObserver_see_left T) (hr.mono (by decide)) passX0 (pa_cons (pe_ix ix_tup (pe_prop (pv 2) (T.cls 36 (x := "Offer") rfl) (T.prop 7 (x := "Offer") (f := "kinds") rfl) (pk_Offer_kinds T).choose_spec.1 (hr.mono (by decide)) (pk_Offer_kinds T).choose_spec.2 .nil pass0 rfl) pe_int (fun _ _ => rfl)) (pa_cons (pv 5) pa_nil))))
    (pss_cons (ps_set (i := 6) nd rfl (Or.inl rfl) (pe_callR (ok__law_all T) (hr.mono (by decide)) (kp__law_all T) rfl (T.glo 81 (x := "_law_all") rfl) pass0 (pa_cons (pv 2) (pa_cons (pv 4) (pa_cons (pv 3) pa_nil)))))
    (pss_cons (ps_for PassesOwn.never rfl (pi_range1 rfl (T.fre 24 (x := "range") rfl) (pa_cons (pe_op o_add pe_int (pe_callR (ok__law_next T) (hr.mono (by decide)) (kp__law_next T) rfl (T.glo 67 (x := "_law_next") rfl) pass0 (pa_cons (pv 1) (pa_cons pe_int pa_nil)))) pa_nil)) (pg_name (i := 7) nd rfl (Or.inl rfl)) (pss_cons (ps_set (i := 8) nd rfl (Or.inl rfl) (pe_callR (ok__law_all T) (hr.mono (by decide)) (kp__law_all T) rfl (T.glo 81 (x := "_law_all") rfl) pass0 (pa_cons (pv 2) (pa_cons (pv 4) (pa_cons (pv 3) pa_nil)))))
    (pss_cons (ps_if (PW.pt (pw_or (pt_not (pt_val (pe_callR (ok__law_alike T 4) (hr.mono (by decide)) (kp__law_alike T) rfl (T.glo 65 (x := "_law_alike") rfl) pass0 (pa_cons (pv 8) (pa_cons (pv 6) pa_nil))))) (pw_or1 (pt_cmpR (op_neD hr.units) (pe_prop (pv 4) (T.cls 45 (x := "BottleObserver") rfl) (T.prop 11 (x := "BottleObserver") (f := "records") rfl) (pk_BottleObserver_records T).choose_spec.1 (hr.mono (by decide)) (pk_BottleObserver_records T).choose_spec.2 .nil pass0 rfl) (pe_lst (pa_cl (pa_cons (pe_tup (pa_cl (pa_cons pe_str (pa_cons (pe_ix ix_tup (pe_prop (pv 2) (T.cls 36 (x := "Offer") rfl) (T.prop 7 (x := "Offer") (f := "kinds") rfl) (pk_Offer_kinds T).choose_spec.1 (hr.mono (by decide)) (pk_Offer_kinds T).choose_spec.2 .nil pass0 rfl) pe_int (fun _ _ => rfl)) (pa_cons (pv 5) pa_nil))))) pa_nil))) (nomark _))))) (pss_one (ps_ret pe_bl)) pss_nil)
    (pss_cons (ps_for PassesOwn.never rfl (pi_list (pv 8)) (pg_name (i := 9) nd rfl (Or.inl rfl)) (pss_one (ps_if (pt_val (pe_callB call_isi rfl (T.fre 62 (x := "isinstance") rfl) (by decide +kernel) (pa_cons (pv 9) (pa_cons (pe_bltn rfl (T.fre 39 (x := "list") rfl) (by decide +kernel) rfl) pa_nil)))) (pss_one (ps_expr (pe_bm PySem.F.plainAttrs_list PySem.F.slot_list_append PySem.F.type_list_append mt_append (pv 9) (pa_cons pe_int pa_nil)))) (pss_one (ps_if (pt_val (pe_callB call_isi rfl (T.fre 62 (x := "isinstance") rfl) (by decide +kernel) (pa_cons (pv 9) (pa_cons (pe_bltn rfl (T.fre 66 (x := "dict") rfl) (by decide +kernel) rfl) pa_nil)))) (pss_one (ps_expr (pe_dclear (pv 9)))) pss_nil)))))
    (pss_one (ps_set (i := 6) nd rfl (Or.inl rfl) (pe_ifExp (pt_cmpR op_eq (pv 7) pe_int (nomark _)) (pe_callR (ok__law_all T) (hr.mono (by decide)) (kp__law_all T) rfl (T.glo 81 (x := "_law_all") rfl) pass0 (pa_cons (pv 2) (pa_cons (pv 4) (pa_cons (pv 3) pa_nil)))) (pv 6))))))))
    (pss_one (ps_ret pe_bl))))))))
end
end EB
namespace EB
open PySem PySem.Spec PyProof.Rows L2
theorem facts {P : Program} {w : World} {K : PySem.W.Frag} {h : Heap} {mg : Str → Option Value} {f : Addr} (X : K.In h) (G : h.Ns mainGlobals mg) (hfa : mg ("law" : Str) = some (.ref f)) (c : SaysL fa fn fb fx tf h K) :
    ∃ fd : FuncData, (∀ (s : Shared) (v : Value), BindsTo s fd ⟨[v], []⟩ [("_law_script", v)]) ∧ ∀ base : Heap, K.In base → base.Ns mainGlobals mg → FnOk P w K mg base CX0 11 f fd ["_law_script"] (sp_law K) := by
  have T : Tx K mg := tx1_of X G c
  obtain ⟨fd, F⟩ := c.s.def_ 56 (d := d_law) rfl
  have e := hfa.symm.trans (T.glo 88 (x := "law") rfl)
  cases e
  have b := FunD.bindsA (ps := ["_law_script"]) F fun _ _ _ _ _ _ us hl => match us, hl with | [_], _ => rfl
  exact ⟨fd, fun s v => b s [v] rfl, fun base _ _ => ok_law T F⟩
end EB
open PySem PySem.W PySem.Calls PyProof.Rows
set_option maxHeartbeats 0
theorem PySem.Challenge.cw_emptiesback_k14_repeated_calls_holds : PySem.Challenge.rw_emptiesback_k14_repeated_calls.Holds := by
  w_on; o_law
  refine HandSHeadRun.head_any (r := OpenLaw.row PySem.Challenge.rw_emptiesback_k14_repeated_calls) (q := view (OpenLaw.row PySem.Challenge.rw_emptiesback_k14_repeated_calls).prog [49]) (H := EB.hookL 5 EB.fa EB.fn EB.fb EB.fx EB.tf) (ob := EB.ob) (M := 9000) (loose := EB.names) (d := HandSHeadRun.topDef (OpenLaw.row PySem.Challenge.rw_emptiesback_k14_repeated_calls).prog 49) (kwd := []) EB.ob_eq
    (by kernel_rfl) (fun s => by kernel_rfl) EB.run (by kernel_rfl) (by kernel_rfl) (by kernel_rfl) (by rfl) (by first | assumption | decide +kernel) (by decide +kernel) ⟨rfl, rfl, rfl, rfl, rfl, by decide +kernel⟩ ?hw ?hc
  case hw => w_witness2
  case hc =>
    refine EB.walk_ofTE (l := PySem.Challenge.rw_emptiesback_k14_repeated_calls) (n := 63) (k := 11) (x := "_law_script") (CX := L2.CX0) rfl (by decide) (by kernel_rfl) ⟨rfl, by decide, by decide⟩ ?F (fun _ _ _ _ z => z)
    intro w mg fa h Y G hmg0
    obtain ⟨K, KX, c⟩ := Y
    have hmg : mg ("law" : PySem.Str) = some (.ref fa) := by
      have e : (HandSHeadRun.topDef (OpenLaw.row PySem.Challenge.rw_emptiesback_k14_repeated_calls).prog 49).name = ("law" : PySem.Str) := by kernel_rfl
      rw [← e]
      exact hmg0
    obtain ⟨fd, hb, hF⟩ := EB.facts (P := (PySem.Challenge.rw_emptiesback_k14_repeated_calls).prog) (w := w) KX G hmg c
    exact ⟨K, fd, [], EB.sp_law K, KX, (fun _ z => nomatch z), (fun _ z => nomatch z), (fun _ z => nomatch z), hb, fun H a ns hl _ hS => ⟨a, ns, rfl, hS, hl, fun _ => rfl⟩, fun base h1 h2 _ => hF base h1 h2⟩
