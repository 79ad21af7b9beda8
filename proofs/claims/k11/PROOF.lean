import PyProof.Rows.All
import Wide.All
import OpenK.AllK
import Wide.FinOn
import HandS.ForMost
import HandS.ForExc
import HandS.IsInst
import HandS.Wide
import HandS.EndBits
import KE.RegMulBits
import HandS.TryMany
import HandS.Rev
import KE.DatumOrd
import KE.IntBitsLaws
import HandS.SortRule
import HandS.SortInts
import HandS.TupLe
import HandS.Conv
import HandS.ExcOwn
import PySem.Challenge.RW_splitheap_k11_whole_work
set_option Elab.async false
set_option linter.all false
set_option maxRecDepth 100000
set_option maxHeartbeats 4000000
/-! The base: readings walked from the left (x_..), heaps, frames. -/
namespace G
open PySem PySem.Spec PyProof.Rows L2

/-! ### operators' readings by name -/
abbrev oAdd : R2 := rI0 fun i j => .int (i + j)
abbrev oSub : R2 := rI0 fun i j => .int (i - j)
abbrev oMul : R2 := rI CMul fun i j => .int (i * j)
abbrev oMulX : R2 := rI IntMulOk fun i j => .int (i * j)
abbrev oDiv : R2 := rI CDiv fun i j => .int (i / j)
abbrev oMod : R2 := rI (fun _ j => 0 < j) fun i j => .int (i % j)
abbrev oPow : R2 := rI CPow fun i j => .int (i ^ j.toNat)
abbrev oLt : R2 := rI0 fun i j => .bl (decide (i < j))
abbrev oLe : R2 := rI0 fun i j => .bl (decide (i ≤ j))
abbrev oGt : R2 := rI0 fun i j => .bl (decide (j < i))
abbrev oGe : R2 := rI0 fun i j => .bl (decide (j ≤ i))
def oIsN : R2 := fun x y H Q => y = .non ∧ Q (.bl (decide (x = .non))) H
def oNotN : R2 := fun x y H Q => y = .non ∧ Q (.bl (!decide (x = .non))) H
abbrev oNeg : V → Hp → VK → Prop := rU fun i => .int (-i)
theorem op_mulX {X : Cx} : OpR X (binaryOp .Mult) oMulX := opI fun _ _ _ _ _ _ _ hc q => mul_int q hc
theorem op_isN' {X : Cx} : OpR X (compareOp .Is) oIsN := op_isN
theorem op_notN' {X : Cx} : OpR X (compareOp .IsNot) oNotN := op_notN
def oLen (K : PySem.W.Frag) : List V → Hp → VK → Prop := fun xs H Q => ∃ p ys, xs = [.ref p] ∧ (SqL K H p ys ∨ SqT K H p ys) ∧ Q (.int ys.length) H
theorem call_len' {X : Cx} : CallR X (.builtin "len") (oLen X.K) := call_len_seq
def oAbs : List V → Hp → VK → Prop := fun xs H Q => ∃ i, xs = [.int i] ∧ Q (.int (if i < 0 then -i else i)) H
theorem call_abs' {X : Cx} : CallR X (.builtin "abs") oAbs := call_abs
def oMax2 : List V → Hp → VK → Prop := fun xs H Q => ∃ i j, xs = [.int i, .int j] ∧ Q (.int (if j > i then j else i)) H
def oMin2 : List V → Hp → VK → Prop := fun xs H Q => ∃ i j, xs = [.int i, .int j] ∧ Q (.int (if j < i then j else i)) H
theorem call_max2' {X : Cx} (hc : X.calm = true) : CallR X (.builtin "max") oMax2 := call_max2 hc
theorem call_min2' {X : Cx} (hc : X.calm = true) : CallR X (.builtin "min") oMin2 := call_min2 hc
def oList (K : PySem.W.Frag) : List V → Hp → VK → Prop := fun xs H Q => ∃ p ys, xs = [.ref p] ∧ (SqL K H p ys ∨ SqT K H p ys) ∧ ∀ l, H l = none → Q (.ref l) (upd H l (.lst ys))
theorem call_list' {X : Cx} : CallR X (.type "list") (oList X.K) := call_list_of

/-! ### steps from the left -/
section
variable {K : PySem.W.Frag} {σ σ' : L2.St} {H H' : Hp} {Q : VK} {QB : Bool → Hp → Prop} {QA : List V → Hp → Prop} {ta tb tc te : TE} {t u : TT} {ts tu tw : TS} {r r' : R2} {v x y : V} {i j : Int} {D : Ends} {p a : Addr} {xs : List V}
theorem x_var {n : Nat} (h : σ[n]? = some (some v)) (k : Q v H) : tVar n σ H Q := ⟨v, h, k⟩
theorem x_c (k : Q v H) : tC v σ H Q := k
theorem x_op (k : ta σ H fun x H1 => tb σ H1 fun y H2 => r x y H2 Q) : tOp r ta tb σ H Q := k
theorem x_un {r : V → Hp → VK → Prop} (k : ta σ H fun x H1 => r x H1 Q) : tUn r ta σ H Q := k
theorem x_I0 {g : Int → Int → V} (k : Q (g i j) H) : rI0 g (.int i) (.int j) H Q := ⟨i, j, rfl, rfl, k⟩
theorem x_I {C : Int → Int → Prop} {g : Int → Int → V} (hc : C i j) (k : Q (g i j) H) : rI C g (.int i) (.int j) H Q := ⟨i, j, rfl, rfl, hc, k⟩
theorem x_U {g : Int → V} (k : Q (g i) H) : rU g (.int i) H Q := ⟨i, rfl, k⟩
theorem x_div (hc : 0 < j ∧ j < 1073741824) (k : Q (.int (i / j)) H) : rI CDiv (fun i j => .int (i / j)) (.int i) (.int j) H Q := x_I hc k
theorem x_mod (hc : 0 < j) (k : Q (.int (i % j)) H) : rI (fun _ j => 0 < j) (fun i j => .int (i % j)) (.int i) (.int j) H Q := x_I hc k
theorem x_pow (hc : 0 ≤ j ∧ j ≤ 1000000 ∧ i.natAbs < 2 ^ 64) (k : Q (.int (i ^ j.toNat)) H) : rI CPow (fun i j => .int (i ^ j.toNat)) (.int i) (.int j) H Q := x_I hc k
theorem x_mul (hc : (-(2 ^ 64) < i ∧ i < 2 ^ 64) ∨ (-(2 ^ 64) < j ∧ j < 2 ^ 64)) (k : Q (.int (i * j)) H) : rI CMul (fun i j => .int (i * j)) (.int i) (.int j) H Q := x_I hc k
theorem x_eqI (k : Q (.bl (decide (i = j))) H) : rEq (.int i) (.int j) H Q := ⟨rfl, by
  have e : decide (V.int i = V.int j) = decide (i = j) := by simp
  rw [e]; exact k⟩
theorem x_neI (k : Q (.bl (!decide (i = j))) H) : rNe (.int i) (.int j) H Q := ⟨rfl, by
  have e : decide (V.int i = V.int j) = decide (i = j) := by simp
  rw [e]; exact k⟩
theorem x_eq (hs : scal x y = true) (k : Q (.bl (decide (x = y))) H) : rEq x y H Q := ⟨hs, k⟩
theorem x_ne (hs : scal x y = true) (k : Q (.bl (!decide (x = y))) H) : rNe x y H Q := ⟨hs, k⟩
theorem x_isN (k : Q (.bl (decide (x = .non))) H) : oIsN x .non H Q := ⟨rfl, k⟩
theorem x_notN (k : Q (.bl (!decide (x = .non))) H) : oNotN x .non H Q := ⟨rfl, k⟩
theorem x_ixL {vi : V} (h : SqL K H p xs) (e : vi = .int i) (ha : atI xs i = some v) (k : Q v H) : rIxL K (.ref p) vi H Q := by subst e; exact ⟨p, xs, i, v, rfl, rfl, h, ha, k⟩
theorem x_ixT {vi : V} (h : SqT K H p xs) (e : vi = .int i) (ha : atI xs i = some v) (k : Q v H) : rIxT K (.ref p) vi H Q := by subst e; exact ⟨p, xs, i, v, rfl, rfl, h, ha, k⟩
/-! tests -/
theorem x_tTest (k : te σ H fun x H' => ∃ k, x = .bl k ∧ QB k H') : tTest te σ H QB := k
theorem x_tB (k : te σ H fun x H' => ∃ k, x = .bl k ∧ QB k H') : tB te σ H QB := k
theorem x_bl {b : Bool} {B : Bool → Prop} (k : B b) : ∃ k, V.bl b = .bl k ∧ B k := ⟨b, rfl, k⟩
theorem x_and (k : t σ H fun c H1 => if c = true then u σ H1 QB else QB false H1) : tAnd t u σ H QB := k
theorem x_or (k : t σ H fun c H1 => if c = true then QB true H1 else u σ H1 QB) : tOr t u σ H QB := k
theorem x_not (k : t σ H fun c H1 => QB (!c) H1) : tNot t σ H QB := k
theorem x_andV (k : ta σ H fun x H1 => ∃ c, x = .bl c ∧ if c = true then tb σ H1 Q else Q (.bl false) H1) : tAndV ta tb σ H Q := k
theorem x_orV (k : ta σ H fun x H1 => ∃ c, x = .bl c ∧ if c = true then Q (.bl true) H1 else tb σ H1 Q) : tOrV ta tb σ H Q := k
theorem x_notV (k : ta σ H fun x H1 => ∃ c, x = .bl c ∧ Q (.bl (!c)) H1) : tNotV ta σ H Q := k
theorem x_chain (k : ta σ H fun x H1 => tb σ H1 fun y H2 => r x y H2 fun z H3 => ∃ k, z = .bl k ∧ (if k = true then tc σ H3 fun w' H4 => r' y w' H4 Q else Q (.bl false) H3)) : tChain r r' ta tb tc σ H Q := k
theorem x_ite {c A B : Prop} [Decidable c] (h1 : c → A) (h2 : ¬ c → B) : if decide c = true then A else B := by
  by_cases h : c
  · rw [decide_eq_true h]; exact h1 h
  · rw [decide_eq_false h]; exact h2 h
theorem x_iteN {c A B : Prop} [Decidable c] (h1 : ¬ c → A) (h2 : c → B) : if (!decide c) = true then A else B := by
  by_cases h : c
  · rw [decide_eq_true h]; exact h2 h
  · rw [decide_eq_false h]; exact h1 h
theorem x_iteb {b : Bool} {A B : Prop} (h1 : b = true → A) (h2 : b = false → B) : if b = true then A else B := by
  cases b with
  | true => exact h1 rfl
  | false => exact h2 rfl
theorem x_itebN {b : Bool} {A B : Prop} (h1 : b = false → A) (h2 : b = true → B) : if (!b) = true then A else B := by
  cases b with
  | true => exact h2 rfl
  | false => exact h1 rfl
theorem x_T {b : Bool} {A B : Prop} (e : b = true) (h : A) : if b = true then A else B := by subst e; exact h
theorem x_F {b : Bool} {A B : Prop} (e : b = false) (h : B) : if b = true then A else B := by subst e; exact h
/-! statements -/
theorem x_seq (k : ts { D with nx := tu D } σ H) : tSeq ts tu D σ H := k
theorem x_asg {n : Nat} (k : te σ H fun x H1 => D.nx (σ.set n (some x)) H1) : tAsg te (gName n) D σ H := k
theorem x_asgG {g : TG} (k : te σ H fun x H1 => g x σ H1 D.nx) : tAsg te g D σ H := k
theorem x_ret (k : te σ H D.rt) : tRet te D σ H := k
theorem x_retN (k : D.rt .non H) : tRetN D σ H := k
theorem x_drop (k : te σ H fun _ H1 => D.nx σ H1) : tDrop te D σ H := k
theorem x_ifS (k : t σ H fun b H1 => if b = true then tu D σ H1 else tw D σ H1) : tIfS t tu tw D σ H := k
theorem x_next (k : D.nx σ H) : tNext D σ H := k
/-! arguments, calls -/
theorem x_nil (k : QA [] H) : tNil σ H QA := k
theorem x_cons {tr : TA} (k : ta σ H fun x H1 => tr σ H1 fun xs H2 => QA (x :: xs) H2) : tCons ta tr σ H QA := k
theorem x_tup {ta : TA} (k : ta σ H fun xs H1 => xs.length ≤ sizeLine ∧ ∀ p, H1 p = none → Q (.ref p) (upd H1 p (.tup xs))) : tTup ta σ H Q := k
theorem x_lst {ta : TA} (k : ta σ H fun xs H1 => xs.length ≤ sizeLine ∧ ∀ p, H1 p = none → Q (.ref p) (upd H1 p (.lst xs))) : tLst ta σ H Q := k
theorem x_call {sp : Sp} {dvs : List V} {E : XK} {ta : TA} (k : ta σ H fun vs H1 => sp (vs ++ dvs) H1 Q E) : tCall sp dvs E ta σ H Q := k
theorem x_meth {C : Addr} {m : Str} {sp : Sp} {dvs : List V} {E : XK} {tl : TA} (k : ta σ H fun x H1 => ∃ a dx fs, x = .ref a ∧ H1 a = some (.ins C dx fs) ∧ fs.lookup m = none ∧ tl σ H1 fun vs H2 => sp (x :: (vs ++ dvs)) H2 Q E) : tMeth C m sp dvs E ta tl σ H Q := k
theorem x_make {C : Addr} {sp : Sp} {dvs : List V} {E : XK} {tl : TA} (k : tl σ H fun vs H1 => ∀ x dx, H1 x = none → H1 dx = none → dx ≠ x → sp (.ref x :: (vs ++ dvs)) (upd (upd H1 dx (.own x)) x (.ins C dx [])) (fun v H2 => v = .non ∧ Q (.ref x) H2) E) : tMake C sp dvs E tl σ H Q := k
theorem x_cb {r : List V → Hp → VK → Prop} {ta : TA} (k : ta σ H fun vs H1 => r vs H1 Q) : tCB r ta σ H Q := k
theorem x_lenL {xs : List V} (h : SqL K H p xs) (k : Q (.int xs.length) H) : oLen K [.ref p] H Q := ⟨p, xs, rfl, .inl h, k⟩
theorem x_lenT {xs : List V} (h : SqT K H p xs) (k : Q (.int xs.length) H) : oLen K [.ref p] H Q := ⟨p, xs, rfl, .inr h, k⟩
theorem x_max2 (k : Q (.int (if j > i then j else i)) H) : oMax2 [.int i, .int j] H Q := ⟨i, j, rfl, k⟩
theorem x_min2 (k : Q (.int (if j < i then j else i)) H) : oMin2 [.int i, .int j] H Q := ⟨i, j, rfl, k⟩
theorem x_abs (k : Q (.int (if i < 0 then -i else i)) H) : oAbs [.int i] H Q := ⟨i, rfl, k⟩
/-! attributes -/
def kFld (K : PySem.W.Frag) (f : Str) (Q : VK) : VK := fun x H1 => ∃ a C dx fs v, x = .ref a ∧ H1 a = some (.ins C dx fs) ∧ Cls K C ∧ NoAttr K C f ∧ fs.lookup f = some v ∧ Q v H1
theorem x_fld {f : Str} (k : ta σ H (kFld K f Q)) : tFld K ta f σ H Q := k
theorem x_kFld {f : Str} {C dx : Addr} {fs : List (Str × V)} (h : H a = some (.ins C dx fs)) (c : Cls K C) (n : NoAttr K C f) (l : fs.lookup f = some v) (k : Q v H) : kFld K f Q (.ref a) H := ⟨a, C, dx, fs, v, rfl, h, c, n, l, k⟩
def kSet (K : PySem.W.Frag) (f : Str) (y : V) (N : Hp → Prop) : VK := fun x H2 => ∃ a C dx fs, x = .ref a ∧ H2 a = some (.ins C dx fs) ∧ Cls K C ∧ NoAttr K C f ∧ fs.length < 1000 ∧ N (upd H2 a (.ins C dx (putF f y fs)))
theorem x_sfld {f : Str} (k : tb σ H fun y H1 => ta σ H1 (kSet K f y fun H3 => D.nx σ H3)) : sFld K ta tb f D σ H := k
/-! for over range(n), over a list: P, a word of the turn -/
theorem x_forR1 {j : Nat} {tb : TS} {tl : TA} (n : Nat) (hv : ∀ R : List V → Hp → Prop, R [.int n] H → tl σ H R) (hn : n ≤ 1000000) (P : Nat → L2.St → Hp → Prop) (h0 : P 0 σ H)
    (hs : ∀ i σ H, i < n → P i σ H → tb { D with nx := P (i + 1), ct := P (i + 1), bk := D.nx } (σ.set j (some (.int i))) H) (hd : ∀ σ H, P n σ H → D.nx σ H) : tFor (iRng1 tl) (gName j) tb D σ H :=
  hv _ ⟨n, rfl, by omega, by omega, for_range (lo := 0) (n := n) P h0 (fun i σ H hi p => by
    have e0 : (0 : Int) + (i : Int) = (i : Int) := Int.zero_add _
    show tb { D with nx := P (i + 1), ct := P (i + 1), bk := D.nx } (σ.set j (some (.int ((0 : Int) + (i : Int))))) H
    rw [e0]
    exact hs i σ H hi p) hd⟩
/-- range(a, b) -/
theorem x_forR2 {j : Nat} {tb : TS} {tl : TA} (a n : Nat) (hv : ∀ R : List V → Hp → Prop, R [.int a, .int (a + n : Nat)] H → tl σ H R) (hn : a + n ≤ 1000000) (P : Nat → L2.St → Hp → Prop) (h0 : P 0 σ H)
    (hs : ∀ i σ H, i < n → P i σ H → tb { D with nx := P (i + 1), ct := P (i + 1), bk := D.nx } (σ.set j (some (.int (a + i : Nat)))) H) (hd : ∀ σ H, P n σ H → D.nx σ H) : tFor (iRng2 tl) (gName j) tb D σ H :=
  hv _ ⟨a, (a + n : Nat), rfl, ⟨by omega, by omega, by omega, by omega⟩, by
    have e1 : (((a + n : Nat) : Int) - (a : Int)).toNat = n := by omega
    rw [e1]
    exact for_range (lo := (a : Int)) (n := n) P h0 (fun i σ H hi p => by
      have e0 : (a : Int) + (i : Int) = ((a + i : Nat) : Int) := by omega
      show tb { D with nx := P (i + 1), ct := P (i + 1), bk := D.nx } (σ.set j (some (.int ((a : Int) + (i : Int))))) H
      rw [e0]
      exact hs i σ H hi p) hd⟩
theorem x_forL {j : Nat} {tb : TS} {tl : TE} {a : Addr} {xs : List V} (hv : ∀ R : VK, R (.ref a) H → tl σ H R) (hx : SqL K H a xs) (P : Nat → L2.St → Hp → Prop) (h0 : P 0 σ H) (hl : ∀ i σ H, i ≤ xs.length → P i σ H → SqL K H a xs)
    (hs : ∀ i x σ H, xs[i]? = some x → P i σ H → tb { D with nx := P (i + 1), ct := P (i + 1), bk := D.nx } (σ.set j (some x)) H) (hd : ∀ σ H, P xs.length σ H → D.nx σ H) : tFor (iList K tl) (gName j) tb D σ H :=
  hv _ ⟨a, rfl, ⟨xs, hx⟩, for_list P h0 hl hs hd⟩
theorem x_forRev {j : Nat} {tb : TS} {tl : TA} {a : Addr} {xs : List V} (hv : ∀ R : List V → Hp → Prop, R [.ref a] H → tl σ H R) (hx : SqL K H a xs) (P : Nat → L2.St → Hp → Prop) (h0 : P 0 σ H) (hq : ∀ i σ H, P i σ H → SqL K H a xs)
    (hs : ∀ i x σ H, i < xs.length → xs[xs.length - 1 - i]? = some x → P i σ H → tb { D with nx := P (i + 1), ct := P (i + 1), bk := D.nx } (σ.set j (some x)) H) (hd : ∀ σ H, P xs.length σ H → D.nx σ H) : tFor (iRev K tl) (gName j) tb D σ H :=
  hv _ ⟨a, xs, rfl, hx, RT.for_Itv P h0 hq hs hd⟩
/-! stores, lists' methods -/
theorem x_gsub {to ti : TE} {t : TSet} {R : L2.St → Hp → Prop} (k : to σ H fun o H1 => ti σ H1 fun i H2 => t o i v H2 fun H3 => R σ H3) : gSub to ti t v σ H R := k
theorem x_setL {z : Int} {n : Nat} {R : Hp → Prop} (h : H p = some (.lst xs)) (hz : ixN xs.length z = some n) (k : R (upd H p (.lst (xs.set n v)))) : rSetL (.ref p) (.int z) v H R := ⟨p, xs, z, n, rfl, rfl, h, hz, k⟩
theorem x_bm {T : String} {r : V → List V → Hp → VK → Prop} {tl : TA} (k : te σ H fun x H1 => tyV K T x H1 ∧ tl σ H1 fun xs H2 => r x xs H2 Q) : tBM K T r te tl σ H Q := k
theorem x_bm0 {T : String} {r : V → List V → Hp → VK → Prop} (k : te σ H fun x H1 => tyV K T x H1 ∧ r x [] H1 Q) : tBM0 K T r te σ H Q := k
theorem x_tyL {B : Prop} (h : SqL K H p xs) (k : B) : tyV K "list" (.ref p) H ∧ B := ⟨Or.inl ⟨rfl, xs, h⟩, k⟩
theorem x_append (h : H p = some (.lst xs)) (hz : xs.length < 100000) (k : Q .non (upd H p (.lst (xs ++ [v])))) : rAppend (.ref p) [v] H Q := ⟨p, xs, v, rfl, rfl, h, Nat.lt_of_lt_of_le hz (by decide), k⟩
theorem x_pop (h : H p = some (.lst xs)) (hy : xs[xs.length - 1]? = some v) (k : Q v (upd H p (.lst xs.dropLast))) : rPop (.ref p) [] H Q := ⟨p, xs, v, rfl, rfl, h, hy, k⟩
theorem x_clear (h : H p = some (.lst xs)) (k : Q .non (upd H p (.lst []))) : rClear (.ref p) [] H Q := ⟨p, xs, rfl, rfl, h, k⟩
theorem x_dget {td ty : TE} (k : td σ H fun x H1 => ty σ H1 fun y H2 => ∃ a v, x = .ref a ∧ DGet H2 a y (some v) ∧ Q v H2) : tDGet td ty σ H Q := k
theorem x_dput {td ty tv : TE} (k : tv σ H fun v H1 => td σ H1 fun x H2 => ty σ H2 fun y H3 => ∃ a H4, x = .ref a ∧ DPut H3 a y v H4 ∧ D.nx σ H4) : sDPut td ty tv D σ H := k
/-! while: P, a word with a measure -/
theorem x_while {c : TT} {tb : TS} (P : Nat → L2.St → Hp → Prop) (m0 : Nat) (h0 : P m0 σ H)
    (hs : ∀ m σ H, P m σ H → c σ H fun b H1 => if b = true then ∃ N : L2.St → Hp → Prop, (∀ σ' H', N σ' H' → ∃ m', m' < m ∧ P m' σ' H') ∧ tb { D with nx := N, ct := N, bk := D.nx } σ H1 else D.nx σ H1) : tWhile c tb D σ H :=
  ⟨P, ⟨m0, h0⟩, hs⟩
end

/-! ### heaps and frames -/
/-- all that stands, but for M, stands as before; tuples in any case -/
def Fr (M : Addr → Prop) (H H' : Hp) : Prop := ∀ b o, H b = some o → ¬ M b → H' b = some o
theorem Fr.refl {M : Addr → Prop} {H : Hp} : Fr M H H := fun _ _ h _ => h
theorem Fr.trans {M : Addr → Prop} {H H1 H2 : Hp} (a : Fr M H H1) (b : Fr M H1 H2) : Fr M H H2 := fun c o h n => b c o (a c o h n) n
theorem Fr.mono {M M' : Addr → Prop} {H H' : Hp} (a : Fr M H H') (h : ∀ b, M b → M' b) : Fr M' H H' := fun c o e n => a c o e fun z => n (h c z)
theorem Fr.new {M : Addr → Prop} {H : Hp} {p : Addr} {o : HO} (h : H p = none) : Fr M H (upd H p o) := fun b u e _ => by
  rw [upd_ne (ne_of_none e h)]; exact e
theorem Fr.at {M : Addr → Prop} {H : Hp} {p : Addr} {o : HO} (h : M p) : Fr M H (upd H p o) := fun b u e n => by
  rw [upd_ne (fun z => n (by rw [z]; exact h))]; exact e
/-- an address that was free ahead may change -/
theorem Fr.mut {M : Addr → Prop} {H H' : Hp} {p : Addr} {o : HO} (e : Fr M H H') (h : H p = none) : Fr M H (upd H' p o) := fun a u ha n => by
  rw [upd_ne (ne_of_none ha h)]; exact e a u ha n
abbrev M0 : Addr → Prop := fun _ => False
theorem Fr.free {H H' : Hp} (e : Fr M0 H H') {p : Addr} (h : H' p = none) : H p = none := by
  cases q : H p with
  | none => rfl
  | some o => rw [e p o q (fun z => z)] at h; cases h
theorem rd_fr {M : Addr → Prop} {H H' : Hp} {a : Addr} {u : HO} (e : Fr M H H') (n : ¬ M a) (h : Rd H a u) : Rd H' a u := by
  rcases h with h | ⟨o, h⟩
  · exact Or.inl (e a _ h n)
  · exact Or.inr ⟨o, e a _ h n⟩
theorem sql_fr {M : Addr → Prop} {K : PySem.W.Frag} {H H' : Hp} {a : Addr} {xs : List V} (e : Fr M H H') (n : ¬ M a) (h : SqL K H a xs) : SqL K H' a xs := by
  rcases h with h | h
  · exact Or.inl (rd_fr e n h)
  · exact Or.inr h
theorem sl_of {K : PySem.W.Frag} {H : Hp} {a : Addr} {xs : List V} (h : H a = some (.lst xs)) : SqL K H a xs := Or.inl (Or.inl h)
theorem st_of {K : PySem.W.Frag} {H : Hp} {a : Addr} {xs : List V} (h : H a = some (.tup xs)) : SqT K H a xs := Or.inl (Or.inl h)
theorem sz_le {n : Nat} (h : n ≤ 100000) : n ≤ sizeLine := Nat.le_trans h (by decide)
theorem sz_lt {n : Nat} (h : n < 100000) : n < sizeLine := Nat.lt_of_lt_of_le h (by decide)

/-! ### attribute rows -/
theorem lk_here {k : Str} {v : V} {r : List (Str × V)} : List.lookup k ((k, v) :: r) = some v := by
  have e : (k == k) = true := beq_self_eq_true k
  simp only [List.lookup, e]
theorem lk_past {k g : Str} {v : V} {r : List (Str × V)} (h : (k == g) = false) : List.lookup k ((g, v) :: r) = List.lookup k r := by
  simp only [List.lookup, h]
theorem put_here {f : Str} {v x : V} {r : List (Str × V)} : putF f v ((f, x) :: r) = (f, v) :: r := if_pos rfl
theorem put_past {f g : Str} {v x : V} {r : List (Str × V)} (h : ¬ g = f) : putF f v ((g, x) :: r) = (g, x) :: putF f v r := if_neg h

/-! ### lists of ints, of places -/
def oV : Option Nat → V
  | none => .non
  | some k => .int k
theorem at_map {α : Type} {f : α → V} {l : List α} {n : Nat} {a : α} (h : l[n]? = some a) : atI (l.map f) (n : Int) = some (f a) := atI_nat (by rw [List.getElem?_map, h]; rfl)
theorem dec_oV {o : Option Nat} : decide (oV o = V.non) = o.isNone := by
  cases o with
  | none => rfl
  | some k => exact decide_eq_false (fun z => by cases z)
theorem ixN_nat {n j : Nat} (hj : j < n) : ixN n (j : Int) = some j := by
  unfold ixN
  rw [if_pos (by omega), if_pos (by omega)]
  simp
theorem oV_ne {o : Option Nat} {k : Nat} (h : ¬ oV o = V.int k) : o ≠ some k := fun e => h (by rw [e]; rfl)
theorem oV_eq {o : Option Nat} {k : Nat} : oV o = V.int k ↔ o = some k := by
  cases o with
  | none => exact ⟨fun z => (nomatch z), fun z => (nomatch z)⟩
  | some j =>
    constructor
    · intro z
      have z' : ((j : Nat) : Int) = (k : Int) := by injection z
      exact congrArg some (by omega)
    · intro z; cases z; rfl
theorem scal_oV {o : Option Nat} {i : Int} : scal (oV o) (.int i) = true := by cases o <;> rfl

/-! ### lists told by a function of the place -/
def tab (n : Nat) (f : Nat → V) : List V := (List.range n).map f
theorem tab_len {n : Nat} {f : Nat → V} : (tab n f).length = n := by unfold tab; rw [List.length_map, List.length_range]
theorem tab_get {n i : Nat} {f : Nat → V} (h : i < n) : (tab n f)[i]? = some (f i) := by
  unfold tab
  rw [List.getElem?_map, List.getElem?_range h]; rfl
theorem tab_at {n i : Nat} {f : Nat → V} (h : i < n) : atI (tab n f) (i : Int) = some (f i) := atI_nat (tab_get h)
theorem tab_ext {n : Nat} {f g : Nat → V} (h : ∀ i, i < n → f i = g i) : tab n f = tab n g := by
  unfold tab
  exact List.map_congr_left fun i hi => h i (List.mem_range.1 hi)
theorem tab_succ {n : Nat} {f : Nat → V} : tab (n + 1) f = tab n f ++ [f n] := by
  unfold tab
  rw [List.range_succ, List.map_append]; rfl
theorem tab_set {n i : Nat} {f : Nat → V} {v : V} : (tab n f).set i v = tab n fun j => if j = i then v else f j := by
  refine List.ext_getElem? fun j => ?_
  rw [List.getElem?_set]
  by_cases hj : j < n
  · rw [tab_get hj, tab_get hj]
    by_cases e : i = j
    · subst e
      rw [if_pos rfl, tab_len, if_pos hj, if_pos rfl]
    · rw [if_neg e, if_neg (fun z => e z.symm)]
  · have h1 : (tab n fun j => if j = i then v else f j)[j]? = none := List.getElem?_eq_none (by rw [tab_len]; omega)
    have h2 : (tab n f)[j]? = none := List.getElem?_eq_none (by rw [tab_len]; omega)
    rw [h1, h2, tab_len]
    split
    · rw [if_neg (by omega)]
    · rfl
theorem tab_nil {f : Nat → V} : tab 0 f = [] := rfl
theorem tab_ix {n i : Nat} {f : Nat → V} (h : i < n) : ixN (tab n f).length (i : Int) = some i := by rw [tab_len]; exact ixN_nat h
/-! ### the addresses that the top has made; the law's own promise and its row -/
structure Ad where
  CF : Addr
  CT : Addr
  xHE : Addr
  xNH : Addr
  xNT : Addr
  xBA : Addr
  xSA : Addr
  xHV : Addr
def spLaw (K : PySem.W.Frag) : Sp := fun vs H Q _ => match vs with
  | [v] => ∃ (a : Addr) (ns : List Int), v = .ref a ∧ SqL K H a (ns.map V.int) ∧ ns.length ≤ 63 ∧ (∀ z ∈ ns, Builtin.Int.intBits z ≤ 1048576) ∧ Only H ∧ ∀ H', Q (.bl true) H'
  | _ => False
theorem walk_law {l : PySem.W.OpenLaw} {q : Program} {loose : List Str} {XP : (Str → Option Value) → Heap → Prop} {YP : World → Heap → Prop} {d : DefRec} {K : Params → PySem.W.Frag} {k : Nat} {x : Str}
    (hn : l.most = some 63) (hdf : d.params.defaults = []) (hr : Room k callerA)
    (hY : ∀ (w : World) (h : Heap), YP w h → (K w.params).In h)
    (F : ∀ (w : World) (mg : Str → Option Value) (fa : Addr) (h : Heap), (K w.params).In h → h.Ns mainGlobals mg → mg d.name = some (.ref fa) →
      ∃ fd : FuncData, (∀ (s : Shared) (u : Value), BindsTo s fd ⟨[u], []⟩ [(x, u)]) ∧ ∀ base : Heap, (K w.params).In base → base.Ns mainGlobals mg → FnOk l.prog w (K w.params) mg base CX0 k fa fd [x] (spLaw (K w.params))) :
    PySem.W.WalkO q loose XP YP l.row.toRowW d [] (fun f vs => PySem.call f vs) :=
  L2.walk_ofB (n := 63) (k := k) (x := x) (CX := fun _ => CX0) (sp := fun w => spLaw (K w.params)) hn (by decide) hdf hr hY F (fun _ H a ns hl hb hO hS => ⟨a, ns, rfl, hS, hl, hb, hO, fun _ => rfl⟩) fun _ _ _ _ _ z => z
theorem units64 {k : Nat} {A : Around} (hr : Room k A) : A.units + 64 < cLine := by have := hr.un; omega
/-- a try with one clause, with its error's name, with several -/
def tTry1 (K : PySem.W.Frag) (c : Value) (tb : WX → TS) (ts : TS) : TS := fun D σ H => tb (wOnly K c (fun _ _ _ => ts) (fun _ _ _ _ => False) D) D σ H
def tTryN (K : PySem.W.Frag) (l : List (Value × (Addr → Value → Option Addr → TS))) (tb : WX → TS) : TS := fun D σ H => tb (wMany K (fun _ _ _ _ => False) D l) D σ H
def tTryAs (K : PySem.W.Frag) (c : Value) (i : Nat) (tb : WX → TS) (ts : Addr → Value → Option Addr → TS) : TS := fun D σ H => tb (wAs K c i ts (fun _ _ _ _ => False) D) D σ H
def tRaiseE (E : XK) (C : Addr) : TS := fun _ _ H => E (.ref C) none H
end G

/-! ### the walk: routine steps; w_ix by facts in the context -/
local macro_rules | `(tactic| walk_at "s1") => `(tactic| with_reducible first
  | (refine G.x_var rfl ?_)
  | (refine G.x_c ?_)
  | (refine G.x_op ?_)
  | (refine G.x_I0 ?_)
  | (refine G.x_seq ?_)
  | (refine G.x_asg ?_)
  | (refine G.x_ret ?_)
  | (refine G.x_drop ?_)
  | (refine G.x_next ?_)
  | (refine G.x_ifS ?_)
  | (refine G.x_tTest ?_)
  | (refine G.x_tB ?_)
  | (refine G.x_bl ?_)
  | (refine G.x_and ?_)
  | (refine G.x_or ?_)
  | (refine G.x_not ?_)
  | (refine G.x_andV ?_)
  | (refine G.x_orV ?_)
  | (refine G.x_notV ?_)
  | (refine G.x_chain ?_)
  | (refine G.x_nil ?_)
  | (refine G.x_cons ?_)
  | (refine G.x_tup ?_)
  | (refine G.x_lst ?_)
  | (refine G.x_call ?_)
  | (refine G.x_meth ?_)
  | (refine G.x_cb ?_)
  | (refine G.x_fld ?_)
  | (refine G.x_sfld ?_)
  | (refine G.x_un ?_)
  | (refine G.x_U ?_)
  | (refine G.x_eqI ?_)
  | (refine G.x_neI ?_)
  | (refine G.x_isN ?_)
  | (refine G.x_notN ?_)
  | (refine G.x_max2 ?_)
  | (refine G.x_min2 ?_)
  | (refine G.x_abs ?_)
  | (refine G.x_gsub ?_)
  | (refine G.x_bm ?_)
  | (refine G.x_bm0 ?_)
  | (refine G.x_dget ?_)
  | (refine G.x_dput ?_)
  | (refine G.x_asgG ?_)
  | (refine G.x_retN ?_))
local macro_rules | `(tactic| walk_at "se") => `(tactic| with_reducible first
  | (refine G.x_var rfl ?_)
  | (refine G.x_c ?_)
  | (refine G.x_op ?_)
  | (refine G.x_I0 ?_)
  | (refine G.x_asg ?_)
  | (refine G.x_ret ?_)
  | (refine G.x_drop ?_)
  | (refine G.x_next ?_)
  | (refine G.x_ifS ?_)
  | (refine G.x_tTest ?_)
  | (refine G.x_tB ?_)
  | (refine G.x_bl ?_)
  | (refine G.x_and ?_)
  | (refine G.x_or ?_)
  | (refine G.x_not ?_)
  | (refine G.x_andV ?_)
  | (refine G.x_orV ?_)
  | (refine G.x_notV ?_)
  | (refine G.x_chain ?_)
  | (refine G.x_nil ?_)
  | (refine G.x_cons ?_)
  | (refine G.x_tup ?_)
  | (refine G.x_lst ?_)
  | (refine G.x_call ?_)
  | (refine G.x_meth ?_)
  | (refine G.x_cb ?_)
  | (refine G.x_fld ?_)
  | (refine G.x_sfld ?_)
  | (refine G.x_un ?_)
  | (refine G.x_U ?_)
  | (refine G.x_eqI ?_)
  | (refine G.x_neI ?_)
  | (refine G.x_isN ?_)
  | (refine G.x_notN ?_)
  | (refine G.x_max2 ?_)
  | (refine G.x_min2 ?_)
  | (refine G.x_abs ?_)
  | (refine G.x_gsub ?_)
  | (refine G.x_bm ?_)
  | (refine G.x_bm0 ?_)
  | (refine G.x_dget ?_)
  | (refine G.x_dput ?_)
  | (refine G.x_asgG ?_)
  | (refine G.x_retN ?_))
section
open PySem L2 G
example {Q : VK} {H : Hp} (h : Q (.int (3 + 4)) H) : tOp oAdd (tVar 0) (tC (.int 4)) [some (.int 3)] H Q := by
  repeat walk_at "s1"
  exact h
example {D : Ends} {H : Hp} (h : D.rt (.int (3 + 4)) H) : tSeq (tAsg (tOp oAdd (tVar 0) (tC (.int 4))) (gName 1)) (tRet (tVar 1)) D [some (.int 3), none] H := by
  repeat walk_at "s1"
  exact h
end

/-! what several laws say in the same words -/
namespace G
open PySem PySem.Spec PyProof.Rows L2
section
variable {K : PySem.W.Frag} {σ : L2.St} {H : Hp} {Q : VK} {D : Ends}
theorem x_isiI {i : Int} {n : String} {b : Bool} (h : kitB "int" n = some b) (k : Q (.bl b) H) : rIsi K [.int i, .ty n] H Q := ⟨_, _, _, _, b, rfl, .ty n, .base (.int i), kit_ty h, k⟩
theorem x_isiT {p : Addr} {xs : List V} {n : String} {b : Bool} (hp : H p = some (.tup xs)) (h : kitB "tuple" n = some b) (k : Q (.bl b) H) : rIsi K [.ref p, .ty n] H Q := ⟨_, _, _, _, b, rfl, .ty n, .base (.tup hp), kit_ty h, k⟩
theorem x_isiL {p : Addr} {xs : List V} {n : String} {b : Bool} (hp : H p = some (.lst xs)) (h : kitB "list" n = some b) (k : Q (.bl b) H) : rIsi K [.ref p, .ty n] H Q := ⟨_, _, _, _, b, rfl, .ty n, .base (.lst hp), kit_ty h, k⟩
end
/-! whole(x): of an int -/
def spWhole : Sp := fun vs H Q _ => match vs with
  | [v] => ∃ i : Int, v = .int i ∧ Q (.bl true) H
  | _ => False
def tWhole (K : PySem.W.Frag) : TS := tRet (tAndV (tCB (rIsi K) (tCons (tVar 0) (tCons (tC (.ty "int")) tNil))) (tNotV (tCB (rIsi K) (tCons (tVar 0) (tCons (tC (.ty "bool")) tNil)))))
theorem pure_whole {K : PySem.W.Frag} {v : V} {H : Hp} {Q : VK} {E : XK} (h : spWhole [v] H Q E) : tWhole K { nx := fun _ H' => Q .non H', rt := Q } [some v] H := by
  obtain ⟨i, rfl, k⟩ := h
  unfold tWhole
  repeat walk_at "s1"
  refine x_isiI (b := true) (by decide +kernel) ?_
  repeat walk_at "s1"
  refine x_T rfl ?_
  repeat walk_at "s1"
  refine x_isiI (b := false) (by decide +kernel) ?_
  repeat walk_at "s1"
  exact k

/-- a script's number through divisions keeps its bits -/
abbrev Bits (c : Int) : Prop := Builtin.Int.intBits c ≤ 1048576
theorem Bits.div {c d : Int} (h : Bits c) (hd : 0 ≤ d) : Bits (c / d) := by
  have := PyProof.Rows.bits_fdiv (b := d) h
  rwa [Int.fdiv_eq_ediv_of_nonneg _ hd] at this
theorem Bits.mulOk {c j : Int} (h : Bits c) (hj : Builtin.Int.intBits j ≤ 1000) : IntMulOk c j := PyProof.Rows.mulOk_of_bits h hj (by decide)
theorem Bits.of_small {c : Int} (h : c.natAbs < 2 ^ 64) : Bits c := PyProof.Rows.bits_of_natAbs_le (b := 2 ^ 64) (by rw [show (2 ^ 64 : Int).natAbs = 2 ^ 64 by decide]; omega) (by decide)
/-! levels -/
def lev (n : Nat) : Nat := Nat.log2 (n + 1)
theorem lev_of {n c : Nat} (h1 : 2 ^ c ≤ n + 1) (h2 : n + 1 < 2 ^ (c + 1)) : lev n = c := (Nat.log2_eq_iff (by omega)).2 ⟨h1, h2⟩
theorem lev_le {n : Nat} : 2 ^ lev n ≤ n + 1 := Nat.log2_self_le (by omega)
theorem lev_lt {n : Nat} : n + 1 < 2 ^ (lev n + 1) := Nat.lt_log2_self
def spLevels : Sp := fun vs H Q _ => match vs with
  | [v] => ∃ n : Nat, v = .int n ∧ Q (.int (lev n)) H
  | _ => False
theorem i_pow (c : Nat) : ((2 ^ c : Nat) : Int) = (2 : Int) ^ c := by simp
/-- the loop's own state: count c, power 2 ^ (c + 1) -/
theorem lev_while {n : Nat} {tc : TT} {tb : TS} {D : Ends} {σ : L2.St} {H : Hp} (f : Int → Int → L2.St)
    (hσ : σ = f 0 2)
    (hc : ∀ (c p : Int) (QB : Bool → Hp → Prop), QB (decide (p ≤ (n : Int) + 1)) H → tc (f c p) H QB)
    (hb : ∀ (c p : Int) (D : Ends), 0 ≤ c → 0 < p → p ≤ (n : Int) + 1 → D.nx (f (c + 1) (p + p)) H → tb D (f c p) H)
    (hd : D.nx (f (lev n) (2 ^ (lev n + 1))) H) : tWhile tc tb D σ H := by
  refine x_while (fun m σ' H' => H' = H ∧ ∃ c : Nat, σ' = f c (2 ^ (c + 1)) ∧ 2 ^ c ≤ n + 1 ∧ m = n + 2 - 2 ^ c) (n + 1) ⟨rfl, 0, hσ, by simp, by simp⟩ ?_
  rintro m σ' H' ⟨rfl, c, rfl, h1, rfl⟩
  refine hc _ _ _ ?_
  refine x_ite (fun h => ?_) (fun h => ?_)
  · have h' : 2 ^ (c + 1) ≤ n + 1 := by
      have e := i_pow (c + 1)
      omega
    refine ⟨_, fun _ _ z => z, ?_⟩
    refine hb _ _ _ (Int.natCast_nonneg c) (by rw [← i_pow]; have := Nat.two_pow_pos (c + 1); omega) h ?_
    refine ⟨n + 2 - 2 ^ (c + 1), ?_, rfl, c + 1, ?_, h', rfl⟩
    · have e : 2 ^ (c + 1) = 2 ^ c + 2 ^ c := by rw [Nat.pow_succ]; omega
      have := Nat.two_pow_pos c
      omega
    · have e : (2 : Int) ^ (c + 1 + 1) = 2 ^ (c + 1) + 2 ^ (c + 1) := by rw [Int.pow_succ]; omega
      rw [e]
      rfl
  · have h' : n + 1 < 2 ^ (c + 1) := by
      have e := i_pow (c + 1)
      omega
    have e := lev_of h1 h'
    rw [← e]
    exact hd
/-- the two ways to write it -/
def tLevels : TS := tSeq (tAsg (tC (.int 0)) (gName 1))
    (tSeq (tAsg (tC (.int 2)) (gName 2))
    (tSeq (tWhile (tTest (tOp oLe (tVar 2) (tOp oAdd (tVar 0) (tC (.int 1))))) (tSeq (tAsg (tOp oMul (tC (.int 2)) (tVar 2)) (gName 2))
    (tAsg (tOp oAdd (tVar 1) (tC (.int 1))) (gName 1))))
    (tRet (tVar 1))))
def tLevels2 : TS := tSeq (tAsg (tC (.int 0)) (gName 1))
    (tSeq (tAsg (tC (.int 2)) (gName 2))
    (tSeq (tWhile (tTest (tOp oLe (tVar 2) (tOp oAdd (tVar 0) (tC (.int 1))))) (tSeq (tAsg (tOp oAdd (tVar 2) (tVar 2)) (gName 2))
    (tAsg (tOp oAdd (tVar 1) (tC (.int 1))) (gName 1))))
    (tRet (tVar 1))))
section
variable {v0 : V} {H : Hp} {Q : VK} {E : XK}
theorem pure_levels1 (h : spLevels [v0] H Q E) : tLevels { nx := fun _ H' => Q .non H', rt := Q } [some v0, none, none] H := by
  obtain ⟨n, rfl, k⟩ := h
  unfold tLevels
  repeat walk_at "s1"
  refine lev_while (n := n) (fun c p => [some (V.int (n : Int)), some (.int c), some (.int p)]) rfl (fun c p QB hq => ?_) (fun c p D h0 h1 h2 hn => ?_) ?_
  · repeat walk_at "s1"
    exact hq
  · repeat walk_at "s1"
    refine x_mul (by omega) ?_
    repeat walk_at "s1"
    have e : 2 * p = p + p := by omega
    rw [e]
    exact hn
  · repeat walk_at "s1"
    exact k
theorem pure_levels2 (h : spLevels [v0] H Q E) : tLevels2 { nx := fun _ H' => Q .non H', rt := Q } [some v0, none, none] H := by
  obtain ⟨n, rfl, k⟩ := h
  unfold tLevels2
  repeat walk_at "s1"
  refine lev_while (n := n) (fun c p => [some (V.int (n : Int)), some (.int c), some (.int p)]) rfl (fun c p QB hq => ?_) (fun c p D h0 h1 h2 hn => ?_) ?_
  · repeat walk_at "s1"
    exact hq
  · repeat walk_at "s1"
    exact hn
  · repeat walk_at "s1"
    exact k
/-! a cell of the script, or 0 -/
def cellOf (ns : List Int) (k : Nat) : Int := ns.getD k 0
def spCell (K : PySem.W.Frag) : Sp := fun vs H Q _ => match vs with
  | [v, u] => ∃ (a : Addr) (ns : List Int) (k : Nat), v = .ref a ∧ u = .int k ∧ SqL K H a (ns.map V.int) ∧ Q (.int (cellOf ns k)) H
  | _ => False
def tCell (K : PySem.W.Frag) : TS := tSeq (tIfS (tTest (tOp oLt (tVar 1) (tCB (oLen K) (tCons (tVar 0) tNil)))) (tRet (tOp (rIxL K) (tVar 0) (tVar 1))) tNext) (tRet (tC (.int 0)))
theorem pure_cell {K : PySem.W.Frag} {v1 : V} (h : spCell K [v0, v1] H Q E) : tCell K { nx := fun _ H' => Q .non H', rt := Q } [some v0, some v1] H := by
  obtain ⟨a, ns, k, rfl, rfl, hS, q⟩ := h
  unfold tCell
  repeat walk_at "s1"
  refine x_lenL hS ?_
  repeat walk_at "s1"
  refine x_ite (fun hk => ?_) (fun hk => ?_)
  · rw [List.length_map] at hk
    have hk' : k < ns.length := by omega
    repeat walk_at "s1"
    refine x_ixL hS rfl (at_map (List.getElem?_eq_getElem hk')) ?_
    have e : cellOf ns k = ns[k] := by
      unfold cellOf
      rw [List.getD_eq_getElem?_getD, List.getElem?_eq_getElem hk']
      rfl
    rw [← e]
    exact q
  · rw [List.length_map] at hk
    repeat walk_at "s1"
    have e : cellOf ns k = 0 := by
      unfold cellOf
      rw [List.getD_eq_getElem?_getD, List.getElem?_eq_none (by omega)]
      rfl
    rw [← e]
    exact q
end
theorem Bits.cell {ns : List Int} (hb : ∀ z ∈ ns, Bits z) (k : Nat) : Bits (cellOf ns k) := by
  unfold cellOf
  by_cases h : k < ns.length
  · rw [List.getD_eq_getElem?_getD, List.getElem?_eq_getElem h]
    exact hb _ (List.getElem_mem h)
  · rw [List.getD_eq_getElem?_getD, List.getElem?_eq_none (by omega)]
    decide
end G

/-! Trees, in plain Lean: joining, leaving a place, and what the lists of a field hold of them. -/
namespace G
inductive Tr where
  | nil
  | node (i : Nat) (l r : Tr)
namespace Tr
def top : Tr → Option Nat
  | nil => none
  | node i _ _ => some i
def run : Tr → Nat
  | nil => 0
  | node _ _ r => 1 + r.run
def size : Tr → Nat
  | nil => 0
  | node _ l r => 1 + l.size + r.size
def nodes : Tr → List Nat
  | nil => []
  | node i l r => i :: (l.nodes ++ r.nodes)
theorem nodes_len : ∀ t : Tr, t.nodes.length = t.size
  | nil => rfl
  | node i l r => by
    show (l.nodes ++ r.nodes).length + 1 = 1 + l.size + r.size
    rw [List.length_append, nodes_len l, nodes_len r]; omega
theorem top_mem {t : Tr} {i : Nat} (h : t.top = some i) : i ∈ t.nodes := by
  cases t with
  | nil => cases h
  | node j l r =>
    have e : j = i := Option.some.inj h
    subst e
    exact List.mem_cons_self
theorem top_none {t : Tr} (h : t.top = none) : t = nil := by
  cases t with
  | nil => rfl
  | node j l r => cases h
end Tr
/-- parts that stand the wrong way round change sides -/
def side (i : Nat) (l r : Tr) : Tr := if l.run < r.run then .node i r l else .node i l r
theorem side_top {i : Nat} {l r : Tr} : (side i l r).top = some i := by unfold side; split <;> rfl
theorem side_size {i : Nat} {l r : Tr} : (side i l r).size = 1 + l.size + r.size := by
  unfold side
  split
  · show 1 + r.size + l.size = _; omega
  · rfl
theorem side_perm {i : Nat} {l r : Tr} : (side i l r).nodes.Perm (i :: (l.nodes ++ r.nodes)) := by
  unfold side
  split
  · exact List.Perm.cons _ List.perm_append_comm
  · exact List.Perm.refl _
theorem side_run {i : Nat} {l r : Tr} : (side i l r).run = 1 + min l.run r.run := by
  unfold side
  split
  · show 1 + l.run = _; omega
  · show 1 + r.run = _; omega
def wt (ws : List Int) (a : Nat) : Int := ws.getD a 0
/-- the lesser of two things -/
def Les (ws : List Int) (a b : Nat) : Prop := wt ws a < wt ws b ∨ (wt ws a = wt ws b ∧ a < b)
instance (ws : List Int) (a b : Nat) : Decidable (Les ws a b) := by unfold Les; infer_instance
theorem Les.asymm {ws : List Int} {a b : Nat} (h : Les ws a b) : ¬ Les ws b a := by
  unfold Les at *; omega
theorem Les.trans {ws : List Int} {a b c : Nat} (h : Les ws a b) (h' : Les ws b c) : Les ws a c := by
  unfold Les at *; omega
theorem Les.conn {ws : List Int} {a b : Nat} (h : ¬ Les ws a b) (n : a ≠ b) : Les ws b a := by
  unfold Les at *; omega
theorem Les.irrefl {ws : List Int} {a : Nat} : ¬ Les ws a a := by unfold Les; omega
/-- two trees joined, and how many tops meet -/
def mrg (ws : List Int) : Tr → Tr → Tr
  | .nil, t => t
  | .node a la ra, .nil => .node a la ra
  | .node a la ra, .node b lb rb =>
    if Les ws b a then side b lb (mrg ws rb (.node a la ra)) else side a la (mrg ws ra (.node b lb rb))
termination_by t u => t.size + u.size
decreasing_by
  · simp only [Tr.size]; omega
  · simp only [Tr.size]; omega
def cnt (ws : List Int) : Tr → Tr → Nat
  | .nil, _ => 0
  | .node _ _ _, .nil => 0
  | .node a la ra, .node b lb rb =>
    if Les ws b a then 1 + cnt ws rb (.node a la ra) else 1 + cnt ws ra (.node b lb rb)
termination_by t u => t.size + u.size
decreasing_by
  · simp only [Tr.size]; omega
  · simp only [Tr.size]; omega
theorem mrg_nil {ws : List Int} {t : Tr} : mrg ws .nil t = t := by rw [mrg]
theorem mrg_nil' {ws : List Int} {t : Tr} : mrg ws t .nil = t := by cases t <;> rw [mrg]
theorem cnt_nil {ws : List Int} {t : Tr} : cnt ws .nil t = 0 := by rw [cnt]
theorem cnt_nil' {ws : List Int} {t : Tr} : cnt ws t .nil = 0 := by cases t <;> rw [cnt]
theorem mrg_l {ws : List Int} {a b : Nat} {la ra lb rb : Tr} (h : Les ws b a) : mrg ws (.node a la ra) (.node b lb rb) = side b lb (mrg ws rb (.node a la ra)) := by rw [mrg, if_pos h]
theorem mrg_r {ws : List Int} {a b : Nat} {la ra lb rb : Tr} (h : ¬ Les ws b a) : mrg ws (.node a la ra) (.node b lb rb) = side a la (mrg ws ra (.node b lb rb)) := by rw [mrg, if_neg h]
theorem cnt_l {ws : List Int} {a b : Nat} {la ra lb rb : Tr} (h : Les ws b a) : cnt ws (.node a la ra) (.node b lb rb) = 1 + cnt ws rb (.node a la ra) := by rw [cnt, if_pos h]
theorem cnt_r {ws : List Int} {a b : Nat} {la ra lb rb : Tr} (h : ¬ Les ws b a) : cnt ws (.node a la ra) (.node b lb rb) = 1 + cnt ws ra (.node b lb rb) := by rw [cnt, if_neg h]
theorem mrg_perm (ws : List Int) : ∀ t u : Tr, (mrg ws t u).nodes.Perm (t.nodes ++ u.nodes)
  | .nil, u => by rw [mrg_nil]; exact List.Perm.refl _
  | .node a la ra, .nil => by rw [mrg_nil']; show List.Perm _ (_ ++ []); rw [List.append_nil]
  | .node a la ra, .node b lb rb => by
    by_cases h : Les ws b a
    · rw [mrg_l h]
      refine side_perm.trans ?_
      have ih := mrg_perm ws rb (.node a la ra)
      refine (List.Perm.cons b (List.Perm.append_left lb.nodes ih)).trans ?_
      show List.Perm (b :: (lb.nodes ++ (rb.nodes ++ (Tr.node a la ra).nodes))) ((Tr.node a la ra).nodes ++ b :: (lb.nodes ++ rb.nodes))
      rw [← List.append_assoc]
      exact List.perm_append_comm (l₁ := b :: (lb.nodes ++ rb.nodes))
    · rw [mrg_r h]
      refine side_perm.trans ?_
      have ih := mrg_perm ws ra (.node b lb rb)
      refine (List.Perm.cons a (List.Perm.append_left la.nodes ih)).trans ?_
      show List.Perm (a :: (la.nodes ++ (ra.nodes ++ (Tr.node b lb rb).nodes))) (a :: (la.nodes ++ ra.nodes) ++ (Tr.node b lb rb).nodes)
      rw [← List.append_assoc]
      exact List.Perm.refl _
termination_by t u => t.size + u.size
decreasing_by
  · simp only [Tr.size]; omega
  · simp only [Tr.size]; omega
theorem mrg_size (ws : List Int) (t u : Tr) : (mrg ws t u).size = t.size + u.size := by
  rw [← Tr.nodes_len, (mrg_perm ws t u).length_eq, List.length_append, Tr.nodes_len, Tr.nodes_len]
theorem mrg_mem {ws : List Int} {t u : Tr} {i : Nat} : i ∈ (mrg ws t u).nodes ↔ i ∈ t.nodes ∨ i ∈ u.nodes := by
  rw [(mrg_perm ws t u).mem_iff, List.mem_append]

/-! ### functions changed at a place -/
def fset {α : Type} (f : Nat → α) (i : Nat) (v : α) : Nat → α := fun j => if j = i then v else f j
theorem fset_same {α : Type} {f : Nat → α} {i : Nat} {v : α} : fset f i v i = v := if_pos rfl
theorem fset_ne {α : Type} {f : Nat → α} {i j : Nat} {v : α} (h : j ≠ i) : fset f i v j = f j := if_neg h
/-- at the top of a tree, where there is one -/
def oset {α : Type} (f : Nat → α) (o : Option Nat) (v : α) : Nat → α := match o with
  | none => f
  | some i => fset f i v
theorem oset_ne {α : Type} {f : Nat → α} {o : Option Nat} {j : Nat} {v : α} (h : o ≠ some j) : oset f o v j = f j := by
  cases o with
  | none => rfl
  | some i => exact fset_ne fun e => h (by rw [e])
/-- what the lists of the trees hold, but for the weights -/
structure CS where
  L : Nat → Option Nat
  R : Nat → Option Nat
  U : Nat → Option Nat
  N : Nat → Nat
def CS.run (S : CS) : Option Nat → Nat
  | none => 0
  | some i => S.N i
/-- sided(i) -/
def CS.sided (S : CS) (i : Nat) : CS :=
  if S.run (S.L i) < S.run (S.R i) then { S with L := fset S.L i (S.R i), R := fset S.R i (S.L i), N := fset S.N i (1 + S.run (S.L i)) }
  else { S with N := fset S.N i (1 + S.run (S.R i)) }
/-- the one right above the top of t is u -/
def Upp (S : CS) (t : Tr) (u : Option Nat) : Prop := ∀ i, t.top = some i → S.U i = u
def Shape (S : CS) : Tr → Prop
  | .nil => True
  | .node i l r => S.L i = l.top ∧ S.R i = r.top ∧ Upp S l (some i) ∧ Upp S r (some i) ∧ Shape S l ∧ Shape S r
def Runs (S : CS) : Tr → Prop
  | .nil => True
  | .node i l r => S.N i = (Tr.node i l r).run ∧ Runs S l ∧ Runs S r
theorem Runs.top {S : CS} {t : Tr} (h : Runs S t) : S.run t.top = t.run := by
  cases t with
  | nil => rfl
  | node i l r => exact h.1
/-- S and S' are alike at the nodes of t (above the top all the same) -/
structure Alike (S S' : CS) (t : Tr) : Prop where
  l : ∀ i ∈ t.nodes, S'.L i = S.L i
  r : ∀ i ∈ t.nodes, S'.R i = S.R i
  u : ∀ i ∈ t.nodes.tail, S'.U i = S.U i
  n : ∀ i ∈ t.nodes, S'.N i = S.N i
theorem mem_l {i j : Nat} {l r : Tr} (h : j ∈ l.nodes) : j ∈ (Tr.node i l r).nodes := List.mem_cons_of_mem _ (List.mem_append_left _ h)
theorem mem_r {i j : Nat} {l r : Tr} (h : j ∈ r.nodes) : j ∈ (Tr.node i l r).nodes := List.mem_cons_of_mem _ (List.mem_append_right _ h)
theorem mem_i {i : Nat} {l r : Tr} : i ∈ (Tr.node i l r).nodes := List.mem_cons_self
theorem shape_fr {S S' : CS} : ∀ {t : Tr}, (∀ i ∈ t.nodes, S'.L i = S.L i) → (∀ i ∈ t.nodes, S'.R i = S.R i) → (∀ i ∈ t.nodes.tail, S'.U i = S.U i) → Shape S t → Shape S' t
  | .nil, _, _, _, _ => trivial
  | .node i l r, hl, hr, hu, h => by
    obtain ⟨h1, h2, h3, h4, h5, h6⟩ := h
    have tl : ∀ {t : Tr} {j : Nat}, j ∈ t.nodes.tail → j ∈ t.nodes := fun {t j} m => List.mem_of_mem_tail m
    refine ⟨(hl i mem_i).trans h1, (hr i mem_i).trans h2, fun j e => ?_, fun j e => ?_, ?_, ?_⟩
    · rw [hu j (List.mem_append_left _ (Tr.top_mem e))]; exact h3 j e
    · rw [hu j (List.mem_append_right _ (Tr.top_mem e))]; exact h4 j e
    · exact shape_fr (fun j m => hl j (mem_l m)) (fun j m => hr j (mem_l m)) (fun j m => hu j (List.mem_append_left _ (tl m))) h5
    · exact shape_fr (fun j m => hl j (mem_r m)) (fun j m => hr j (mem_r m)) (fun j m => hu j (List.mem_append_right _ (tl m))) h6
theorem runs_fr {S S' : CS} : ∀ {t : Tr}, (∀ i ∈ t.nodes, S'.N i = S.N i) → Runs S t → Runs S' t
  | .nil, _, _ => trivial
  | .node i l r, hn, h => ⟨(hn i mem_i).trans h.1, runs_fr (fun j m => hn j (mem_l m)) h.2.1, runs_fr (fun j m => hn j (mem_r m)) h.2.2⟩
theorem Upp.fr {S S' : CS} {t : Tr} {u : Option Nat} (h : Upp S t u) (hu : ∀ i, t.top = some i → S'.U i = S.U i) : Upp S' t u := fun i e => (hu i e).trans (h i e)
/-- what sided leaves alone -/
theorem sided_L {S : CS} {i j : Nat} (h : j ≠ i) : (S.sided i).L j = S.L j := by unfold CS.sided; split <;> first | exact fset_ne h | rfl
theorem sided_R {S : CS} {i j : Nat} (h : j ≠ i) : (S.sided i).R j = S.R j := by unfold CS.sided; split <;> first | exact fset_ne h | rfl
theorem sided_N {S : CS} {i j : Nat} (h : j ≠ i) : (S.sided i).N j = S.N j := by unfold CS.sided; split <;> exact fset_ne h
theorem sided_U {S : CS} {i : Nat} : (S.sided i).U = S.U := by unfold CS.sided; split <;> rfl
/-- sided does what side says -/
theorem sided_ok {S : CS} {i : Nat} {l r : Tr} (h : Shape S (.node i l r)) (hl : Runs S l) (hr : Runs S r) (nl : i ∉ l.nodes) (nr : i ∉ r.nodes) :
    Shape (S.sided i) (side i l r) ∧ Runs (S.sided i) (side i l r) := by
  obtain ⟨h1, h2, h3, h4, h5, h6⟩ := h
  have ne : ∀ {t : Tr}, i ∉ t.nodes → ∀ {j : Nat}, j ∈ t.nodes → j ≠ i := fun {t} n {j} m e => n (by rw [← e]; exact m)
  have tl : ∀ {t : Tr} {j : Nat}, j ∈ t.nodes.tail → j ∈ t.nodes := fun {t j} m => List.mem_of_mem_tail m
  have sl : Shape (S.sided i) l := shape_fr (fun j m => sided_L (ne nl m)) (fun j m => sided_R (ne nl m)) (fun j m => by rw [sided_U]) h5
  have sr : Shape (S.sided i) r := shape_fr (fun j m => sided_L (ne nr m)) (fun j m => sided_R (ne nr m)) (fun j m => by rw [sided_U]) h6
  have rl : Runs (S.sided i) l := runs_fr (fun j m => sided_N (ne nl m)) hl
  have rr : Runs (S.sided i) r := runs_fr (fun j m => sided_N (ne nr m)) hr
  have u3 : Upp (S.sided i) l (some i) := fun j e => by rw [sided_U]; exact h3 j e
  have u4 : Upp (S.sided i) r (some i) := fun j e => by rw [sided_U]; exact h4 j e
  have el : S.run (S.L i) = l.run := by rw [h1]; exact hl.top
  have er : S.run (S.R i) = r.run := by rw [h2]; exact hr.top
  unfold side
  by_cases c : l.run < r.run
  · rw [if_pos c]
    have c' : S.run (S.L i) < S.run (S.R i) := by rw [el, er]; exact c
    have e : S.sided i = { S with L := fset S.L i (S.R i), R := fset S.R i (S.L i), N := fset S.N i (1 + S.run (S.L i)) } := if_pos c'
    refine ⟨⟨?_, ?_, u4, u3, sr, sl⟩, ⟨?_, rr, rl⟩⟩
    · rw [e]; exact fset_same.trans h2
    · rw [e]; exact fset_same.trans h1
    · rw [e]; exact fset_same.trans (by rw [el]; rfl)
  · rw [if_neg c]
    have c' : ¬ S.run (S.L i) < S.run (S.R i) := by rw [el, er]; exact c
    have e : S.sided i = { S with N := fset S.N i (1 + S.run (S.R i)) } := if_neg c'
    refine ⟨⟨?_, ?_, u3, u4, sl, sr⟩, ⟨?_, rl, rr⟩⟩
    · rw [e]; exact h1
    · rw [e]; exact h2
    · rw [e]; exact fset_same.trans (by rw [er]; rfl)

/-! ### joining, the way up: things with their left parts, the first one the uppermost -/
def plug : List (Nat × Tr) → Tr → Tr
  | [], t => t
  | (i, l) :: c, t => side i l (plug c t)
theorem plug_snoc : ∀ (c : List (Nat × Tr)) (i : Nat) (l t : Tr), plug (c ++ [(i, l)]) t = plug c (side i l t)
  | [], _, _, _ => rfl
  | (j, m) :: c, i, l, t => by
    show side j m (plug (c ++ [(i, l)]) t) = side j m (plug c (side i l t))
    rw [plug_snoc c i l t]
def cnodes (c : List (Nat × Tr)) : List Nat := c.flatMap fun p => p.1 :: p.2.nodes
theorem cnodes_snoc {c : List (Nat × Tr)} {i : Nat} {l : Tr} : cnodes (c ++ [(i, l)]) = cnodes c ++ (i :: l.nodes) := by
  unfold cnodes; rw [List.flatMap_append]; simp
def COk (S : CS) (c : List (Nat × Tr)) : Prop := ∀ p ∈ c, S.L p.1 = p.2.top ∧ Shape S p.2 ∧ Runs S p.2 ∧ Upp S p.2 (some p.1)
theorem COk.fr {S S' : CS} {c : List (Nat × Tr)} (h : COk S c) (hl : ∀ i ∈ cnodes c, S'.L i = S.L i) (hr : ∀ i ∈ cnodes c, S'.R i = S.R i) (hu : ∀ i ∈ cnodes c, S'.U i = S.U i) (hn : ∀ i ∈ cnodes c, S'.N i = S.N i) : COk S' c := fun p hp => by
  obtain ⟨h1, h2, h3, h4⟩ := h p hp
  have m0 : p.1 ∈ cnodes c := List.mem_flatMap.2 ⟨p, hp, List.mem_cons_self⟩
  have m1 : ∀ {j : Nat}, j ∈ p.2.nodes → j ∈ cnodes c := fun m => List.mem_flatMap.2 ⟨p, hp, List.mem_cons_of_mem _ m⟩
  exact ⟨(hl _ m0).trans h1, shape_fr (fun j m => hl j (m1 m)) (fun j m => hr j (m1 m)) (fun j m => hu j (m1 (List.mem_of_mem_tail m))) h2, runs_fr (fun j m => hn j (m1 m)) h3, h4.fr fun j e => hu j (m1 (Tr.top_mem e))⟩
/-- one turn of the second loop: rights[i] = rest; uppers[rest] = i; sided(i) -/
def CS.up1 (S : CS) (i : Nat) (o : Option Nat) : CS := CS.sided { S with R := fset S.R i o, U := oset S.U o (some i) } i
structure Out (S S' : CS) (ns : List Nat) : Prop where
  l : ∀ j, j ∉ ns → S'.L j = S.L j
  r : ∀ j, j ∉ ns → S'.R j = S.R j
  u : ∀ j, j ∉ ns → S'.U j = S.U j
  n : ∀ j, j ∉ ns → S'.N j = S.N j
theorem Out.refl {S : CS} {ns : List Nat} : Out S S ns := ⟨fun _ _ => rfl, fun _ _ => rfl, fun _ _ => rfl, fun _ _ => rfl⟩
theorem Out.trans {S S1 S2 : CS} {ns : List Nat} (a : Out S S1 ns) (b : Out S1 S2 ns) : Out S S2 ns :=
  ⟨fun j n => (b.l j n).trans (a.l j n), fun j n => (b.r j n).trans (a.r j n), fun j n => (b.u j n).trans (a.u j n), fun j n => (b.n j n).trans (a.n j n)⟩
theorem Out.mono {S S1 : CS} {ns ms : List Nat} (a : Out S S1 ns) (h : ∀ j ∈ ns, j ∈ ms) : Out S S1 ms :=
  ⟨fun j n => a.l j fun m => n (h j m), fun j n => a.r j fun m => n (h j m), fun j n => a.u j fun m => n (h j m), fun j n => a.n j fun m => n (h j m)⟩
theorem up1_ok {S : CS} {i : Nat} {l t : Tr} {c : List (Nat × Tr)} (hc : COk S (c ++ [(i, l)])) (ht : Shape S t) (rt : Runs S t) (nd : (cnodes (c ++ [(i, l)]) ++ t.nodes).Nodup) :
    Shape (S.up1 i t.top) (side i l t) ∧ Runs (S.up1 i t.top) (side i l t) ∧ COk (S.up1 i t.top) c ∧ Out S (S.up1 i t.top) (i :: t.nodes) := by
  rw [cnodes_snoc, List.append_assoc] at nd
  obtain ⟨n1, n2, n3⟩ := List.nodup_append.1 nd
  obtain ⟨n4, n5, n6⟩ := List.nodup_append.1 n2
  obtain ⟨n7, n8⟩ := List.nodup_cons.1 n4
  have il : i ∉ l.nodes := n7
  have it : i ∉ t.nodes := fun m => n6 i List.mem_cons_self i m rfl
  have lt : ∀ j ∈ l.nodes, j ∉ t.nodes := fun j m m' => n6 j (List.mem_cons_of_mem _ m) j m' rfl
  obtain ⟨h1, h2, h3, h4⟩ := hc (i, l) (List.mem_append_right _ List.mem_cons_self)
  have h1 : S.L i = l.top := h1
  have h2 : Shape S l := h2
  have h3 : Runs S l := h3
  have h4 : Upp S l (some i) := h4
  have nt : ∀ {j : Nat}, j ∉ t.nodes → t.top ≠ some j := fun n e => n (Tr.top_mem e)
  let S1 : CS := { S with R := fset S.R i t.top, U := oset S.U t.top (some i) }
  have o1 : Out S S1 (i :: t.nodes) := ⟨fun _ _ => rfl, fun j n => fset_ne fun e => n (by rw [e]; exact List.mem_cons_self), fun j n => oset_ne (nt fun m => n (List.mem_cons_of_mem _ m)), fun _ _ => rfl⟩
  have sl : Shape S1 l := shape_fr (S := S) (fun _ _ => rfl) (fun j m => fset_ne fun e => il (by rw [← e]; exact m)) (fun j m => oset_ne (nt (lt j (List.mem_of_mem_tail m)))) h2
  have ndt : t.nodes.Nodup := n5
  have st : Shape S1 t := shape_fr (S := S) (fun _ _ => rfl) (fun j m => fset_ne fun e => it (by rw [← e]; exact m)) (fun j m => oset_ne fun e => by
    cases t with
    | nil => cases m
    | node k x y =>
      have e' : k = j := Option.some.inj e
      subst e'
      exact (List.nodup_cons.1 ndt).1 m) ht
  have ul : Upp S1 l (some i) := h4.fr fun j e => oset_ne (nt (lt j (Tr.top_mem e)))
  have ut : Upp S1 t (some i) := fun j e => by
    show oset S.U t.top (some i) j = some i
    rw [e]; exact fset_same
  have sh : Shape S1 (.node i l t) := ⟨h1, fset_same, ul, ut, sl, st⟩
  obtain ⟨q1, q2⟩ := sided_ok sh (runs_fr (S := S) (fun _ _ => rfl) h3) (runs_fr (S := S) (fun _ _ => rfl) rt) il it
  have o2 : Out S1 (S1.sided i) [i] := ⟨fun j n => sided_L fun e => n (by simp [e]), fun j n => sided_R fun e => n (by simp [e]), fun j n => by rw [sided_U], fun j n => sided_N fun e => n (by simp [e])⟩
  have oo : Out S (S1.sided i) (i :: t.nodes) := o1.trans (o2.mono fun j m => by simp at m; rw [m]; exact List.mem_cons_self)
  have cc : ∀ j ∈ cnodes c, j ∉ i :: t.nodes := fun j m m' => by
    rcases List.mem_cons.1 m' with e | m'
    · exact n3 j m i (by simp) e
    · exact n3 j m j (List.mem_append_right _ m') rfl
  exact ⟨q1, q2, COk.fr (fun p hp => hc p (List.mem_append_left _ hp)) (fun j m => oo.l j (cc j m)) (fun j m => oo.r j (cc j m)) (fun j m => oo.u j (cc j m)) (fun j m => oo.n j (cc j m)), oo⟩
/-- the first loop's word -/
structure J1 (ws : List Int) (S : CS) (T1 T2 : Tr) (c : List (Nat × Tr)) (t u : Tr) : Prop where
  eq : plug c (mrg ws t u) = mrg ws T1 T2
  len : c.length + cnt ws t u = cnt ws T1 T2
  ok : COk S c
  st : Shape S t
  rt : Runs S t
  su : Shape S u
  ru : Runs S u
  pm : (cnodes c ++ (t.nodes ++ u.nodes)).Perm (T1.nodes ++ T2.nodes)
theorem J1.start {ws : List Int} {S : CS} {T1 T2 : Tr} (h1 : Shape S T1) (h2 : Runs S T1) (h3 : Shape S T2) (h4 : Runs S T2) : J1 ws S T1 T2 [] T1 T2 :=
  ⟨rfl, Nat.zero_add _, (fun _ h => nomatch h), h1, h2, h3, h4, List.Perm.refl _⟩
theorem cok_snoc {S : CS} {c : List (Nat × Tr)} {i : Nat} {l r : Tr} (h : COk S c) (hs : Shape S (.node i l r)) (hr : Runs S (.node i l r)) : COk S (c ++ [(i, l)]) := fun p hp => by
  rcases List.mem_append.1 hp with m | m
  · exact h p m
  · have e : p = (i, l) := by simpa using m
    subst e
    exact ⟨hs.1, hs.2.2.2.2.1, hr.2.1, hs.2.2.1⟩
theorem J1.left {ws : List Int} {S : CS} {T1 T2 : Tr} {c : List (Nat × Tr)} {a b : Nat} {la ra lb rb : Tr} (h : J1 ws S T1 T2 c (.node a la ra) (.node b lb rb)) (l : Les ws b a) : J1 ws S T1 T2 (c ++ [(b, lb)]) rb (.node a la ra) := by
  refine ⟨?_, ?_, cok_snoc h.ok h.su h.ru, h.su.2.2.2.2.2, h.ru.2.2, h.st, h.rt, ?_⟩
  · rw [plug_snoc, ← mrg_l l]; exact h.eq
  · have := h.len
    rw [cnt_l l] at this
    rw [List.length_append, List.length_singleton]; omega
  · refine List.Perm.trans ?_ h.pm
    rw [cnodes_snoc, List.append_assoc]
    refine List.Perm.append_left _ ?_
    show List.Perm (b :: lb.nodes ++ (rb.nodes ++ (Tr.node a la ra).nodes)) ((Tr.node a la ra).nodes ++ (b :: (lb.nodes ++ rb.nodes)))
    rw [← List.append_assoc]
    exact List.perm_append_comm (l₁ := b :: (lb.nodes ++ rb.nodes))
theorem J1.right {ws : List Int} {S : CS} {T1 T2 : Tr} {c : List (Nat × Tr)} {a b : Nat} {la ra lb rb : Tr} (h : J1 ws S T1 T2 c (.node a la ra) (.node b lb rb)) (l : ¬ Les ws b a) : J1 ws S T1 T2 (c ++ [(a, la)]) ra (.node b lb rb) := by
  refine ⟨?_, ?_, cok_snoc h.ok h.st h.rt, h.st.2.2.2.2.2, h.rt.2.2, h.su, h.ru, ?_⟩
  · rw [plug_snoc, ← mrg_r l]; exact h.eq
  · have := h.len
    rw [cnt_r l] at this
    rw [List.length_append, List.length_singleton]; omega
  · refine List.Perm.trans ?_ h.pm
    rw [cnodes_snoc, List.append_assoc]
    refine List.Perm.append_left _ ?_
    show List.Perm (a :: la.nodes ++ (ra.nodes ++ (Tr.node b lb rb).nodes)) (a :: (la.nodes ++ ra.nodes) ++ (Tr.node b lb rb).nodes)
    rw [← List.append_assoc]
    exact List.Perm.refl _
/-- the second loop's word: S ahead of it, S' now, c what is left to do, t what is made, T the end -/
structure J2 (S S' : CS) (T : Tr) (c : List (Nat × Tr)) (t : Tr) : Prop where
  eq : plug c t = T
  ok : COk S' c
  st : Shape S' t
  rt : Runs S' t
  nd : (cnodes c ++ t.nodes).Nodup
  pm : (cnodes c ++ t.nodes).Perm T.nodes
  out : Out S S' T.nodes
theorem J1.done {ws : List Int} {S : CS} {T1 T2 : Tr} {c : List (Nat × Tr)} {t u : Tr} (h : J1 ws S T1 T2 c t u) (nd : (T1.nodes ++ T2.nodes).Nodup) (e : t = .nil ∨ u = .nil) :
    J2 S S (mrg ws T1 T2) c (mrg ws t u) ∧ c.length = cnt ws T1 T2 := by
  have pm : (cnodes c ++ (mrg ws t u).nodes).Perm (T1.nodes ++ T2.nodes) := (List.Perm.append_left _ (mrg_perm ws t u)).trans h.pm
  have len := h.len
  have key : Shape S (mrg ws t u) ∧ Runs S (mrg ws t u) ∧ cnt ws t u = 0 := by
    rcases e with e | e
    · subst e; rw [mrg_nil, cnt_nil]; exact ⟨h.su, h.ru, rfl⟩
    · subst e; rw [mrg_nil', cnt_nil']; exact ⟨h.st, h.rt, rfl⟩
  exact ⟨⟨h.eq, h.ok, key.1, key.2.1, pm.nodup_iff.2 nd, pm.trans (mrg_perm ws T1 T2).symm, Out.refl⟩, by rw [key.2.2] at len; exact len⟩
theorem J2.step {S S' : CS} {T : Tr} {c : List (Nat × Tr)} {i : Nat} {l t : Tr} (h : J2 S S' T (c ++ [(i, l)]) t) : J2 S (S'.up1 i t.top) T c (side i l t) := by
  obtain ⟨h1, h2, h3, h4⟩ := up1_ok h.ok h.st h.rt h.nd
  have pm : (cnodes c ++ (side i l t).nodes).Perm (cnodes (c ++ [(i, l)]) ++ t.nodes) := by
    rw [cnodes_snoc, List.append_assoc]
    exact List.Perm.append_left _ side_perm
  refine ⟨by rw [← plug_snoc]; exact h.eq, h3, h1, h2, pm.nodup_iff.2 h.nd, pm.trans h.pm, h.out.trans (h4.mono fun j m => ?_)⟩
  refine (h.pm.mem_iff).1 ?_
  rw [cnodes_snoc]
  rcases List.mem_cons.1 m with e | m
  · rw [e]; simp
  · exact List.mem_append_right _ m
/-- joined: S ahead, S' behind, T what is made -/
structure Joined (S S' : CS) (T : Tr) : Prop where
  sh : Shape S' T
  ru : Runs S' T
  up : Upp S' T none
  out : Out S S' T.nodes
theorem J2.done {S S' : CS} {T t : Tr} (h : J2 S S' T [] t) : Joined S { S' with U := oset S'.U t.top none } T := by
  have e : t = T := h.eq
  subst e
  have nd : t.nodes.Nodup := h.nd
  refine ⟨shape_fr (S := S') (fun _ _ => rfl) (fun _ _ => rfl) (fun j m => oset_ne fun e => ?_) h.st, runs_fr (S := S') (fun _ _ => rfl) h.rt, fun j e => ?_, h.out.trans ⟨fun _ _ => rfl, fun _ _ => rfl, fun j n => oset_ne fun e => n (Tr.top_mem e), fun _ _ => rfl⟩⟩
  · cases t with
    | nil => cases m
    | node k x y =>
      have e' : k = j := Option.some.inj e
      subst e'
      exact (List.nodup_cons.1 nd).1 m
  · show oset S'.U t.top none j = none
    rw [e]; exact fset_same
/-! ### leaving a place: what stands above a part, the innermost first (true: the part is the left one) -/
abbrev Frm := Nat × Bool × Tr
def put1 (f : Frm) (s : Tr) : Tr := if f.2.1 then .node f.1 s f.2.2 else .node f.1 f.2.2 s
def fill : List Frm → Tr → Tr
  | [], s => s
  | f :: c, s => fill c (put1 f s)
theorem fill_append : ∀ (c d : List Frm) (s : Tr), fill (c ++ d) s = fill d (fill c s)
  | [], _, _ => rfl
  | f :: c, d, s => fill_append c d (put1 f s)
def locate : Tr → Nat → Option (List Frm × Tr)
  | .nil, _ => none
  | .node j l r, i => if j = i then some ([], .node j l r) else match locate l i with
    | some (c, s) => some (c ++ [(j, true, r)], s)
    | none => match locate r i with
      | some (c, s) => some (c ++ [(j, false, l)], s)
      | none => none
theorem locate_some : ∀ {t : Tr} {i : Nat} {c : List Frm} {s : Tr}, locate t i = some (c, s) → fill c s = t ∧ s.top = some i
  | .nil, _, _, _, h => by cases h
  | .node j l r, i, c, s, h => by
    unfold locate at h
    split at h
    · rename_i e
      cases h
      exact ⟨rfl, by rw [e]; rfl⟩
    · split at h
      · rename_i c1 s1 e
        cases h
        obtain ⟨h1, h2⟩ := locate_some e
        exact ⟨by rw [fill_append, h1]; rfl, h2⟩
      · split at h
        · rename_i c1 s1 e
          cases h
          obtain ⟨h1, h2⟩ := locate_some e
          exact ⟨by rw [fill_append, h1]; rfl, h2⟩
        · cases h
theorem locate_mem : ∀ {t : Tr} {i : Nat}, i ∈ t.nodes → ∃ c s, locate t i = some (c, s)
  | .nil, _, h => nomatch h
  | .node j l r, i, h => by
    unfold locate
    by_cases e : j = i
    · rw [if_pos e]; exact ⟨_, _, rfl⟩
    · rw [if_neg e]
      cases hl : locate l i with
      | some p => exact ⟨_, _, rfl⟩
      | none =>
        rcases List.mem_cons.1 h with z | z
        · exact absurd z.symm e
        · rcases List.mem_append.1 z with z | z
          · obtain ⟨c, s, e1⟩ := locate_mem z
            rw [hl] at e1; cases e1
          · obtain ⟨c, s, e1⟩ := locate_mem z
            show ∃ c s, (match locate r i with | some (c, s) => some (c ++ [(j, false, l)], s) | none => none) = some (c, s)
            rw [e1]; exact ⟨_, _, rfl⟩
/-- the run of the tree that stood at f ahead of the deed, old the run of what stood in its part -/
def oldRun (f : Frm) (old : Nat) : Nat := if f.2.1 then 1 + f.2.2.run else 1 + old
def side1 (f : Frm) (s : Tr) : Tr := if f.2.1 then side f.1 s f.2.2 else side f.1 f.2.2 s
/-- going up from a part that changed: the tree, and how many things are looked at -/
def rise : List Frm → Nat → Tr → Tr × Nat
  | [], _, s => (s, 0)
  | f :: c, old, s => if (side1 f s).run ≠ oldRun f old then ((rise c (oldRun f old) (side1 f s)).1, (rise c (oldRun f old) (side1 f s)).2 + 1) else (fill c (side1 f s), 1)
def fnodes (f : Frm) : List Nat := f.1 :: f.2.2.nodes
def knodes (c : List Frm) : List Nat := c.flatMap fnodes
theorem put1_perm {f : Frm} {s : Tr} : (put1 f s).nodes.Perm (s.nodes ++ fnodes f) := by
  unfold put1 fnodes
  split
  · show List.Perm (f.1 :: (s.nodes ++ f.2.2.nodes)) (s.nodes ++ f.1 :: f.2.2.nodes)
    exact List.perm_middle.symm
  · show List.Perm (f.1 :: (f.2.2.nodes ++ s.nodes)) (s.nodes ++ f.1 :: f.2.2.nodes)
    exact (List.Perm.cons _ List.perm_append_comm).trans List.perm_middle.symm
theorem side1_perm {f : Frm} {s : Tr} : (side1 f s).nodes.Perm (s.nodes ++ fnodes f) := by
  refine List.Perm.trans ?_ put1_perm
  unfold side1 put1
  split
  · exact side_perm
  · exact side_perm
theorem fill_perm : ∀ {c : List Frm} {s : Tr}, (fill c s).nodes.Perm (s.nodes ++ knodes c)
  | [], s => by show List.Perm s.nodes (s.nodes ++ []); rw [List.append_nil]
  | f :: c, s => by
    show List.Perm (fill c (put1 f s)).nodes (s.nodes ++ (fnodes f ++ knodes c))
    refine (fill_perm (c := c) (s := put1 f s)).trans ?_
    rw [← List.append_assoc]
    exact List.Perm.append_right _ put1_perm
theorem rise_perm : ∀ {c : List Frm} {old : Nat} {s : Tr}, (rise c old s).1.nodes.Perm (s.nodes ++ knodes c)
  | [], _, s => by show List.Perm s.nodes (s.nodes ++ []); rw [List.append_nil]
  | f :: c, old, s => by
    unfold rise
    split
    · refine (rise_perm (c := c) (old := oldRun f old) (s := side1 f s)).trans ?_
      show List.Perm _ (s.nodes ++ (fnodes f ++ knodes c))
      rw [← List.append_assoc]
      exact List.Perm.append_right _ side1_perm
    · refine (fill_perm (c := c) (s := side1 f s)).trans ?_
      show List.Perm _ (s.nodes ++ (fnodes f ++ knodes c))
      rw [← List.append_assoc]
      exact List.Perm.append_right _ side1_perm
theorem put1_top {f : Frm} {s : Tr} : (put1 f s).top = some f.1 := by unfold put1; split <;> rfl
theorem side1_top {f : Frm} {s : Tr} : (side1 f s).top = some f.1 := by unfold side1; split <;> exact side_top

/-! ### a field: its heaps' trees, the weights, the work told -/
structure FS where
  ts : List Tr
  ws : List Int
  sp : Nat
namespace FS
def all (fs : FS) : List Nat := fs.ts.flatMap Tr.nodes
def tree (fs : FS) (h : Nat) : Tr := fs.ts.getD h .nil
def gone (fs : FS) (i : Nat) : Bool := decide (∀ t ∈ fs.ts, i ∉ t.nodes)
def home (fs : FS) (i : Nat) : Option Nat := fs.ts.findIdx? fun t => decide (i ∈ t.nodes)
def addHeap (fs : FS) : FS := { fs with ts := fs.ts ++ [.nil] }
def put (fs : FS) (h : Nat) (w : Int) : FS :=
  ⟨fs.ts.set h (mrg (fs.ws ++ [w]) (fs.tree h) (.node fs.ws.length .nil .nil)), fs.ws ++ [w], cnt (fs.ws ++ [w]) (fs.tree h) (.node fs.ws.length .nil .nil)⟩
def take (fs : FS) (h : Nat) : FS := match fs.tree h with
  | .nil => fs
  | .node _ l r => { fs with ts := fs.ts.set h (mrg fs.ws l r), sp := cnt fs.ws l r }
def pour (fs : FS) (h o : Nat) : FS := { fs with ts := (fs.ts.set o .nil).set h (mrg fs.ws (fs.tree h) (fs.tree o)), sp := cnt fs.ws (fs.tree h) (fs.tree o) }
def sink (fs : FS) (i : Nat) (w : Int) : FS := match fs.home i with
  | none => fs
  | some h => match locate (fs.tree h) i with
    | none => fs
    | some ([], _) => { fs with ws := fs.ws.set i w, sp := 0 }
    | some (f :: c, s) => if Les (fs.ws.set i w) f.1 i then { fs with ws := fs.ws.set i w, sp := 0 }
      else ⟨fs.ts.set h (mrg (fs.ws.set i w) (rise (f :: c) s.run .nil).1 s), fs.ws.set i w, (rise (f :: c) s.run .nil).2 + cnt (fs.ws.set i w) (rise (f :: c) s.run .nil).1 s⟩
structure Ok (fs : FS) : Prop where
  nd : fs.all.Nodup
  lt : ∀ i ∈ fs.all, i < fs.ws.length
end FS
/-- a tree's rows, each thing ahead of its left part and that ahead of its right part -/
structure Row where
  i : Nat
  w : Int
  l : Option Nat
  r : Option Nat
  n : Nat
def rowsOf (ws : List Int) : Tr → List Row
  | .nil => []
  | .node i l r => ⟨i, wt ws i, l.top, r.top, (Tr.node i l r).run⟩ :: (rowsOf ws l ++ rowsOf ws r)
/-! ### parts of a shape -/
theorem put1_shape {S : CS} {f : Frm} {s : Tr} (h : Shape S (put1 f s)) : Shape S s ∧ Shape S f.2.2 ∧ Upp S s (some f.1) ∧ Upp S f.2.2 (some f.1) ∧ (if f.2.1 then S.L f.1 = s.top ∧ S.R f.1 = f.2.2.top else S.L f.1 = f.2.2.top ∧ S.R f.1 = s.top) := by
  obtain ⟨i, b, t⟩ := f
  cases b with
  | true =>
    obtain ⟨h1, h2, h3, h4, h5, h6⟩ : Shape S (.node i s t) := h
    exact ⟨h5, h6, h3, h4, h1, h2⟩
  | false =>
    obtain ⟨h1, h2, h3, h4, h5, h6⟩ : Shape S (.node i t s) := h
    exact ⟨h6, h5, h4, h3, h1, h2⟩
theorem put1_shape_mk {S : CS} {f : Frm} {s : Tr} (h5 : Shape S s) (h6 : Shape S f.2.2) (h3 : Upp S s (some f.1)) (h4 : Upp S f.2.2 (some f.1)) (h : if f.2.1 then S.L f.1 = s.top ∧ S.R f.1 = f.2.2.top else S.L f.1 = f.2.2.top ∧ S.R f.1 = s.top) : Shape S (put1 f s) := by
  obtain ⟨i, b, t⟩ := f
  cases b with
  | true => exact (show Shape S (.node i s t) from ⟨h.1, h.2, h3, h4, h5, h6⟩)
  | false => exact (show Shape S (.node i t s) from ⟨h.1, h.2, h4, h3, h6, h5⟩)
theorem fill_shape {S : CS} : ∀ {c : List Frm} {s : Tr}, Shape S (fill c s) → Shape S s
  | [], _, h => h
  | f :: c, s, h => (put1_shape (fill_shape (c := c) h)).1
theorem fill_top {c : List Frm} : ∀ {s s' : Tr}, s.top = s'.top → (fill c s).top = (fill c s').top := by
  induction c with
  | nil => intro s s' h; exact h
  | cons f c ih => intro s s' _; exact ih (by rw [put1_top, put1_top])
theorem shape_swap {S S' : CS} : ∀ {c : List Frm} {s s' : Tr}, Shape S (fill c s) → s'.top = s.top → Shape S' s' → (∀ j ∈ knodes c, S'.L j = S.L j) → (∀ j ∈ knodes c, S'.R j = S.R j) → (∀ j ∈ knodes c, S'.U j = S.U j) → (∀ j, s.top = some j → S'.U j = S.U j) → Shape S' (fill c s')
  | [], _, _, _, _, h, _, _, _, _ => h
  | f :: c, s, s', h, ht, hs, hl, hr, hu, hut => by
    have m0 : ∀ {j}, j ∈ fnodes f → j ∈ knodes (f :: c) := fun m => List.mem_append_left _ m
    have m1 : ∀ {j}, j ∈ knodes c → j ∈ knodes (f :: c) := fun m => List.mem_append_right _ m
    have mf : f.1 ∈ fnodes f := List.mem_cons_self
    have mb : ∀ {j}, j ∈ f.2.2.nodes → j ∈ fnodes f := fun m => List.mem_cons_of_mem _ m
    obtain ⟨p1, p2, p3, p4, p5⟩ := put1_shape (fill_shape (c := c) h)
    refine shape_swap (c := c) (s := put1 f s) (s' := put1 f s') h (by rw [put1_top, put1_top]) ?_ (fun j m => hl j (m1 m)) (fun j m => hr j (m1 m)) (fun j m => hu j (m1 m)) (fun j e => by
      rw [put1_top] at e; cases e; exact hu _ (m0 mf))
    refine put1_shape_mk hs (shape_fr (fun j m => hl j (m0 (mb m))) (fun j m => hr j (m0 (mb m))) (fun j m => hu j (m0 (mb (List.mem_of_mem_tail m)))) p2) (fun j e => by
      rw [ht] at e; rw [hut j e]; exact p3 j e) (p4.fr fun j e => hu j (m0 (mb (Tr.top_mem e)))) ?_
    rw [hl _ (m0 mf), hr _ (m0 mf), ht]
    exact p5
theorem put1_run {f : Frm} {s : Tr} : (put1 f s).run = oldRun f s.run := by unfold put1 oldRun; split <;> rfl
def CRuns (S : CS) : List Frm → Nat → Prop
  | [], _ => True
  | f :: c, old => S.N f.1 = oldRun f old ∧ Runs S f.2.2 ∧ CRuns S c (oldRun f old)
theorem put1_runs {S : CS} {f : Frm} {s : Tr} (h : Runs S (put1 f s)) : S.N f.1 = oldRun f s.run ∧ Runs S s ∧ Runs S f.2.2 := by
  rw [← put1_run]
  obtain ⟨i, b, t⟩ := f
  cases b with
  | true => exact ⟨h.1, h.2.1, h.2.2⟩
  | false => exact ⟨h.1, h.2.2, h.2.1⟩
theorem put1_runs_mk {S : CS} {f : Frm} {s : Tr} (h1 : S.N f.1 = oldRun f s.run) (h2 : Runs S s) (h3 : Runs S f.2.2) : Runs S (put1 f s) := by
  rw [← put1_run] at h1
  obtain ⟨i, b, t⟩ := f
  cases b with
  | true => exact ⟨h1, h2, h3⟩
  | false => exact ⟨h1, h3, h2⟩
theorem fill_runs {S : CS} : ∀ {c : List Frm} {s : Tr}, Runs S (fill c s) → Runs S s ∧ CRuns S c s.run
  | [], _, h => ⟨h, trivial⟩
  | f :: c, s, h => by
    obtain ⟨h1, h2⟩ := fill_runs (c := c) (s := put1 f s) h
    obtain ⟨p1, p2, p3⟩ := put1_runs h1
    rw [put1_run] at h2
    exact ⟨p2, p1, p3, h2⟩
theorem fill_runs_mk {S : CS} : ∀ {c : List Frm} {s : Tr}, Runs S s → CRuns S c s.run → Runs S (fill c s)
  | [], _, h, _ => h
  | f :: c, s, h, hc => fill_runs_mk (c := c) (s := put1 f s) (put1_runs_mk hc.1 h hc.2.1) (by rw [put1_run]; exact hc.2.2)
theorem cruns_fr {S S' : CS} : ∀ {c : List Frm} {old : Nat}, (∀ j ∈ knodes c, S'.N j = S.N j) → CRuns S c old → CRuns S' c old
  | [], _, _, _ => trivial
  | f :: c, old, h, hc => ⟨(h _ (List.mem_append_left _ List.mem_cons_self)).trans hc.1, runs_fr (fun j m => h j (List.mem_append_left _ (List.mem_cons_of_mem _ m))) hc.2.1, cruns_fr (fun j m => h j (List.mem_append_right _ m)) hc.2.2⟩
/-- going up: S1 ahead, S' now -/
structure Rise (S1 S' : CS) (K0 : List Nat) (cs : List Frm) (old : Nat) (s : Tr) : Prop where
  sh : Shape S' (fill cs s)
  ru : Runs S' s
  cr : CRuns S' cs old
  out : Out S1 S' K0
  u : S'.U = S1.U
  sub : ∀ j ∈ knodes cs, j ∈ K0
  nd : (fill cs s).nodes.Nodup
  up : Upp S' (fill cs s) none
  all : ∀ j ∈ s.nodes, j ∈ K0
theorem Rise.step {S1 S' : CS} {K0 : List Nat} {f : Frm} {cs : List Frm} {old : Nat} {s : Tr} (h : Rise S1 S' K0 (f :: cs) old s) :
    Rise S1 (S'.sided f.1) K0 cs (oldRun f old) (side1 f s) ∧ S'.N f.1 = oldRun f old ∧ (S'.sided f.1).N f.1 = (side1 f s).run := by
  obtain ⟨p1, p2, p3, p4, p5⟩ := put1_shape (fill_shape (c := cs) (s := put1 f s) h.sh)
  have nd : (s.nodes ++ (fnodes f ++ knodes cs)).Nodup := (fill_perm (c := f :: cs) (s := s)).nodup_iff.1 h.nd
  obtain ⟨n1, n2, n3⟩ := List.nodup_append.1 nd
  obtain ⟨n4, n5, n6⟩ := List.nodup_append.1 n2
  obtain ⟨n7, n8⟩ := List.nodup_cons.1 n4
  have ns : f.1 ∉ s.nodes := fun m => n3 _ m _ (List.mem_append_left _ List.mem_cons_self) rfl
  have nk : ∀ j ∈ knodes cs, j ≠ f.1 := fun j m e => n6 f.1 List.mem_cons_self j m e.symm
  have key : Shape (S'.sided f.1) (side1 f s) ∧ Runs (S'.sided f.1) (side1 f s) := by
    have hp := fill_shape (c := cs) (s := put1 f s) h.sh
    obtain ⟨i, b, t⟩ := f
    cases b with
    | true => exact sided_ok (l := s) (r := t) hp h.ru h.cr.2.1 ns n7
    | false => exact sided_ok (l := t) (r := s) hp h.cr.2.1 h.ru n7 ns
  have kt : (S'.sided f.1).N f.1 = (side1 f s).run := by
    have e := key.2.top
    rw [side1_top] at e
    exact e
  refine ⟨⟨?_, key.2, cruns_fr (fun j m => sided_N (nk j m)) h.cr.2.2, h.out.trans ⟨fun j n => sided_L fun e => n (by rw [e]; exact h.sub _ (List.mem_append_left _ List.mem_cons_self)), fun j n => sided_R fun e => n (by rw [e]; exact h.sub _ (List.mem_append_left _ List.mem_cons_self)), fun j _ => by rw [sided_U], fun j n => sided_N fun e => n (by rw [e]; exact h.sub _ (List.mem_append_left _ List.mem_cons_self))⟩, by rw [sided_U]; exact h.u, fun j m => h.sub j (List.mem_append_right _ m), ?_, ?_, ?_⟩, h.cr.1, kt⟩
  · exact shape_swap (c := cs) (s := put1 f s) (s' := side1 f s) h.sh (by rw [side1_top, put1_top]) key.1 (fun j m => sided_L (nk j m)) (fun j m => sided_R (nk j m)) (fun j _ => by rw [sided_U]) (fun j _ => by rw [sided_U])
  · refine ((fill_perm (c := cs) (s := side1 f s)).trans ?_).nodup_iff.2 nd
    rw [← List.append_assoc]
    exact List.Perm.append_right _ side1_perm
  · intro j e
    rw [sided_U]
    refine h.up j ?_
    rw [show fill (f :: cs) s = fill cs (put1 f s) from rfl, ← e]
    exact fill_top (by rw [side1_top, put1_top])
  · intro j m
    rcases List.mem_append.1 ((side1_perm (f := f) (s := s)).mem_iff.1 m) with m | m
    · exact h.all j m
    · exact h.sub j (List.mem_append_left _ m)
/-- the part leaves -/
def CS.cut (S : CS) (f : Frm) (i : Nat) : CS := if f.2.1 then { S with U := fset S.U i none, L := fset S.L f.1 none } else { S with U := fset S.U i none, R := fset S.R f.1 none }
theorem cut_ok {S : CS} {f : Frm} {c : List Frm} {s : Tr} {i : Nat} (hi : s.top = some i) (sh : Shape S (fill (f :: c) s)) (ru : Runs S (fill (f :: c) s)) (up : Upp S (fill (f :: c) s) none) (nd : (fill (f :: c) s).nodes.Nodup) :
    Rise (S.cut f i) (S.cut f i) (knodes (f :: c)) (f :: c) s.run .nil ∧ Shape (S.cut f i) s ∧ Runs (S.cut f i) s ∧ Upp (S.cut f i) s none ∧ Out S (S.cut f i) (fill (f :: c) s).nodes := by
  obtain ⟨p1, p2, p3, p4, p5⟩ := put1_shape (fill_shape (c := c) (s := put1 f s) sh)
  obtain ⟨r1, r2⟩ := fill_runs (c := f :: c) ru
  have pm := fill_perm (c := f :: c) (s := s)
  have nd' : (s.nodes ++ knodes (f :: c)).Nodup := pm.nodup_iff.1 nd
  obtain ⟨n1, n2, n3⟩ := List.nodup_append.1 nd'
  have hm := Tr.top_mem hi
  have im : ∀ j ∈ knodes (f :: c), j ≠ i := fun j m e => n3 i hm j m e.symm
  have fm : f.1 ∈ knodes (f :: c) := List.mem_append_left _ List.mem_cons_self
  have sf : ∀ j ∈ s.nodes, j ≠ f.1 := fun j m e => n3 j m _ fm e
  have n4 := (List.nodup_append.1 n2).1
  have n6 := (List.nodup_append.1 n2).2.2
  have tf : ∀ j ∈ f.2.2.nodes, j ≠ f.1 := fun j m e => (List.nodup_cons.1 n4).1 (by rw [← e]; exact m)
  have kf : ∀ j ∈ knodes c, j ≠ f.1 := fun j m e => n6 f.1 List.mem_cons_self j m e.symm
  have eU : (S.cut f i).U = fset S.U i none := by unfold CS.cut; split <;> rfl
  have eN : (S.cut f i).N = S.N := by unfold CS.cut; split <;> rfl
  have eL : ∀ j, j ≠ f.1 → (S.cut f i).L j = S.L j := fun j n => by unfold CS.cut; split; exact fset_ne n; rfl
  have eR : ∀ j, j ≠ f.1 → (S.cut f i).R j = S.R j := fun j n => by unfold CS.cut; split; rfl; exact fset_ne n
  have hs : Shape (S.cut f i) (put1 f .nil) := by
    refine put1_shape_mk trivial (shape_fr (fun j m => eL j (tf j m)) (fun j m => eR j (tf j m)) (fun j m => ?_) p2) (fun j e => by cases e) (p4.fr fun j e => ?_) ?_
    · rw [eU]; exact fset_ne (im j (List.mem_append_left _ (List.mem_cons_of_mem _ (List.mem_of_mem_tail m))))
    · rw [eU]; exact fset_ne (im j (List.mem_append_left _ (List.mem_cons_of_mem _ (Tr.top_mem e))))
    · obtain ⟨k, b, t⟩ := f
      cases b with
      | true => exact ⟨fset_same, p5.2⟩
      | false => exact ⟨p5.1, fset_same⟩
  refine ⟨⟨?_, trivial, cruns_fr (fun j _ => by rw [eN]) r2, Out.refl, rfl, (fun _ m => m), ?_, ?_, (fun _ m => nomatch m)⟩, shape_fr (fun j m => eL j (sf j m)) (fun j m => eR j (sf j m)) (fun j m => ?_) p1, runs_fr (fun j _ => by rw [eN]) r1, fun j e => ?_, ⟨fun j n => eL j fun e => n ?_, fun j n => eR j fun e => n ?_, fun j n => ?_, fun j _ => by rw [eN]⟩⟩
  · exact shape_swap (c := c) (s := put1 f s) (s' := put1 f .nil) sh (by rw [put1_top, put1_top]) hs (fun j m => eL j (kf j m)) (fun j m => eR j (kf j m)) (fun j m => by rw [eU]; exact fset_ne (im j (List.mem_append_right _ m))) (fun j e => by
      rw [put1_top] at e; cases e; rw [eU]; exact fset_ne (im _ fm))
  · refine (fill_perm (c := f :: c) (s := .nil)).nodup_iff.2 ?_
    exact n2
  · intro j e
    have e' : (fill (f :: c) s).top = some j := by
      rw [← e]; exact fill_top (c := c) (s := put1 f s) (s' := put1 f .nil) (by rw [put1_top, put1_top])
    have hmm : j ∈ knodes (f :: c) := by
      have : j ∈ (fill (f :: c) .nil).nodes := Tr.top_mem e
      exact ((fill_perm (c := f :: c) (s := .nil)).mem_iff).1 this
    rw [eU, fset_ne (im j hmm)]
    exact up j e'
  · rw [eU]
    refine fset_ne fun e => ?_
    cases s with
    | nil => cases m
    | node k x y =>
      have e' : k = i := Option.some.inj hi
      rw [e, ← e'] at m
      exact (List.nodup_cons.1 n1).1 m
  · rw [eU]
    have e' : i = j := Option.some.inj (hi.symm.trans e)
    rw [← e']; exact fset_same
  · rw [e]; exact (pm.mem_iff).2 (List.mem_append_right _ fm)
  · rw [e]; exact (pm.mem_iff).2 (List.mem_append_right _ fm)
  · rw [eU]
    exact fset_ne fun e => n (by rw [e]; exact (pm.mem_iff).2 (List.mem_append_left _ hm))
/-! ### a field's trees changed at one place -/
theorem flat_set {ts : List Tr} {T : Tr} : ∀ {k : Nat}, k < ts.length → ((ts.set k T).flatMap Tr.nodes).Perm (T.nodes ++ (ts.set k .nil).flatMap Tr.nodes) := by
  induction ts with
  | nil => intro k h; cases h
  | cons t ts ih =>
    intro k h
    cases k with
    | zero => exact List.Perm.refl _
    | succ k =>
      have := ih (k := k) (Nat.lt_of_succ_lt_succ h)
      show (t.nodes ++ (ts.set k T).flatMap Tr.nodes).Perm (T.nodes ++ (t.nodes ++ (ts.set k .nil).flatMap Tr.nodes))
      refine (List.Perm.append_left _ this).trans ?_
      rw [← List.append_assoc, ← List.append_assoc]
      exact List.Perm.append_right _ List.perm_append_comm
theorem flat_self {ts : List Tr} {t : Tr} {k : Nat} (h : ts[k]? = some t) : (ts.flatMap Tr.nodes).Perm (t.nodes ++ (ts.set k .nil).flatMap Tr.nodes) := by
  obtain ⟨h1, h2⟩ := List.getElem?_eq_some_iff.1 h
  have := flat_set (ts := ts) (T := t) h1
  rwa [← h2, List.set_getElem_self, h2] at this
theorem flat_at {ts : List Tr} {t : Tr} {k j i : Nat} (h : ts[j]? = some t) (n : j ≠ k) (hi : i ∈ t.nodes) : i ∈ (ts.set k .nil).flatMap Tr.nodes :=
  List.mem_flatMap.2 ⟨t, List.mem_of_getElem? (i := j) (by rw [List.getElem?_set_ne (fun e => n e.symm)]; exact h), hi⟩
theorem FS.tree_at {fs : FS} {k : Nat} (h : k < fs.ts.length) : fs.ts[k]? = some (fs.tree k) := by
  unfold FS.tree
  rw [List.getD_eq_getElem?_getD, List.getElem?_eq_getElem h]; rfl
theorem FS.gone_eq {fs : FS} {i : Nat} : fs.gone i = decide (i ∉ fs.all) := by
  unfold FS.gone FS.all
  refine decide_eq_decide.2 ?_
  rw [List.mem_flatMap]
  constructor
  · rintro h ⟨t, ht, hi⟩; exact h t ht hi
  · intro h t ht hi; exact h ⟨t, ht, hi⟩
theorem FS.gone_of {fs fs' : FS} {i : Nat} (h : i ∈ fs.all ↔ i ∈ fs'.all) : fs'.gone i = fs.gone i := by
  rw [FS.gone_eq, FS.gone_eq]
  exact decide_eq_decide.2 (by rw [h])
theorem FS.all_tree {fs : FS} {k i : Nat} (h : i ∈ (fs.tree k).nodes) : i ∈ fs.all := by
  by_cases hk : k < fs.ts.length
  · exact List.mem_flatMap.2 ⟨_, List.mem_of_getElem? (FS.tree_at hk), h⟩
  · unfold FS.tree at h
    rw [List.getD_eq_getElem?_getD, List.getElem?_eq_none (by omega)] at h
    cases h
theorem FS.tree_nodup {fs : FS} (o : fs.Ok) {k : Nat} : (fs.tree k).nodes.Nodup := by
  by_cases hk : k < fs.ts.length
  · exact (List.nodup_append.1 ((flat_self (FS.tree_at hk)).nodup_iff.1 o.nd)).1
  · unfold FS.tree
    rw [List.getD_eq_getElem?_getD, List.getElem?_eq_none (by omega)]
    exact List.nodup_nil
/-- two trees at two places have nothing in common -/
theorem FS.apart {fs : FS} (o : fs.Ok) {k j i : Nat} (n : j ≠ k) (h : i ∈ (fs.tree j).nodes) (h' : i ∈ (fs.tree k).nodes) : False := by
  have hj : j < fs.ts.length := Decidable.byContradiction fun c => by
    unfold FS.tree at h
    rw [List.getD_eq_getElem?_getD, List.getElem?_eq_none (by omega)] at h
    cases h
  have hk : k < fs.ts.length := Decidable.byContradiction fun c => by
    unfold FS.tree at h'
    rw [List.getD_eq_getElem?_getD, List.getElem?_eq_none (by omega)] at h'
    cases h'
  exact (List.nodup_append.1 ((flat_self (FS.tree_at hk)).nodup_iff.1 o.nd)).2.2 i h' i (flat_at (FS.tree_at hj) n h) rfl
/-- the field with the tree at k another one -/
theorem FS.all_set {fs : FS} {k : Nat} {T : Tr} (hk : k < fs.ts.length) : ((fs.ts.set k T).flatMap Tr.nodes).Perm (T.nodes ++ (fs.ts.set k .nil).flatMap Tr.nodes) := flat_set hk
theorem FS.all_at {fs : FS} {k : Nat} (hk : k < fs.ts.length) : fs.all.Perm ((fs.tree k).nodes ++ (fs.ts.set k .nil).flatMap Tr.nodes) := flat_self (FS.tree_at hk)
theorem FS.home_at {fs : FS} {i h : Nat} (e : fs.home i = some h) : h < fs.ts.length ∧ i ∈ (fs.tree h).nodes := by
  obtain ⟨h1, h2, _⟩ := List.findIdx?_eq_some_iff_getElem.1 e
  refine ⟨h1, ?_⟩
  have e2 := FS.tree_at (fs := fs) h1
  rw [List.getElem?_eq_getElem h1] at e2
  rw [← Option.some.inj e2]
  exact of_decide_eq_true h2
theorem FS.home_of {fs : FS} (o : fs.Ok) {i h : Nat} (m : i ∈ (fs.tree h).nodes) : fs.home i = some h := by
  have hk : h < fs.ts.length := Decidable.byContradiction fun c => by
    unfold FS.tree at m
    rw [List.getD_eq_getElem?_getD, List.getElem?_eq_none (by omega)] at m
    cases m
  cases e : fs.home i with
  | none =>
    have := List.findIdx?_eq_none_iff.1 e (fs.tree h) (List.mem_of_getElem? (FS.tree_at hk))
    exact absurd m (of_decide_eq_false this)
  | some j =>
    obtain ⟨h1, h2⟩ := FS.home_at e
    by_cases hj : j = h
    · rw [hj]
    · exact (FS.apart o hj h2 m).elim
theorem FS.home_none {fs : FS} {i : Nat} : fs.home i = none ↔ i ∉ fs.all := by
  unfold FS.home FS.all
  rw [List.findIdx?_eq_none_iff, List.mem_flatMap]
  constructor
  · rintro h ⟨t, ht, hi⟩; exact (of_decide_eq_false (h t ht)) hi
  · intro h t ht; exact decide_eq_false fun hi => h ⟨t, ht, hi⟩
/-! the deeds keep what a field must be -/
theorem FS.Ok.addHeap {fs : FS} (o : fs.Ok) : fs.addHeap.Ok := by
  have e : fs.addHeap.all = fs.all := by
    unfold FS.addHeap FS.all
    rw [List.flatMap_append]; simp [Tr.nodes]
  exact ⟨by rw [e]; exact o.nd, fun i m => o.lt i (by rw [e] at m; exact m)⟩
theorem FS.put_all {fs : FS} {k : Nat} {w : Int} (hk : k < fs.ts.length) : (fs.put k w).all.Perm (fs.all ++ [fs.ws.length]) := by
  refine (FS.all_set (fs := fs) hk).trans ?_
  refine (List.Perm.append_right _ (mrg_perm _ _ _)).trans ?_
  refine List.Perm.trans ?_ (List.Perm.append_right _ (FS.all_at hk).symm)
  show List.Perm (((fs.tree k).nodes ++ [fs.ws.length]) ++ _) _
  rw [List.append_assoc, List.append_assoc]
  exact List.Perm.append_left _ List.perm_append_comm
theorem FS.Ok.put {fs : FS} (o : fs.Ok) {k : Nat} {w : Int} (hk : k < fs.ts.length) : (fs.put k w).Ok := by
  have pm := FS.put_all (w := w) hk
  have el : (fs.put k w).ws.length = fs.ws.length + 1 := by show (fs.ws ++ [w]).length = _; simp
  refine ⟨pm.nodup_iff.2 (List.nodup_append.2 ⟨o.nd, by simp, fun a ha b hb => ?_⟩), fun i m => ?_⟩
  · have := o.lt a ha
    have : b = fs.ws.length := by simpa using hb
    omega
  · rw [el]
    rcases List.mem_append.1 ((pm.mem_iff).1 m) with m | m
    · have := o.lt i m; omega
    · have : i = fs.ws.length := by simpa using m
      omega
theorem FS.take_all {fs : FS} {k i : Nat} {l r : Tr} (hk : k < fs.ts.length) (e : fs.tree k = .node i l r) : fs.all.Perm (i :: (fs.take k).all) := by
  have e1 : (fs.take k).ts = fs.ts.set k (mrg fs.ws l r) := by unfold FS.take; rw [e]
  have h1 := FS.all_at hk
  rw [e] at h1
  have h2 : (fs.take k).all.Perm ((mrg fs.ws l r).nodes ++ (fs.ts.set k .nil).flatMap Tr.nodes) := by
    unfold FS.all; rw [e1]; exact FS.all_set hk
  refine h1.trans (List.Perm.cons i ?_)
  exact ((List.Perm.append_right _ (mrg_perm _ _ _)).symm).trans h2.symm
theorem FS.Ok.take {fs : FS} (o : fs.Ok) {k i : Nat} {l r : Tr} (hk : k < fs.ts.length) (e : fs.tree k = .node i l r) : (fs.take k).Ok := by
  have pm := FS.take_all hk e
  have ew : (fs.take k).ws = fs.ws := by unfold FS.take; rw [e]
  exact ⟨(List.nodup_cons.1 (pm.nodup_iff.1 o.nd)).2, fun j m => by rw [ew]; exact o.lt j ((pm.mem_iff).2 (List.mem_cons_of_mem _ m))⟩
theorem FS.pour_all {fs : FS} {k m : Nat} (hk : k < fs.ts.length) (hm : m < fs.ts.length) (n : k ≠ m) : (fs.pour k m).all.Perm fs.all := by
  have hk' : k < (fs.ts.set m .nil).length := by rw [List.length_set]; exact hk
  have h1 := flat_set (ts := fs.ts.set m .nil) (T := mrg fs.ws (fs.tree k) (fs.tree m)) hk'
  have h2 : (fs.ts.set m .nil)[k]? = some (fs.tree k) := by rw [List.getElem?_set_ne (fun e => n e.symm)]; exact FS.tree_at hk
  have h3 := flat_self h2
  have h4 := FS.all_at hm
  refine h1.trans ((List.Perm.append_right _ (mrg_perm _ _ _)).trans ?_)
  refine List.Perm.trans ?_ h4.symm
  refine List.Perm.trans ?_ (List.Perm.append_left _ h3.symm)
  rw [← List.append_assoc]
  exact List.Perm.append_right _ List.perm_append_comm
theorem FS.Ok.pour {fs : FS} (o : fs.Ok) {k m : Nat} (hk : k < fs.ts.length) (hm : m < fs.ts.length) (n : k ≠ m) : (fs.pour k m).Ok := by
  have pm := FS.pour_all hk hm n
  exact ⟨pm.nodup_iff.2 o.nd, fun i h => o.lt i ((pm.mem_iff).1 h)⟩
/-- sinking, by what stands above the thing -/
inductive SinkTo (fs : FS) (i : Nat) (w : Int) : FS → Prop
  | top {h : Nat} {s : Tr} (hh : h < fs.ts.length) (e : fs.tree h = s) (ht : s.top = some i) : SinkTo fs i w { fs with ws := fs.ws.set i w, sp := 0 }
  | stay {h : Nat} {f : Frm} {c : List Frm} {s : Tr} (hh : h < fs.ts.length) (e : fs.tree h = fill (f :: c) s) (ht : s.top = some i) (l : Les (fs.ws.set i w) f.1 i) : SinkTo fs i w { fs with ws := fs.ws.set i w, sp := 0 }
  | move {h : Nat} {f : Frm} {c : List Frm} {s : Tr} (hh : h < fs.ts.length) (e : fs.tree h = fill (f :: c) s) (ht : s.top = some i) (l : ¬ Les (fs.ws.set i w) f.1 i) :
    SinkTo fs i w ⟨fs.ts.set h (mrg (fs.ws.set i w) (rise (f :: c) s.run .nil).1 s), fs.ws.set i w, (rise (f :: c) s.run .nil).2 + cnt (fs.ws.set i w) (rise (f :: c) s.run .nil).1 s⟩
theorem FS.sink_to {fs : FS} {i h : Nat} {w : Int} (e : fs.home i = some h) : SinkTo fs i w (fs.sink i w) := by
  obtain ⟨h1, h2⟩ := FS.home_at e
  obtain ⟨c, s, hl⟩ := locate_mem h2
  obtain ⟨l1, l2⟩ := locate_some hl
  unfold FS.sink
  rw [e]
  show SinkTo fs i w (match locate (fs.tree h) i with | none => fs | some ([], _) => _ | some (f :: c, s) => _)
  rw [hl]
  cases c with
  | nil => exact .top h1 l1.symm l2
  | cons f c =>
    show SinkTo fs i w (if Les (fs.ws.set i w) f.1 i then _ else _)
    by_cases l : Les (fs.ws.set i w) f.1 i
    · rw [if_pos l]; exact .stay h1 l1.symm l2 l
    · rw [if_neg l]; exact .move h1 l1.symm l2 l
theorem SinkTo.all {fs fs' : FS} {i : Nat} {w : Int} (h : SinkTo fs i w fs') : fs'.all.Perm fs.all ∧ fs'.ws = fs.ws.set i w ∧ fs'.ts.length = fs.ts.length := by
  cases h with
  | top => exact ⟨List.Perm.refl _, rfl, rfl⟩
  | stay => exact ⟨List.Perm.refl _, rfl, rfl⟩
  | @move h f c s hh e ht l =>
    refine ⟨?_, rfl, List.length_set⟩
    refine (FS.all_set (fs := fs) hh).trans (List.Perm.trans ?_ (FS.all_at hh).symm)
    rw [e]
    refine List.Perm.append_right _ ((mrg_perm _ _ _).trans ?_)
    refine (List.Perm.append_right _ rise_perm).trans ?_
    refine List.Perm.trans ?_ fill_perm.symm
    show List.Perm (([] ++ knodes (f :: c)) ++ s.nodes) (s.nodes ++ knodes (f :: c))
    exact List.perm_append_comm
theorem SinkTo.ok {fs fs' : FS} {i : Nat} {w : Int} (h : SinkTo fs i w fs') (o : fs.Ok) : fs'.Ok := by
  obtain ⟨pm, ew, _⟩ := h.all
  exact ⟨pm.nodup_iff.2 o.nd, fun j m => by rw [ew, List.length_set]; exact o.lt j ((pm.mem_iff).1 m)⟩
end G

/-! the program's walk: Trees -/
namespace G
open PySem PySem.Spec PyProof.Rows L2
/-- what the top says of the two classes -/
structure Ok (K : PySem.W.Frag) (A : Ad) : Prop where
  clF : Cls K A.CF
  clT : Cls K A.CT
  nTrees : NoAttr K A.CF "trees"
  nTops : NoAttr K A.CF "tops"
  nSizes : NoAttr K A.CF "sizes"
  nHomes : NoAttr K A.CF "homes"
  nGone : NoAttr K A.CF "gone"
  nSpent : NoAttr K A.CF "spent"
  nWeights : NoAttr K A.CT "weights"
  nLefts : NoAttr K A.CT "lefts"
  nRights : NoAttr K A.CT "rights"
  nUppers : NoAttr K A.CT "uppers"
  nRuns : NoAttr K A.CT "runs"
/-- where a Trees and its lists stand -/
structure TrA where
  t : Addr
  dt : Addr
  lw : Addr
  ll : Addr
  lr : Addr
  lu : Addr
  ln : Addr
def TrA.own (B : TrA) (a : Addr) : Prop := a = B.lw ∨ a = B.ll ∨ a = B.lr ∨ a = B.lu ∨ a = B.ln
def tF (B : TrA) : List (Str × V) := [("weights", .ref B.lw), ("lefts", .ref B.ll), ("rights", .ref B.lr), ("uppers", .ref B.lu), ("runs", .ref B.ln)]
def nV (k : Nat) : V := .int k
structure TreesAt (A : Ad) (H : Hp) (B : TrA) (ws : List Int) (S : CS) : Prop where
  ob : H B.t = some (.ins A.CT B.dt (tF B))
  w : H B.lw = some (.lst (ws.map V.int))
  l : H B.ll = some (.lst (tab ws.length fun i => oV (S.L i)))
  r : H B.lr = some (.lst (tab ws.length fun i => oV (S.R i)))
  u : H B.lu = some (.lst (tab ws.length fun i => oV (S.U i)))
  n : H B.ln = some (.lst (tab ws.length fun i => nV (S.N i)))
  nd : [B.lw, B.ll, B.lr, B.lu, B.ln].Nodup
theorem nd5 {a b c d e : Addr} (h : [a, b, c, d, e].Nodup) : (a ≠ b ∧ a ≠ c ∧ a ≠ d ∧ a ≠ e) ∧ (b ≠ c ∧ b ≠ d ∧ b ≠ e) ∧ (c ≠ d ∧ c ≠ e) ∧ d ≠ e := by
  simp only [List.nodup_cons, List.mem_cons, List.not_mem_nil, or_false, not_or] at h
  exact ⟨⟨h.1.1, h.1.2.1, h.1.2.2.1, h.1.2.2.2⟩, ⟨h.2.1.1, h.2.1.2.1, h.2.1.2.2⟩, ⟨h.2.2.1.1, h.2.2.1.2⟩, h.2.2.2.1⟩
section
variable {A : Ad} {H H' : Hp} {B : TrA} {ws : List Int} {S : CS} {K : PySem.W.Frag} {Q : VK} {i : Nat} {M : Addr → Prop}
theorem TreesAt.own_lst (T : TreesAt A H B ws S) {a : Addr} (h : B.own a) : ∃ xs, H a = some (.lst xs) := by
  rcases h with e | e | e | e | e <;> subst e
  · exact ⟨_, T.w⟩
  · exact ⟨_, T.l⟩
  · exact ⟨_, T.r⟩
  · exact ⟨_, T.u⟩
  · exact ⟨_, T.n⟩
theorem TreesAt.t_own (T : TreesAt A H B ws S) : ¬ B.own B.t := fun h => by
  obtain ⟨xs, e⟩ := T.own_lst h
  rw [T.ob] at e; cases e
theorem TreesAt.fr (T : TreesAt A H B ws S) (e : Fr M H H') (h : ∀ a, B.own a → ¬ M a) (ht : ¬ M B.t) : TreesAt A H' B ws S :=
  ⟨e _ _ T.ob ht, e _ _ T.w (h _ (.inl rfl)), e _ _ T.l (h _ (.inr (.inl rfl))), e _ _ T.r (h _ (.inr (.inr (.inl rfl)))), e _ _ T.u (h _ (.inr (.inr (.inr (.inl rfl))))), e _ _ T.n (h _ (.inr (.inr (.inr (.inr rfl))))), T.nd⟩
theorem TreesAt.upd_t (T : TreesAt A H B ws S) {a : Addr} {xs : List V} (h : H a = some (.lst xs)) : B.t ≠ a := ne_of T.ob h (by intro z; cases z)
/-! the five lists changed -/
theorem TreesAt.setL (T : TreesAt A H B ws S) {o : Option Nat} : TreesAt A (upd H B.ll (.lst ((tab ws.length fun i => oV (S.L i)).set i (oV o)))) B ws { S with L := fset S.L i o } := by
  obtain ⟨⟨h1, h2, h3, h4⟩, ⟨h5, h6, h7⟩, ⟨h8, h9⟩, h10⟩ := nd5 T.nd
  refine ⟨by rw [upd_ne (T.upd_t T.l)]; exact T.ob, by rw [upd_ne h1]; exact T.w, ?_, by rw [upd_ne h5.symm]; exact T.r, by rw [upd_ne h6.symm]; exact T.u, by rw [upd_ne h7.symm]; exact T.n, T.nd⟩
  rw [upd_same, tab_set]
  congr 2
  exact tab_ext fun j _ => by
    show (if j = i then oV o else oV (S.L j)) = oV (if j = i then o else S.L j)
    split <;> rfl
theorem TreesAt.setR (T : TreesAt A H B ws S) {o : Option Nat} : TreesAt A (upd H B.lr (.lst ((tab ws.length fun i => oV (S.R i)).set i (oV o)))) B ws { S with R := fset S.R i o } := by
  obtain ⟨⟨h1, h2, h3, h4⟩, ⟨h5, h6, h7⟩, ⟨h8, h9⟩, h10⟩ := nd5 T.nd
  refine ⟨by rw [upd_ne (T.upd_t T.r)]; exact T.ob, by rw [upd_ne h2]; exact T.w, by rw [upd_ne h5]; exact T.l, ?_, by rw [upd_ne h8.symm]; exact T.u, by rw [upd_ne h9.symm]; exact T.n, T.nd⟩
  rw [upd_same, tab_set]
  congr 2
  exact tab_ext fun j _ => by
    show (if j = i then oV o else oV (S.R j)) = oV (if j = i then o else S.R j)
    split <;> rfl
theorem TreesAt.setU (T : TreesAt A H B ws S) {o : Option Nat} : TreesAt A (upd H B.lu (.lst ((tab ws.length fun i => oV (S.U i)).set i (oV o)))) B ws { S with U := fset S.U i o } := by
  obtain ⟨⟨h1, h2, h3, h4⟩, ⟨h5, h6, h7⟩, ⟨h8, h9⟩, h10⟩ := nd5 T.nd
  refine ⟨by rw [upd_ne (T.upd_t T.u)]; exact T.ob, by rw [upd_ne h3]; exact T.w, by rw [upd_ne h6]; exact T.l, by rw [upd_ne h8]; exact T.r, ?_, by rw [upd_ne h10.symm]; exact T.n, T.nd⟩
  rw [upd_same, tab_set]
  congr 2
  exact tab_ext fun j _ => by
    show (if j = i then oV o else oV (S.U j)) = oV (if j = i then o else S.U j)
    split <;> rfl
theorem TreesAt.setN (T : TreesAt A H B ws S) {z : Nat} : TreesAt A (upd H B.ln (.lst ((tab ws.length fun i => nV (S.N i)).set i (nV z)))) B ws { S with N := fset S.N i z } := by
  obtain ⟨⟨h1, h2, h3, h4⟩, ⟨h5, h6, h7⟩, ⟨h8, h9⟩, h10⟩ := nd5 T.nd
  refine ⟨by rw [upd_ne (T.upd_t T.n)]; exact T.ob, by rw [upd_ne h4]; exact T.w, by rw [upd_ne h7]; exact T.l, by rw [upd_ne h9]; exact T.r, by rw [upd_ne h10]; exact T.u, ?_, T.nd⟩
  rw [upd_same, tab_set]
  congr 2
  exact tab_ext fun j _ => by
    show (if j = i then nV z else nV (S.N j)) = nV (if j = i then z else S.N j)
    split <;> rfl
theorem TreesAt.setW (T : TreesAt A H B ws S) {z : Int} : TreesAt A (upd H B.lw (.lst ((ws.map V.int).set i (.int z)))) B (ws.set i z) S := by
  obtain ⟨⟨h1, h2, h3, h4⟩, ⟨h5, h6, h7⟩, ⟨h8, h9⟩, h10⟩ := nd5 T.nd
  refine ⟨by rw [upd_ne (T.upd_t T.w)]; exact T.ob, ?_, by rw [upd_ne h1.symm, List.length_set]; exact T.l, by rw [upd_ne h2.symm, List.length_set]; exact T.r, by rw [upd_ne h3.symm, List.length_set]; exact T.u, by rw [upd_ne h4.symm, List.length_set]; exact T.n, T.nd⟩
  rw [upd_same, List.map_set]
theorem Fr.own {o : HO} {a : Addr} (h : B.own a) : Fr B.own H (upd H a o) := Fr.at h
/-! attributes read -/
theorem x_weights (k : Ok K A) (T : TreesAt A H B ws S) (q : Q (.ref B.lw) H) : kFld K "weights" Q (.ref B.t) H := x_kFld T.ob k.clT k.nWeights lk_here q
theorem x_lefts (k : Ok K A) (T : TreesAt A H B ws S) (q : Q (.ref B.ll) H) : kFld K "lefts" Q (.ref B.t) H := x_kFld T.ob k.clT k.nLefts ((lk_past (by decide +kernel)).trans lk_here) q
theorem x_rights (k : Ok K A) (T : TreesAt A H B ws S) (q : Q (.ref B.lr) H) : kFld K "rights" Q (.ref B.t) H := x_kFld T.ob k.clT k.nRights ((lk_past (by decide +kernel)).trans ((lk_past (by decide +kernel)).trans lk_here)) q
theorem x_uppers (k : Ok K A) (T : TreesAt A H B ws S) (q : Q (.ref B.lu) H) : kFld K "uppers" Q (.ref B.t) H := x_kFld T.ob k.clT k.nUppers ((lk_past (by decide +kernel)).trans ((lk_past (by decide +kernel)).trans ((lk_past (by decide +kernel)).trans lk_here))) q
theorem x_runs (k : Ok K A) (T : TreesAt A H B ws S) (q : Q (.ref B.ln) H) : kFld K "runs" Q (.ref B.t) H := x_kFld T.ob k.clT k.nRuns ((lk_past (by decide +kernel)).trans ((lk_past (by decide +kernel)).trans ((lk_past (by decide +kernel)).trans ((lk_past (by decide +kernel)).trans lk_here)))) q
/-! items read: self.lefts[i] .. -/
theorem x_ixw (T : TreesAt A H B ws S) (hi : i < ws.length) (q : Q (.int (wt ws i)) H) : rIxL K (.ref B.lw) (.int i) H Q := by
  refine x_ixL (sl_of T.w) rfl (at_map (List.getElem?_eq_getElem hi)) ?_
  have e : wt ws i = ws[i] := by unfold wt; rw [List.getD_eq_getElem?_getD, List.getElem?_eq_getElem hi]; rfl
  rw [← e]; exact q
theorem x_ixl (T : TreesAt A H B ws S) (hi : i < ws.length) (q : Q (oV (S.L i)) H) : rIxL K (.ref B.ll) (.int i) H Q := x_ixL (sl_of T.l) rfl (tab_at hi) q
theorem x_ixr (T : TreesAt A H B ws S) (hi : i < ws.length) (q : Q (oV (S.R i)) H) : rIxL K (.ref B.lr) (.int i) H Q := x_ixL (sl_of T.r) rfl (tab_at hi) q
theorem x_ixu (T : TreesAt A H B ws S) (hi : i < ws.length) (q : Q (oV (S.U i)) H) : rIxL K (.ref B.lu) (.int i) H Q := x_ixL (sl_of T.u) rfl (tab_at hi) q
theorem x_ixn (T : TreesAt A H B ws S) (hi : i < ws.length) (q : Q (.int (S.N i)) H) : rIxL K (.ref B.ln) (.int i) H Q := x_ixL (sl_of T.n) rfl (tab_at hi) q
/-! items stored -/
variable {R : Hp → Prop} {v : V}
theorem x_stl (T : TreesAt A H B ws S) (hi : i < ws.length) {o : Option Nat} (hv : v = oV o) (q : ∀ H', TreesAt A H' B ws { S with L := fset S.L i o } → Fr B.own H H' → R H') : rSetL (.ref B.ll) (.int i) v H R := by
  subst hv; exact x_setL T.l (tab_ix hi) (q _ T.setL (Fr.own (.inr (.inl rfl))))
theorem x_str (T : TreesAt A H B ws S) (hi : i < ws.length) {o : Option Nat} (hv : v = oV o) (q : ∀ H', TreesAt A H' B ws { S with R := fset S.R i o } → Fr B.own H H' → R H') : rSetL (.ref B.lr) (.int i) v H R := by
  subst hv; exact x_setL T.r (tab_ix hi) (q _ T.setR (Fr.own (.inr (.inr (.inl rfl)))))
theorem x_stu (T : TreesAt A H B ws S) (hi : i < ws.length) {o : Option Nat} (hv : v = oV o) (q : ∀ H', TreesAt A H' B ws { S with U := fset S.U i o } → Fr B.own H H' → R H') : rSetL (.ref B.lu) (.int i) v H R := by
  subst hv; exact x_setL T.u (tab_ix hi) (q _ T.setU (Fr.own (.inr (.inr (.inr (.inl rfl))))))
theorem x_stn (T : TreesAt A H B ws S) (hi : i < ws.length) {z : Nat} (hv : v = nV z) (q : ∀ H', TreesAt A H' B ws { S with N := fset S.N i z } → Fr B.own H H' → R H') : rSetL (.ref B.ln) (.int i) v H R := by
  subst hv; exact x_setL T.n (tab_ix hi) (q _ T.setN (Fr.own (.inr (.inr (.inr (.inr rfl))))))
theorem x_stw (T : TreesAt A H B ws S) (hi : i < ws.length) {z : Int} (hv : v = .int z) (q : ∀ H', TreesAt A H' B (ws.set i z) S → Fr B.own H H' → R H') : rSetL (.ref B.lw) (.int i) v H R := by
  subst hv; exact x_setL T.w (by rw [List.length_map]; exact ixN_nat hi) (q _ T.setW (Fr.own (.inl rfl)))
/-- a method of the Trees is met -/
theorem x_tm {m : Str} {sp : Sp} {E : XK} {tl : TA} {σ : L2.St} (T : TreesAt A H B ws S) (hm : ((m == ("weights" : Str)) || (m == ("lefts" : Str)) || (m == ("rights" : Str)) || (m == ("uppers" : Str)) || (m == ("runs" : Str))) = false) (k : tl σ H fun vs H2 => sp (.ref B.t :: (vs ++ [])) H2 Q E) :
    ∃ a dx fs, V.ref B.t = .ref a ∧ H a = some (.ins A.CT dx fs) ∧ fs.lookup m = none ∧ tl σ H fun vs H2 => sp (.ref B.t :: (vs ++ [])) H2 Q E := by
  simp only [Bool.or_eq_false_iff] at hm
  refine ⟨B.t, B.dt, tF B, rfl, T.ob, ?_, k⟩
  unfold tF
  rw [lk_past hm.1.1.1.1, lk_past hm.1.1.1.2, lk_past hm.1.1.2, lk_past hm.1.2, lk_past hm.2]
  rfl
end
end G
local macro_rules | `(tactic| walk_at "s2") => `(tactic| first
  | walk_at "s1"
  | (with_reducible first
    | (refine G.x_weights (by assumption) (by assumption) ?_)
    | (refine G.x_lefts (by assumption) (by assumption) ?_)
    | (refine G.x_rights (by assumption) (by assumption) ?_)
    | (refine G.x_uppers (by assumption) (by assumption) ?_)
    | (refine G.x_runs (by assumption) (by assumption) ?_)
    | (refine G.x_ixw (by assumption) (by assumption) ?_)
    | (refine G.x_ixl (by assumption) (by assumption) ?_)
    | (refine G.x_ixr (by assumption) (by assumption) ?_)
    | (refine G.x_ixu (by assumption) (by assumption) ?_)
    | (refine G.x_ixn (by assumption) (by assumption) ?_))
  | (refine G.x_tm (by assumption) (by decide +kernel) ?_))
namespace G
open PySem PySem.Spec PyProof.Rows L2
/-! ### rows that stand -/
def rowV (x : Row) : List V := [.int x.i, .int x.w, oV x.l, oV x.r, .int x.n]
structure RowsAt (H : Hp) (l : Addr) (rows : List Row) (ps : List Addr) : Prop where
  lst : H l = some (.lst (ps.map V.ref))
  len : ps.length = rows.length
  at_ : ∀ (k : Nat) (p : Addr) (x : Row), ps[k]? = some p → rows[k]? = some x → H p = some (.tup (rowV x))

/-! ### where a Field stands -/
structure FdA where
  f : Addr
  df : Addr
  B : TrA
  lt : Addr
  ls : Addr
  lh : Addr
  lg : Addr
def FdA.own (F : FdA) (a : Addr) : Prop := a = F.f ∨ F.B.own a ∨ a = F.lt ∨ a = F.ls ∨ a = F.lh ∨ a = F.lg
def fF (F : FdA) (z : Nat) : List (Str × V) := [("trees", .ref F.B.t), ("tops", .ref F.lt), ("sizes", .ref F.ls), ("homes", .ref F.lh), ("gone", .ref F.lg), ("spent", .int z)]
structure Raw (A : Ad) (H : Hp) (F : FdA) (ws : List Int) (S : CS) (tops : List (Option Nat)) (sizes : List Nat) (homes : List (Key × V)) (gl : List V) (sp : Nat) : Prop where
  ob : H F.f = some (.ins A.CF F.df (fF F sp))
  tr : TreesAt A H F.B ws S
  tops : H F.lt = some (.lst (tops.map oV))
  sizes : H F.ls = some (.lst (sizes.map nV))
  homes : H F.lh = some (.dK homes)
  gone : H F.lg = some (.lst gl)
  nd : [F.lt, F.ls, F.lg].Nodup
  nb : ¬ F.B.own F.lt ∧ ¬ F.B.own F.ls ∧ ¬ F.B.own F.lg
structure Homes (ts : List Tr) (n : Nat) (homes : List (Key × V)) : Prop where
  at_ : ∀ (h : Nat) (t : Tr) (i : Nat), ts[h]? = some t → t.top = some i → valV homes (.inl (i : Int)) = some (.int h)
  nd : (homes.map (·.1)).Nodup
  keys : ∀ k ∈ homes.map (·.1), ∃ i : Nat, i < n ∧ k = .inl (i : Int)
structure FieldAt (A : Ad) (H : Hp) (F : FdA) (fs : FS) : Prop where
  raw : ∃ S homes, Raw A H F fs.ws S (fs.ts.map Tr.top) (fs.ts.map Tr.size) homes (tab fs.ws.length fun i => .bl (fs.gone i)) fs.sp ∧ (∀ t ∈ fs.ts, Shape S t ∧ Runs S t ∧ Upp S t none) ∧ Homes fs.ts fs.ws.length homes
  ok : fs.Ok

/-! ### the promises: Trees -/
def sp_T_init (K : PySem.W.Frag) (A : Ad) : Sp := fun vs H Q _ => match vs with
  | [v] => ∃ t dt, v = .ref t ∧ H t = some (.ins A.CT dt []) ∧ ∀ (B : TrA) (H' : Hp), B.t = t → (∀ S, TreesAt A H' B [] S) → (∀ a, B.own a → H a = none) → Fr (fun a => a = t) H H' → Q .non H'
  | _ => False
def sp_T_grown (K : PySem.W.Frag) (A : Ad) : Sp := fun vs H Q _ => match vs with
  | [v, u] => ∃ (B : TrA) (ws : List Int) (S : CS) (w : Int), v = .ref B.t ∧ u = .int w ∧ TreesAt A H B ws S ∧ ws.length < 90000 ∧
    ∀ H', TreesAt A H' B (ws ++ [w]) ⟨fset S.L ws.length none, fset S.R ws.length none, fset S.U ws.length none, fset S.N ws.length 1⟩ → Fr B.own H H' → Q (.int ws.length) H'
  | _ => False
def sp_T_is_lesser (K : PySem.W.Frag) (A : Ad) : Sp := fun vs H Q _ => match vs with
  | [v, a, b] => ∃ (B : TrA) (ws : List Int) (S : CS) (i j : Nat), v = .ref B.t ∧ a = .int i ∧ b = .int j ∧ TreesAt A H B ws S ∧ i < ws.length ∧ j < ws.length ∧ Q (.bl (decide (Les ws i j))) H
  | _ => False
def sp_T_run_of (K : PySem.W.Frag) (A : Ad) : Sp := fun vs H Q _ => match vs with
  | [v, a] => ∃ (B : TrA) (ws : List Int) (S : CS) (o : Option Nat), v = .ref B.t ∧ a = oV o ∧ TreesAt A H B ws S ∧ (∀ k, o = some k → k < ws.length) ∧ Q (.int (S.run o)) H
  | _ => False
def sp_T_sided (K : PySem.W.Frag) (A : Ad) : Sp := fun vs H Q _ => match vs with
  | [v, a] => ∃ (B : TrA) (ws : List Int) (S : CS) (i : Nat), v = .ref B.t ∧ a = .int i ∧ TreesAt A H B ws S ∧ i < ws.length ∧ (∀ k, S.L i = some k → k < ws.length) ∧ (∀ k, S.R i = some k → k < ws.length) ∧
    ∀ H', TreesAt A H' B ws (S.sided i) → Fr B.own H H' → Q .non H'
  | _ => False
def sp_T_joined (K : PySem.W.Frag) (A : Ad) : Sp := fun vs H Q _ => match vs with
  | [v, a, b] => ∃ (B : TrA) (ws : List Int) (S : CS) (t u : Tr), v = .ref B.t ∧ a = oV t.top ∧ b = oV u.top ∧ TreesAt A H B ws S ∧ Shape S t ∧ Runs S t ∧ Shape S u ∧ Runs S u ∧ (t.nodes ++ u.nodes).Nodup ∧ (∀ i ∈ t.nodes ++ u.nodes, i < ws.length) ∧ ws.length < 90000 ∧
    ∀ H' S' p, TreesAt A H' B ws S' → Joined S S' (mrg ws t u) → H p = none → H' p = some (.tup [oV (mrg ws t u).top, .int (cnt ws t u)]) → Fr B.own H H' → Q (.ref p) H'
  | _ => False
def sp_T_parted (K : PySem.W.Frag) (A : Ad) : Sp := fun vs H Q _ => match vs with
  | [v, a] => ∃ (B : TrA) (ws : List Int) (S : CS) (i : Nat) (o q : Option Nat), v = .ref B.t ∧ a = .int i ∧ TreesAt A H B ws S ∧ i < ws.length ∧ S.L i = o ∧ S.R i = q ∧ (∀ k, o = some k → k < ws.length) ∧ (∀ k, q = some k → k < ws.length) ∧
    ∀ H' p, TreesAt A H' B ws { S with U := oset (oset S.U o none) q none } → H p = none → H' p = some (.tup [oV o, oV q]) → Fr B.own H H' → Q (.ref p) H'
  | _ => False
/-- t with the part s at its place leaves; c is what stands above it -/
def sp_T_released (K : PySem.W.Frag) (A : Ad) : Sp := fun vs H Q _ => match vs with
  | [v, a] => ∃ (B : TrA) (ws : List Int) (S : CS) (i : Nat) (f : Frm) (c : List Frm) (s : Tr), v = .ref B.t ∧ a = .int i ∧ TreesAt A H B ws S ∧ s.top = some i ∧ Shape S (fill (f :: c) s) ∧ Runs S (fill (f :: c) s) ∧ Upp S (fill (f :: c) s) none ∧ (fill (f :: c) s).nodes.Nodup ∧ (∀ j ∈ (fill (f :: c) s).nodes, j < ws.length) ∧
    ∀ H' S', TreesAt A H' B ws S' → Shape S' (rise (f :: c) s.run .nil).1 → Runs S' (rise (f :: c) s.run .nil).1 → Upp S' (rise (f :: c) s.run .nil).1 none → Shape S' s → Runs S' s → Upp S' s none → Out S S' (fill (f :: c) s).nodes → Fr B.own H H' → Q (.int (rise (f :: c) s.run .nil).2) H'
  | _ => False
def sp_T_top_of (K : PySem.W.Frag) (A : Ad) : Sp := fun vs H Q _ => match vs with
  | [v, a] => ∃ (B : TrA) (ws : List Int) (S : CS) (i : Nat) (t : Tr), v = .ref B.t ∧ a = .int i ∧ TreesAt A H B ws S ∧ Shape S t ∧ Upp S t none ∧ i ∈ t.nodes ∧ (∀ j ∈ t.nodes, j < ws.length) ∧ ∀ k : Nat, t.top = some k → Q (.int k) H
  | _ => False
def sp_T_told (K : PySem.W.Frag) (A : Ad) : Sp := fun vs H Q _ => match vs with
  | [v, a] => ∃ (B : TrA) (ws : List Int) (S : CS) (t : Tr), v = .ref B.t ∧ a = oV t.top ∧ TreesAt A H B ws S ∧ Shape S t ∧ Runs S t ∧ (∀ j ∈ t.nodes, j < ws.length) ∧ t.size ≤ 40000 ∧
    ∀ H' l ps, H l = none → RowsAt H' l (rowsOf ws t) ps → (∀ p ∈ ps, H p = none) → Fr M0 H H' → Q (.ref l) H'
  | _ => False
/-! ### the promises: Field -/
def sp_F_init (K : PySem.W.Frag) (A : Ad) : Sp := fun vs H Q _ => match vs with
  | [v] => ∃ f df, v = .ref f ∧ H f = some (.ins A.CF df []) ∧ ∀ (F : FdA) (H' : Hp), F.f = f → FieldAt A H' F ⟨[], [], 0⟩ → (∀ a, F.own a → a = f ∨ H a = none) → H F.B.t = none → Fr (fun a => a = f) H H' → Q .non H'
  | _ => False
def sp_F_need_heap (K : PySem.W.Frag) (A : Ad) : Sp := fun vs H Q E => match vs with
  | [v, u] => ∃ (F : FdA) (fs : FS) (h : Int), v = .ref F.f ∧ u = .int h ∧ FieldAt A H F fs ∧ (¬ (0 ≤ h ∧ h < fs.ts.length) → E (.ref A.xNH) none H) ∧ (0 ≤ h → h < fs.ts.length → Q .non H)
  | _ => False
def FS.there (fs : FS) (i : Int) : Prop := 0 ≤ i ∧ i < fs.ws.length ∧ fs.gone i.toNat = false
def sp_F_need_thing (K : PySem.W.Frag) (A : Ad) : Sp := fun vs H Q E => match vs with
  | [v, u] => ∃ (F : FdA) (fs : FS) (i : Int), v = .ref F.f ∧ u = .int i ∧ FieldAt A H F fs ∧ (¬ fs.there i → E (.ref A.xNT) none H) ∧ (fs.there i → Q .non H)
  | _ => False
def lay (homes : List (Key × V)) (x : Option Nat) (h : Nat) : List (Key × V) := match x with
  | none => homes
  | some i => putK homes (.inl (i : Int)) (.int h)
def sp_F_laid (K : PySem.W.Frag) (A : Ad) : Sp := fun vs H Q _ => match vs with
  | [v, u, y, z] => ∃ (F : FdA) (ws : List Int) (S : CS) (tops : List (Option Nat)) (sizes : List Nat) (homes : List (Key × V)) (gl : List V) (sp h k n : Nat) (x : Option Nat) (p : Addr), v = .ref F.f ∧ u = .int h ∧ y = .ref p ∧ z = .int n ∧
    Raw A H F ws S tops sizes homes gl sp ∧ h < tops.length ∧ H p = some (.tup [oV x, .int k]) ∧ homes.length < 90000 ∧
    ∀ H', Raw A H' F ws S (tops.set h x) sizes (lay homes x h) gl (n + k) → Fr F.own H H' → Q .non H'
  | _ => False
def sp_F_heap (K : PySem.W.Frag) (A : Ad) : Sp := fun vs H Q _ => match vs with
  | [v] => ∃ (F : FdA) (fs : FS), v = .ref F.f ∧ FieldAt A H F fs ∧ fs.ts.length < 90000 ∧ ∀ H', FieldAt A H' F fs.addHeap → Fr F.own H H' → Q (.int fs.ts.length) H'
  | _ => False
def sp_F_put (K : PySem.W.Frag) (A : Ad) : Sp := fun vs H Q E => match vs with
  | [v, u, y] => ∃ (F : FdA) (fs : FS) (h w : Int), v = .ref F.f ∧ u = .int h ∧ y = .int w ∧ FieldAt A H F fs ∧ fs.ws.length < 80000 ∧ (¬ (0 ≤ h ∧ h < fs.ts.length) → E (.ref A.xNH) none H) ∧
    (∀ k : Nat, h = k → k < fs.ts.length → ∀ H', FieldAt A H' F (fs.put k w) → Fr F.own H H' → Q (.int fs.ws.length) H')
  | _ => False
def sp_F_least (K : PySem.W.Frag) (A : Ad) : Sp := fun vs H Q E => match vs with
  | [v, u] => ∃ (F : FdA) (fs : FS) (h : Int), v = .ref F.f ∧ u = .int h ∧ FieldAt A H F fs ∧ (¬ (0 ≤ h ∧ h < fs.ts.length) → E (.ref A.xNH) none H) ∧
    (∀ k : Nat, h = k → k < fs.ts.length → fs.tree k = .nil → E (.ref A.xBA) none H) ∧
    (∀ (k : Nat) (i : Nat) (l r : Tr), h = k → k < fs.ts.length → fs.tree k = .node i l r → ∀ p, H p = none → Q (.ref p) (upd H p (.tup [.int (wt fs.ws i), .int i])))
  | _ => False
def sp_F_take (K : PySem.W.Frag) (A : Ad) : Sp := fun vs H Q E => match vs with
  | [v, u] => ∃ (F : FdA) (fs : FS) (h : Int), v = .ref F.f ∧ u = .int h ∧ FieldAt A H F fs ∧ fs.ws.length < 80000 ∧ (¬ (0 ≤ h ∧ h < fs.ts.length) → E (.ref A.xNH) none H) ∧
    (∀ k : Nat, h = k → k < fs.ts.length → fs.tree k = .nil → E (.ref A.xBA) none H) ∧
    (∀ (k : Nat) (i : Nat) (l r : Tr), h = k → k < fs.ts.length → fs.tree k = .node i l r → ∀ H' p, FieldAt A H' F (fs.take k) → H p = none → H' p = some (.tup [.int (wt fs.ws i), .int i]) → Fr F.own H H' → Q (.ref p) H')
  | _ => False
def sp_F_pour (K : PySem.W.Frag) (A : Ad) : Sp := fun vs H Q E => match vs with
  | [v, u, y] => ∃ (F : FdA) (fs : FS) (h o : Int), v = .ref F.f ∧ u = .int h ∧ y = .int o ∧ FieldAt A H F fs ∧ fs.ws.length < 80000 ∧ (¬ ((0 ≤ h ∧ h < fs.ts.length) ∧ 0 ≤ o ∧ o < fs.ts.length) → E (.ref A.xNH) none H) ∧
    (0 ≤ h → h < fs.ts.length → h = o → E (.ref A.xSA) none H) ∧
    (∀ k m : Nat, h = k → o = m → k < fs.ts.length → m < fs.ts.length → k ≠ m → ∀ H', FieldAt A H' F (fs.pour k m) → Fr F.own H H' → Q .non H')
  | _ => False
def sp_F_sink (K : PySem.W.Frag) (A : Ad) : Sp := fun vs H Q E => match vs with
  | [v, u, y] => ∃ (F : FdA) (fs : FS) (i w : Int), v = .ref F.f ∧ u = .int i ∧ y = .int w ∧ FieldAt A H F fs ∧ fs.ws.length < 80000 ∧ (¬ fs.there i → E (.ref A.xNT) none H) ∧
    (∀ k : Nat, i = k → fs.there i → wt fs.ws k < w → E (.ref A.xHV) none H) ∧
    (∀ k : Nat, i = k → fs.there i → w ≤ wt fs.ws k → ∀ H', FieldAt A H' F (fs.sink k w) → Fr F.own H H' → Q .non H')
  | _ => False
def sp_F_weight_of (K : PySem.W.Frag) (A : Ad) : Sp := fun vs H Q E => match vs with
  | [v, u] => ∃ (F : FdA) (fs : FS) (i : Int), v = .ref F.f ∧ u = .int i ∧ FieldAt A H F fs ∧ (¬ fs.there i → E (.ref A.xNT) none H) ∧ (∀ k : Nat, i = k → fs.there i → Q (.int (wt fs.ws k)) H)
  | _ => False
def sp_F_heap_of (K : PySem.W.Frag) (A : Ad) : Sp := fun vs H Q E => match vs with
  | [v, u] => ∃ (F : FdA) (fs : FS) (i : Int), v = .ref F.f ∧ u = .int i ∧ FieldAt A H F fs ∧ (¬ fs.there i → E (.ref A.xNT) none H) ∧ (∀ k h : Nat, i = k → fs.there i → fs.home k = some h → h < fs.ts.length → k ∈ (fs.tree h).nodes → Q (.int h) H)
  | _ => False
def sp_F_things (K : PySem.W.Frag) (A : Ad) : Sp := fun vs H Q E => match vs with
  | [v, u] => ∃ (F : FdA) (fs : FS) (h : Int), v = .ref F.f ∧ u = .int h ∧ FieldAt A H F fs ∧ (¬ (0 ≤ h ∧ h < fs.ts.length) → E (.ref A.xNH) none H) ∧ (∀ k : Nat, h = k → k < fs.ts.length → Q (.int (fs.tree k).size) H)
  | _ => False
def sp_F_tree (K : PySem.W.Frag) (A : Ad) : Sp := fun vs H Q E => match vs with
  | [v, u] => ∃ (F : FdA) (fs : FS) (h : Int), v = .ref F.f ∧ u = .int h ∧ FieldAt A H F fs ∧ fs.ws.length < 40000 ∧ (¬ (0 ≤ h ∧ h < fs.ts.length) → E (.ref A.xNH) none H) ∧
    (∀ k : Nat, h = k → k < fs.ts.length → ∀ H' l ps, H l = none → RowsAt H' l (rowsOf fs.ws (fs.tree k)) ps → (∀ p ∈ ps, H p = none) → Fr M0 H H' → Q (.ref l) H')
  | _ => False
def sp_F_work (K : PySem.W.Frag) (A : Ad) : Sp := fun vs H Q _ => match vs with
  | [v] => ∃ (F : FdA) (fs : FS), v = .ref F.f ∧ FieldAt A H F fs ∧ Q (.int fs.sp) H
  | _ => False
def t_T_init (K : PySem.W.Frag) (A : Ad) (E : XK) : TS :=
  (tSeq (sFld K (tVar 0) (tLst tNil) "weights")
    (tSeq (sFld K (tVar 0) (tLst tNil) "lefts")
    (tSeq (sFld K (tVar 0) (tLst tNil) "rights")
    (tSeq (sFld K (tVar 0) (tLst tNil) "uppers")
    (sFld K (tVar 0) (tLst tNil) "runs")))))
def t_T_grown (K : PySem.W.Frag) (A : Ad) (E : XK) : TS :=
  (tSeq (tDrop (tBM K "list" rAppend (tFld K (tVar 0) "weights") (tCons (tVar 1) tNil)))
    (tSeq (tDrop (tBM K "list" rAppend (tFld K (tVar 0) "lefts") (tCons (tC .non) tNil)))
    (tSeq (tDrop (tBM K "list" rAppend (tFld K (tVar 0) "rights") (tCons (tC .non) tNil)))
    (tSeq (tDrop (tBM K "list" rAppend (tFld K (tVar 0) "uppers") (tCons (tC .non) tNil)))
    (tSeq (tDrop (tBM K "list" rAppend (tFld K (tVar 0) "runs") (tCons (tC (.int 1)) tNil)))
    (tRet (tOp oSub (tCB (oLen K) (tCons (tFld K (tVar 0) "weights") tNil)) (tC (.int 1)))))))))
def t_T_is_lesser (K : PySem.W.Frag) (A : Ad) (E : XK) : TS :=
  (tSeq (tIfS (tTest (tOp rNe (tOp (rIxL K) (tFld K (tVar 0) "weights") (tVar 1)) (tOp (rIxL K) (tFld K (tVar 0) "weights") (tVar 2)))) (tRet (tOp oLt (tOp (rIxL K) (tFld K (tVar 0) "weights") (tVar 1)) (tOp (rIxL K) (tFld K (tVar 0) "weights") (tVar 2)))) tNext)
    (tRet (tOp oLt (tVar 1) (tVar 2))))
def t_T_run_of (K : PySem.W.Frag) (A : Ad) (E : XK) : TS :=
  (tSeq (tIfS (tTest (tOp oIsN (tVar 1) (tC .non))) (tRet (tC (.int 0))) tNext)
    (tRet (tOp (rIxL K) (tFld K (tVar 0) "runs") (tVar 1))))
def t_T_sided (K : PySem.W.Frag) (A : Ad) (E : XK) : TS :=
  (tSeq (tAsg (tOp (rIxL K) (tFld K (tVar 0) "lefts") (tVar 1)) (gName 2))
    (tSeq (tAsg (tOp (rIxL K) (tFld K (tVar 0) "rights") (tVar 1)) (gName 3))
    (tSeq (tIfS (tTest (tOp oGt (tMeth A.CT "run_of" (sp_T_run_of K A) [] E0 (tVar 0) (tCons (tVar 3) tNil)) (tMeth A.CT "run_of" (sp_T_run_of K A) [] E0 (tVar 0) (tCons (tVar 2) tNil)))) (tSeq (tAsg (tVar 3) (gSub (tFld K (tVar 0) "lefts") (tVar 1) rSetL))
    (tAsg (tVar 2) (gSub (tFld K (tVar 0) "rights") (tVar 1) rSetL))) tNext)
    (tAsg (tOp oAdd (tC (.int 1)) (tMeth A.CT "run_of" (sp_T_run_of K A) [] E0 (tVar 0) (tCons (tOp (rIxL K) (tFld K (tVar 0) "rights") (tVar 1)) tNil))) (gSub (tFld K (tVar 0) "runs") (tVar 1) rSetL)))))
def t_T_joined (K : PySem.W.Frag) (A : Ad) (E : XK) : TS :=
  (tSeq (tAsg (tLst tNil) (gName 3))
    (tSeq (tWhile (tAnd (tTest (tOp oNotN (tVar 1) (tC .non))) (tTest (tOp oNotN (tVar 2) (tC .non)))) (tSeq (tIfS (tB (tMeth A.CT "is_lesser" (sp_T_is_lesser K A) [] E0 (tVar 0) (tCons (tVar 2) (tCons (tVar 1) tNil)))) (tSeq (tAsg (tVar 1) (gName 4))
    (tSeq (tAsg (tVar 2) (gName 1))
    (tAsg (tVar 4) (gName 2)))) tNext)
    (tSeq (tDrop (tBM K "list" rAppend (tVar 3) (tCons (tVar 1) tNil)))
    (tAsg (tOp (rIxL K) (tFld K (tVar 0) "rights") (tVar 1)) (gName 1)))))
    (tSeq (tAsg (tVar 1) (gName 5))
    (tSeq (tIfS (tTest (tOp oIsN (tVar 5) (tC .non))) (tAsg (tVar 2) (gName 5)) tNext)
    (tSeq (tFor (iRev K (tCons (tVar 3) tNil)) (gName 6) (tSeq (tAsg (tVar 5) (gSub (tFld K (tVar 0) "rights") (tVar 6) rSetL))
    (tSeq (tIfS (tTest (tOp oNotN (tVar 5) (tC .non))) (tAsg (tVar 6) (gSub (tFld K (tVar 0) "uppers") (tVar 5) rSetL)) tNext)
    (tSeq (tDrop (tMeth A.CT "sided" (sp_T_sided K A) [] E0 (tVar 0) (tCons (tVar 6) tNil)))
    (tAsg (tVar 6) (gName 5))))))
    (tSeq (tIfS (tTest (tOp oNotN (tVar 5) (tC .non))) (tAsg (tC .non) (gSub (tFld K (tVar 0) "uppers") (tVar 5) rSetL)) tNext)
    (tRet (tTup (tCons (tVar 5) (tCons (tCB (oLen K) (tCons (tVar 3) tNil)) tNil))))))))))
def t_T_parted (K : PySem.W.Frag) (A : Ad) (E : XK) : TS :=
  (tSeq (tAsg (tOp (rIxL K) (tFld K (tVar 0) "lefts") (tVar 1)) (gName 2))
    (tSeq (tAsg (tOp (rIxL K) (tFld K (tVar 0) "rights") (tVar 1)) (gName 3))
    (tSeq (tIfS (tTest (tOp oNotN (tVar 2) (tC .non))) (tAsg (tC .non) (gSub (tFld K (tVar 0) "uppers") (tVar 2) rSetL)) tNext)
    (tSeq (tIfS (tTest (tOp oNotN (tVar 3) (tC .non))) (tAsg (tC .non) (gSub (tFld K (tVar 0) "uppers") (tVar 3) rSetL)) tNext)
    (tRet (tTup (tCons (tVar 2) (tCons (tVar 3) tNil))))))))
def t_T_released (K : PySem.W.Frag) (A : Ad) (E : XK) : TS :=
  (tSeq (tAsg (tOp (rIxL K) (tFld K (tVar 0) "uppers") (tVar 1)) (gName 2))
    (tSeq (tAsg (tC .non) (gSub (tFld K (tVar 0) "uppers") (tVar 1) rSetL))
    (tSeq (tIfS (tTest (tOp rEq (tOp (rIxL K) (tFld K (tVar 0) "lefts") (tVar 2)) (tVar 1))) (tAsg (tC .non) (gSub (tFld K (tVar 0) "lefts") (tVar 2) rSetL)) (tAsg (tC .non) (gSub (tFld K (tVar 0) "rights") (tVar 2) rSetL)))
    (tSeq (tAsg (tC (.int 0)) (gName 3))
    (tSeq (tAsg (tC (.bl true)) (gName 4))
    (tSeq (tWhile (tAnd (tTest (tOp oNotN (tVar 2) (tC .non))) (tB (tVar 4))) (tSeq (tAsg (tOp (rIxL K) (tFld K (tVar 0) "runs") (tVar 2)) (gName 5))
    (tSeq (tDrop (tMeth A.CT "sided" (sp_T_sided K A) [] E0 (tVar 0) (tCons (tVar 2) tNil)))
    (tSeq (tAsg (tOp oAdd (tVar 3) (tC (.int 1))) (gName 3))
    (tSeq (tAsg (tOp rNe (tOp (rIxL K) (tFld K (tVar 0) "runs") (tVar 2)) (tVar 5)) (gName 4))
    (tAsg (tOp (rIxL K) (tFld K (tVar 0) "uppers") (tVar 2)) (gName 2)))))))
    (tRet (tVar 3))))))))
def t_T_top_of (K : PySem.W.Frag) (A : Ad) (E : XK) : TS :=
  (tSeq (tWhile (tTest (tOp oNotN (tOp (rIxL K) (tFld K (tVar 0) "uppers") (tVar 1)) (tC .non))) (tAsg (tOp (rIxL K) (tFld K (tVar 0) "uppers") (tVar 1)) (gName 1)))
    (tRet (tVar 1)))
def t_T_told (K : PySem.W.Frag) (A : Ad) (E : XK) : TS :=
  (tSeq (tAsg (tLst tNil) (gName 2))
    (tSeq (tAsg (tLst (tCons (tVar 1) tNil)) (gName 3))
    (tSeq (tWhile (tTest (tOp oGt (tCB (oLen K) (tCons (tVar 3) tNil)) (tC (.int 0)))) (tSeq (tAsg (tBM0 K "list" rPop (tVar 3)) (gName 4))
    (tIfS (tTest (tOp oNotN (tVar 4) (tC .non))) (tSeq (tAsg (tOp (rIxL K) (tFld K (tVar 0) "lefts") (tVar 4)) (gName 5))
    (tSeq (tAsg (tOp (rIxL K) (tFld K (tVar 0) "rights") (tVar 4)) (gName 6))
    (tSeq (tDrop (tBM K "list" rAppend (tVar 2) (tCons (tTup (tCons (tVar 4) (tCons (tOp (rIxL K) (tFld K (tVar 0) "weights") (tVar 4)) (tCons (tVar 5) (tCons (tVar 6) (tCons (tOp (rIxL K) (tFld K (tVar 0) "runs") (tVar 4)) tNil)))))) tNil)))
    (tSeq (tDrop (tBM K "list" rAppend (tVar 3) (tCons (tVar 6) tNil)))
    (tDrop (tBM K "list" rAppend (tVar 3) (tCons (tVar 5) tNil))))))) tNext)))
    (tRet (tVar 2)))))
def t_F_init (K : PySem.W.Frag) (A : Ad) (E : XK) : TS :=
  (tSeq (sFld K (tVar 0) (tMake A.CT (sp_T_init K A) [] E0 tNil) "trees")
    (tSeq (sFld K (tVar 0) (tLst tNil) "tops")
    (tSeq (sFld K (tVar 0) (tLst tNil) "sizes")
    (tSeq (sFld K (tVar 0) tDNewK "homes")
    (tSeq (sFld K (tVar 0) (tLst tNil) "gone")
    (sFld K (tVar 0) (tC (.int 0)) "spent"))))))
def t_F_need_heap (K : PySem.W.Frag) (A : Ad) (E : XK) : TS :=
  (tIfS (tNot (tTest (tChain oLe oLt (tC (.int 0)) (tVar 1) (tCB (oLen K) (tCons (tFld K (tVar 0) "tops") tNil))))) (tRaiseE E A.xNH) tNext)
def t_F_need_thing (K : PySem.W.Frag) (A : Ad) (E : XK) : TS :=
  (tIfS (tOr (tNot (tTest (tChain oLe oLt (tC (.int 0)) (tVar 1) (tCB (oLen K) (tCons (tFld K (tVar 0) "gone") tNil))))) (tB (tOp (rIxL K) (tFld K (tVar 0) "gone") (tVar 1)))) (tRaiseE E A.xNT) tNext)
def t_F_laid (K : PySem.W.Frag) (A : Ad) (E : XK) : TS :=
  (tSeq (tAsg (tOp (rIxT K) (tVar 2) (tC (.int 0))) (gSub (tFld K (tVar 0) "tops") (tVar 1) rSetL))
    (tSeq (tIfS (tTest (tOp oNotN (tOp (rIxT K) (tVar 2) (tC (.int 0))) (tC .non))) (sDPut (tFld K (tVar 0) "homes") (tOp (rIxT K) (tVar 2) (tC (.int 0))) (tVar 1)) tNext)
    (sFld K (tVar 0) (tOp oAdd (tVar 3) (tOp (rIxT K) (tVar 2) (tC (.int 1)))) "spent")))
def t_F_heap (K : PySem.W.Frag) (A : Ad) (E : XK) : TS :=
  (tSeq (tDrop (tBM K "list" rAppend (tFld K (tVar 0) "tops") (tCons (tC .non) tNil)))
    (tSeq (tDrop (tBM K "list" rAppend (tFld K (tVar 0) "sizes") (tCons (tC (.int 0)) tNil)))
    (tRet (tOp oSub (tCB (oLen K) (tCons (tFld K (tVar 0) "tops") tNil)) (tC (.int 1))))))
def t_F_put (K : PySem.W.Frag) (A : Ad) (E : XK) : TS :=
  (tSeq (tDrop (tMeth A.CF "need_heap" (sp_F_need_heap K A) [] E (tVar 0) (tCons (tVar 1) tNil)))
    (tSeq (tAsg (tMeth A.CT "grown" (sp_T_grown K A) [] E0 (tFld K (tVar 0) "trees") (tCons (tVar 2) tNil)) (gName 3))
    (tSeq (tDrop (tBM K "list" rAppend (tFld K (tVar 0) "gone") (tCons (tC (.bl false)) tNil)))
    (tSeq (tDrop (tMeth A.CF "laid" (sp_F_laid K A) [] E0 (tVar 0) (tCons (tVar 1) (tCons (tMeth A.CT "joined" (sp_T_joined K A) [] E0 (tFld K (tVar 0) "trees") (tCons (tOp (rIxL K) (tFld K (tVar 0) "tops") (tVar 1)) (tCons (tVar 3) tNil))) (tCons (tC (.int 0)) tNil)))))
    (tSeq (tAsg (tOp oAdd (tOp (rIxL K) (tFld K (tVar 0) "sizes") (tVar 1)) (tC (.int 1))) (gSub (tFld K (tVar 0) "sizes") (tVar 1) rSetL))
    (tRet (tVar 3)))))))
def t_F_least (K : PySem.W.Frag) (A : Ad) (E : XK) : TS :=
  (tSeq (tDrop (tMeth A.CF "need_heap" (sp_F_need_heap K A) [] E (tVar 0) (tCons (tVar 1) tNil)))
    (tSeq (tAsg (tOp (rIxL K) (tFld K (tVar 0) "tops") (tVar 1)) (gName 2))
    (tSeq (tIfS (tTest (tOp oIsN (tVar 2) (tC .non))) (tRaiseE E A.xBA) tNext)
    (tRet (tTup (tCons (tOp (rIxL K) (tFld K (tFld K (tVar 0) "trees") "weights") (tVar 2)) (tCons (tVar 2) tNil)))))))
def t_F_take (K : PySem.W.Frag) (A : Ad) (E : XK) : TS :=
  (tSeq (tAsg (tMeth A.CF "least" (sp_F_least K A) [] E (tVar 0) (tCons (tVar 1) tNil)) (gName 2))
    (tSeq (tAsg (tMeth A.CT "parted" (sp_T_parted K A) [] E0 (tFld K (tVar 0) "trees") (tCons (tOp (rIxT K) (tVar 2) (tC (.int 1))) tNil)) (gName 3))
    (tSeq (tAsg (tC (.bl true)) (gSub (tFld K (tVar 0) "gone") (tOp (rIxT K) (tVar 2) (tC (.int 1))) rSetL))
    (tSeq (tAsg (tOp oSub (tOp (rIxL K) (tFld K (tVar 0) "sizes") (tVar 1)) (tC (.int 1))) (gSub (tFld K (tVar 0) "sizes") (tVar 1) rSetL))
    (tSeq (tDrop (tMeth A.CF "laid" (sp_F_laid K A) [] E0 (tVar 0) (tCons (tVar 1) (tCons (tMeth A.CT "joined" (sp_T_joined K A) [] E0 (tFld K (tVar 0) "trees") (tCons (tOp (rIxT K) (tVar 3) (tC (.int 0))) (tCons (tOp (rIxT K) (tVar 3) (tC (.int 1))) tNil))) (tCons (tC (.int 0)) tNil)))))
    (tRet (tVar 2)))))))
def t_F_pour (K : PySem.W.Frag) (A : Ad) (E : XK) : TS :=
  (tSeq (tDrop (tMeth A.CF "need_heap" (sp_F_need_heap K A) [] E (tVar 0) (tCons (tVar 1) tNil)))
    (tSeq (tDrop (tMeth A.CF "need_heap" (sp_F_need_heap K A) [] E (tVar 0) (tCons (tVar 2) tNil)))
    (tSeq (tIfS (tTest (tOp rEq (tVar 1) (tVar 2))) (tRaiseE E A.xSA) tNext)
    (tSeq (tAsg (tMeth A.CT "joined" (sp_T_joined K A) [] E0 (tFld K (tVar 0) "trees") (tCons (tOp (rIxL K) (tFld K (tVar 0) "tops") (tVar 1)) (tCons (tOp (rIxL K) (tFld K (tVar 0) "tops") (tVar 2)) tNil))) (gName 3))
    (tSeq (tAsg (tC .non) (gSub (tFld K (tVar 0) "tops") (tVar 2) rSetL))
    (tSeq (tAsg (tOp oAdd (tOp (rIxL K) (tFld K (tVar 0) "sizes") (tVar 1)) (tOp (rIxL K) (tFld K (tVar 0) "sizes") (tVar 2))) (gSub (tFld K (tVar 0) "sizes") (tVar 1) rSetL))
    (tSeq (tAsg (tC (.int 0)) (gSub (tFld K (tVar 0) "sizes") (tVar 2) rSetL))
    (tDrop (tMeth A.CF "laid" (sp_F_laid K A) [] E0 (tVar 0) (tCons (tVar 1) (tCons (tVar 3) (tCons (tC (.int 0)) tNil))))))))))))
def t_F_heap_of (K : PySem.W.Frag) (A : Ad) (E : XK) : TS :=
  (tSeq (tDrop (tMeth A.CF "need_thing" (sp_F_need_thing K A) [] E (tVar 0) (tCons (tVar 1) tNil)))
    (tRet (tDGet (tFld K (tVar 0) "homes") (tMeth A.CT "top_of" (sp_T_top_of K A) [] E0 (tFld K (tVar 0) "trees") (tCons (tVar 1) tNil)))))
def t_F_sink (K : PySem.W.Frag) (A : Ad) (E : XK) : TS :=
  (tSeq (tDrop (tMeth A.CF "need_thing" (sp_F_need_thing K A) [] E (tVar 0) (tCons (tVar 1) tNil)))
    (tSeq (tIfS (tTest (tOp oGt (tVar 2) (tOp (rIxL K) (tFld K (tFld K (tVar 0) "trees") "weights") (tVar 1)))) (tRaiseE E A.xHV) tNext)
    (tSeq (tAsg (tMeth A.CF "heap_of" (sp_F_heap_of K A) [] E (tVar 0) (tCons (tVar 1) tNil)) (gName 3))
    (tSeq (tAsg (tVar 2) (gSub (tFld K (tFld K (tVar 0) "trees") "weights") (tVar 1) rSetL))
    (tSeq (tAsg (tOp (rIxL K) (tFld K (tFld K (tVar 0) "trees") "uppers") (tVar 1)) (gName 4))
    (tIfS (tOr (tTest (tOp oIsN (tVar 4) (tC .non))) (tB (tMeth A.CT "is_lesser" (sp_T_is_lesser K A) [] E0 (tFld K (tVar 0) "trees") (tCons (tVar 4) (tCons (tVar 1) tNil))))) (sFld K (tVar 0) (tC (.int 0)) "spent") (tSeq (tAsg (tMeth A.CT "released" (sp_T_released K A) [] E0 (tFld K (tVar 0) "trees") (tCons (tVar 1) tNil)) (gName 5))
    (tDrop (tMeth A.CF "laid" (sp_F_laid K A) [] E0 (tVar 0) (tCons (tVar 3) (tCons (tMeth A.CT "joined" (sp_T_joined K A) [] E0 (tFld K (tVar 0) "trees") (tCons (tOp (rIxL K) (tFld K (tVar 0) "tops") (tVar 3)) (tCons (tVar 1) tNil))) (tCons (tVar 5) tNil))))))))))))
def t_F_weight_of (K : PySem.W.Frag) (A : Ad) (E : XK) : TS :=
  (tSeq (tDrop (tMeth A.CF "need_thing" (sp_F_need_thing K A) [] E (tVar 0) (tCons (tVar 1) tNil)))
    (tRet (tOp (rIxL K) (tFld K (tFld K (tVar 0) "trees") "weights") (tVar 1))))
def t_F_things (K : PySem.W.Frag) (A : Ad) (E : XK) : TS :=
  (tSeq (tDrop (tMeth A.CF "need_heap" (sp_F_need_heap K A) [] E (tVar 0) (tCons (tVar 1) tNil)))
    (tRet (tOp (rIxL K) (tFld K (tVar 0) "sizes") (tVar 1))))
def t_F_tree (K : PySem.W.Frag) (A : Ad) (E : XK) : TS :=
  (tSeq (tDrop (tMeth A.CF "need_heap" (sp_F_need_heap K A) [] E (tVar 0) (tCons (tVar 1) tNil)))
    (tRet (tMeth A.CT "told" (sp_T_told K A) [] E0 (tFld K (tVar 0) "trees") (tCons (tOp (rIxL K) (tFld K (tVar 0) "tops") (tVar 1)) tNil))))
def t_F_work (K : PySem.W.Frag) (A : Ad) (E : XK) : TS :=
  (tRet (tFld K (tVar 0) "spent"))
end G

namespace G
open PySem PySem.Spec PyProof.Rows L2
/-! ### Trees: the pure theorems -/
section
variable {K : PySem.W.Frag} {A : Ad} {H : Hp} {Q : VK} {E : XK} {v0 v1 v2 v3 : V}
theorem fr_new {M : Addr → Prop} {H : Hp} {a : Addr} {o : HO} (h : H a = none) : Fr M H (upd H a o) := Fr.new h
theorem pure_T_is_lesser (ok : Ok K A) (h : sp_T_is_lesser K A [v0, v1, v2] H Q E) : t_T_is_lesser K A E { nx := fun _ H' => Q .non H', rt := Q } [some v0, some v1, some v2] H := by
  obtain ⟨B, ws, S, i, j, rfl, rfl, rfl, T, hi, hj, k⟩ := h
  unfold t_T_is_lesser
  repeat walk_at "s2"
  refine x_iteN (fun c => ?_) (fun c => ?_)
  · repeat walk_at "s2"
    have e : decide (wt ws i < wt ws j) = decide (Les ws i j) := by
      refine decide_eq_decide.2 ?_
      unfold Les; omega
    rw [e]; exact k
  · repeat walk_at "s2"
    have e : decide ((i : Int) < (j : Int)) = decide (Les ws i j) := by
      refine decide_eq_decide.2 ?_
      unfold Les; omega
    rw [e]; exact k
theorem pure_T_run_of (ok : Ok K A) (h : sp_T_run_of K A [v0, v1] H Q E) : t_T_run_of K A E { nx := fun _ H' => Q .non H', rt := Q } [some v0, some v1] H := by
  obtain ⟨B, ws, S, o, rfl, rfl, T, ho, k⟩ := h
  unfold t_T_run_of
  repeat walk_at "s2"
  rw [dec_oV]
  cases o with
  | none =>
    refine x_T rfl ?_
    repeat walk_at "s2"
    exact k
  | some i =>
    have hi := ho i rfl
    refine x_F rfl ?_
    repeat walk_at "s2"
    exact x_ixn T hi k
theorem pure_T_sided (ok : Ok K A) (h : sp_T_sided K A [v0, v1] H Q E) : t_T_sided K A E { nx := fun _ H' => Q .non H', rt := Q } [some v0, some v1, none, none] H := by
  obtain ⟨B, ws, S, i, rfl, rfl, T, hi, hl, hr, k⟩ := h
  unfold t_T_sided
  repeat walk_at "s2"
  refine ⟨B, ws, S, S.R i, rfl, rfl, T, hr, ?_⟩
  repeat walk_at "s2"
  refine ⟨B, ws, S, S.L i, rfl, rfl, T, hl, ?_⟩
  repeat walk_at "s2"
  refine x_ite (fun c => ?_) (fun c => ?_)
  · repeat walk_at "s2"
    refine x_stl T hi (o := S.R i) rfl fun H1 T1 f1 => ?_
    repeat walk_at "s2"
    refine x_str T1 hi (o := S.L i) rfl fun H2 T2 f2 => ?_
    repeat walk_at "s2"
    refine ⟨B, ws, _, fset S.R i (S.L i) i, rfl, rfl, T2, ?_, ?_⟩
    · intro z e; rw [fset_same] at e; exact hl z e
    repeat walk_at "s2"
    have c' : S.run (S.L i) < S.run (S.R i) := by omega
    refine x_stn (z := 1 + S.run (S.L i)) T2 hi ?_ fun H3 T3 f3 => ?_
    · rw [fset_same]
      show V.int (1 + ((S.run (S.L i) : Nat) : Int)) = V.int ((1 + S.run (S.L i) : Nat) : Int)
      congr 1
    · refine k H3 ?_ ((f1.trans f2).trans f3)
      have e : S.sided i = { S with L := fset S.L i (S.R i), R := fset S.R i (S.L i), N := fset S.N i (1 + S.run (S.L i)) } := if_pos c'
      rw [e]; exact T3
  · repeat walk_at "s2"
    refine ⟨B, ws, _, S.R i, rfl, rfl, T, hr, ?_⟩
    repeat walk_at "s2"
    have c' : ¬ S.run (S.L i) < S.run (S.R i) := by omega
    refine x_stn (z := 1 + S.run (S.R i)) T hi rfl fun H3 T3 f3 => ?_
    refine k H3 ?_ f3
    have e : S.sided i = { S with N := fset S.N i (1 + S.run (S.R i)) } := if_neg c'
    rw [e]; exact T3
theorem none_back {M : Addr → Prop} {H H' : Hp} {p : Addr} (f : Fr M H H') (h : H' p = none) (hm : ∀ a, M a → H' a ≠ none) : H p = none := by
  cases e : H p with
  | none => rfl
  | some u =>
    by_cases m : M p
    · exact absurd h (hm p m)
    · rw [f p u e m] at h; cases h
theorem TreesAt.some_own {B : TrA} {ws : List Int} {S : CS} (T : TreesAt A H B ws S) : ∀ a, B.own a → H a ≠ none := fun a m e => by
  obtain ⟨xs, z⟩ := T.own_lst m
  rw [e] at z; cases z
/-- a new object leaves the trees -/
theorem TreesAt.new {B : TrA} {ws : List Int} {S : CS} {p : Addr} {o : HO} (T : TreesAt A H B ws S) (hp : H p = none) : TreesAt A (upd H p o) B ws S := T.fr (M := M0) (Fr.new hp) (fun _ _ z => z) (fun z => z)
theorem x_notN' {o : Option Nat} {Q : VK} {H : Hp} (k : Q (.bl o.isSome) H) : oNotN (oV o) .non H Q := by
  refine x_notN ?_
  rw [dec_oV]
  cases o <;> exact k
theorem pure_T_parted (ok : Ok K A) (h : sp_T_parted K A [v0, v1] H Q E) : t_T_parted K A E { nx := fun _ H' => Q .non H', rt := Q } [some v0, some v1, none, none] H := by
  obtain ⟨B, ws, S, i, o, q, rfl, rfl, T, hi, rfl, rfl, ho, hq, k⟩ := h
  unfold t_T_parted
  repeat walk_at "s2"
  have e3 : ∀ H2, TreesAt A H2 B ws { S with U := oset (oset S.U (S.L i) none) (S.R i) none } → Fr B.own H H2 → (tRet (tTup (tCons (tVar 2) (tCons (tVar 3) tNil)))) { nx := fun _ H' => Q .non H', rt := Q } [some (.ref B.t), some (.int i), some (oV (S.L i)), some (oV (S.R i))] H2 := by
    intro H2 T2 f
    repeat walk_at "s2"
    refine ⟨sz_le (by simp), fun p hp => ?_⟩
    exact k _ p (T2.new hp) (none_back f hp T2.some_own) upd_same (f.trans (Fr.new hp))
  have e2 : ∀ H1, TreesAt A H1 B ws { S with U := oset S.U (S.L i) none } → Fr B.own H H1 → (tSeq (tIfS (tTest (tOp oNotN (tVar 3) (tC .non))) (tAsg (tC .non) (gSub (tFld K (tVar 0) "uppers") (tVar 3) rSetL)) tNext)
    (tRet (tTup (tCons (tVar 2) (tCons (tVar 3) tNil))))) { nx := fun _ H' => Q .non H', rt := Q } [some (.ref B.t), some (.int i), some (oV (S.L i)), some (oV (S.R i))] H1 := by
    intro H1 T1 f1
    refine x_seq (x_ifS (x_tTest (x_op (x_var rfl (x_c (x_notN' (x_bl ?_)))))))
    cases e : S.R i with
    | none =>
      refine x_F rfl (x_next ?_)
      have := e3 H1 (by rw [e]; exact T1) f1
      rw [e] at this; exact this
    | some z =>
      refine x_T rfl ?_
      repeat walk_at "s2"
      refine x_stu T1 (hq z e) (o := none) rfl fun H2 T2 f2 => ?_
      have := e3 H2 (by rw [e]; exact T2) (f1.trans f2)
      rw [e] at this; exact this
  rw [dec_oV]
  cases e : S.L i with
  | none =>
    refine x_F rfl (x_next ?_)
    have := e2 H (by rw [e]; exact T) Fr.refl
    rw [e] at this; exact this
  | some z =>
    refine x_T rfl ?_
    repeat walk_at "s2"
    refine x_stu T (ho z e) (o := none) rfl fun H2 T2 f2 => ?_
    have := e2 H2 (by rw [e]; exact T2) f2
    rw [e] at this; exact this
end
end G

namespace G
open PySem PySem.Spec PyProof.Rows L2
section
variable {K : PySem.W.Frag} {A : Ad} {H : Hp} {Q : VK} {E : XK} {v0 v1 v2 v3 : V}
/-- self.f = [], a new list -/
theorem x_kset {f : Str} {y : V} {N : Hp → Prop} {a C dx : Addr} {fs : List (Str × V)} (h : H a = some (.ins C dx fs)) (c : Cls K C) (n : NoAttr K C f) (hl : fs.length < 1000) (k : N (upd H a (.ins C dx (putF f y fs)))) : kSet K f y N (.ref a) H := ⟨a, C, dx, fs, rfl, h, c, n, hl, k⟩
theorem init_step {D : Ends} {σ : L2.St} {f : Str} {t C dx : Addr} {fs : List (Str × V)} (hσ : σ[0]? = some (some (.ref t))) (h : H t = some (.ins C dx fs)) (c : Cls K C) (n : NoAttr K C f) (hl : fs.length < 1000)
    (k : ∀ p H2, H p = none → H2 t = some (.ins C dx (putF f (.ref p) fs)) → H2 p = some (.lst []) → Fr (fun a => a = t) H H2 → D.nx σ H2) : sFld K (tVar 0) (tLst tNil) f D σ H := by
  refine x_sfld (x_lst (x_nil ⟨Nat.zero_le _, fun p hp => x_var hσ ?_⟩))
  have npt : t ≠ p := ne_of_none h hp
  refine x_kset (by rw [upd_ne npt]; exact h) c n hl ?_
  refine k p _ hp upd_same (by rw [upd_ne npt.symm, upd_same]) ?_
  intro b o e nb
  rw [upd_ne nb, upd_ne (ne_of_none e hp)]
  exact e
/-- self.f.append(e) -/
theorem app_step {D : Ends} {σ : L2.St} {f : Str} {t C dx l : Addr} {fs : List (Str × V)} {xs : List V} {v : V} {te : TE} (hσ : σ[0]? = some (some (.ref t))) (h : H t = some (.ins C dx fs)) (c : Cls K C) (n : NoAttr K C f) (hf : fs.lookup f = some (.ref l)) (hx : H l = some (.lst xs)) (hz : xs.length < 100000)
    (hv : ∀ R : VK, R v H → te σ H R) (k : ∀ H2, H2 l = some (.lst (xs ++ [v])) → Fr (fun a => a = l) H H2 → D.nx σ H2) : tDrop (tBM K "list" rAppend (tFld K (tVar 0) f) (tCons te tNil)) D σ H := by
  refine x_drop (x_bm (x_fld (x_var hσ (x_kFld h c n hf (x_tyL (sl_of hx) (x_cons (hv _ (x_nil (x_append hx hz ?_)))))))))
  exact k _ upd_same (Fr.at rfl)
theorem Fr.le {M M' : Addr → Prop} {H H' : Hp} (a : Fr M H H') (h : ∀ b, M b → M' b ∨ H b = none) : Fr M' H H' := fun c o e n => a c o e fun z => by
  rcases h c z with q | q
  · exact n q
  · rw [e] at q; cases q
theorem lk_weights {B : TrA} : (tF B).lookup ("weights" : Str) = some (V.ref B.lw) := lk_here
theorem lk_lefts {B : TrA} : (tF B).lookup ("lefts" : Str) = some (V.ref B.ll) := (lk_past (by decide +kernel)).trans lk_here
theorem lk_rights {B : TrA} : (tF B).lookup ("rights" : Str) = some (V.ref B.lr) := (lk_past (by decide +kernel)).trans ((lk_past (by decide +kernel)).trans lk_here)
theorem lk_uppers {B : TrA} : (tF B).lookup ("uppers" : Str) = some (V.ref B.lu) := (lk_past (by decide +kernel)).trans ((lk_past (by decide +kernel)).trans ((lk_past (by decide +kernel)).trans lk_here))
theorem lk_runs {B : TrA} : (tF B).lookup ("runs" : Str) = some (V.ref B.ln) := (lk_past (by decide +kernel)).trans ((lk_past (by decide +kernel)).trans ((lk_past (by decide +kernel)).trans ((lk_past (by decide +kernel)).trans lk_here)))
theorem pure_T_init (ok : Ok K A) (h : sp_T_init K A [v0] H Q E) : t_T_init K A E { nx := fun _ H' => Q .non H', rt := Q } [some v0] H := by
  obtain ⟨t, dt, rfl, h0, k⟩ := h
  unfold t_T_init
  with_reducible refine x_seq ?_
  refine init_step rfl h0 ok.clT ok.nWeights (by show 0 < 1000; decide) fun p1 H1 n1 o1 c1 f1 => ?_
  have e1 : putF "weights" (V.ref p1) [] = ([("weights", V.ref p1)] : List (Str × V)) := rfl
  rw [e1] at o1
  with_reducible refine x_seq ?_
  refine init_step rfl o1 ok.clT ok.nLefts (by show 1 < 1000; decide) fun p2 H2 n2 o2 c2 f2 => ?_
  have e2 : putF "lefts" (V.ref p2) [("weights", V.ref p1)] = ([("weights", .ref p1), ("lefts", .ref p2)] : List (Str × V)) := by
    rw [put_past (by decide +kernel)]
    rfl
  rw [e2] at o2
  with_reducible refine x_seq ?_
  refine init_step rfl o2 ok.clT ok.nRights (by show 2 < 1000; decide) fun p3 H3 n3 o3 c3 f3 => ?_
  have e3 : putF "rights" (V.ref p3) [("weights", .ref p1), ("lefts", .ref p2)] = ([("weights", .ref p1), ("lefts", .ref p2), ("rights", .ref p3)] : List (Str × V)) := by
    rw [put_past (by decide +kernel), put_past (by decide +kernel)]
    rfl
  rw [e3] at o3
  with_reducible refine x_seq ?_
  refine init_step rfl o3 ok.clT ok.nUppers (by show 3 < 1000; decide) fun p4 H4 n4 o4 c4 f4 => ?_
  have e4 : putF "uppers" (V.ref p4) [("weights", .ref p1), ("lefts", .ref p2), ("rights", .ref p3)] = ([("weights", .ref p1), ("lefts", .ref p2), ("rights", .ref p3), ("uppers", .ref p4)] : List (Str × V)) := by
    rw [put_past (by decide +kernel), put_past (by decide +kernel), put_past (by decide +kernel)]
    rfl
  rw [e4] at o4
  refine init_step rfl o4 ok.clT ok.nRuns (by show 4 < 1000; decide) fun p5 H5 n5 o5 c5 f5 => ?_
  have e5 : putF "runs" (V.ref p5) [("weights", .ref p1), ("lefts", .ref p2), ("rights", .ref p3), ("uppers", .ref p4)] = ([("weights", .ref p1), ("lefts", .ref p2), ("rights", .ref p3), ("uppers", .ref p4), ("runs", .ref p5)] : List (Str × V)) := by
    rw [put_past (by decide +kernel), put_past (by decide +kernel), put_past (by decide +kernel), put_past (by decide +kernel)]
    rfl
  rw [e5] at o5
  have q : ∀ {H : Hp} {p : Addr} {xs}, H t = some (.ins A.CT dt xs) → H p = none → p ≠ t := fun h n => (ne_of_none h n).symm
  have q1 := q h0 n1
  have q2 := q o1 n2
  have q3 := q o2 n3
  have q4 := q o3 n4
  have q5 := q o4 n5
  have d12 := ne_of_none c1 n2
  have c1b := f2 _ _ c1 q1
  have d13 := ne_of_none c1b n3
  have d23 := ne_of_none c2 n3
  have c1c := f3 _ _ c1b q1
  have c2c := f3 _ _ c2 q2
  have d14 := ne_of_none c1c n4
  have d24 := ne_of_none c2c n4
  have d34 := ne_of_none c3 n4
  have c1d := f4 _ _ c1c q1
  have c2d := f4 _ _ c2c q2
  have c3d := f4 _ _ c3 q3
  have d15 := ne_of_none c1d n5
  have d25 := ne_of_none c2d n5
  have d35 := ne_of_none c3d n5
  have d45 := ne_of_none c4 n5
  have back : ∀ {Ha Hb : Hp} {p : Addr}, Fr (fun a => a = t) Ha Hb → Hb p = none → p ≠ t → Ha p = none := fun {Ha Hb p} f h n => by
    cases e : Ha p with
    | none => rfl
    | some u => rw [f p u e n] at h; cases h
  refine k ⟨t, dt, p1, p2, p3, p4, p5⟩ H5 rfl (fun S => ⟨o5, f5 _ _ c1d q1, f5 _ _ c2d q2, f5 _ _ c3d q3, f5 _ _ c4 q4, c5, by simp [d12, d13, d14, d15, d23, d24, d25, d34, d35, d45]⟩) ?_ ((((f1.trans f2).trans f3).trans f4).trans f5)
  rintro a (e | e | e | e | e) <;> subst e
  · exact n1
  · exact back f1 n2 q2
  · exact back (f1.trans f2) n3 q3
  · exact back ((f1.trans f2).trans f3) n4 q4
  · exact back (((f1.trans f2).trans f3).trans f4) n5 q5
theorem tab_grownO {n : Nat} {f : Nat → Option Nat} {a : Option Nat} : tab (n + 1) (fun i => oV (fset f n a i)) = tab n (fun i => oV (f i)) ++ [oV a] := by
  rw [tab_succ, fset_same]
  exact congrArg (· ++ [oV a]) (tab_ext fun i hi => by rw [fset_ne (by omega)])
theorem tab_grownN {n : Nat} {f : Nat → Nat} {a : Nat} : tab (n + 1) (fun i => nV (fset f n a i)) = tab n (fun i => nV (f i)) ++ [nV a] := by
  rw [tab_succ, fset_same]
  exact congrArg (· ++ [nV a]) (tab_ext fun i hi => by rw [fset_ne (by omega)])
theorem pure_T_grown (ok : Ok K A) (h : sp_T_grown K A [v0, v1] H Q E) : t_T_grown K A E { nx := fun _ H' => Q .non H', rt := Q } [some v0, some v1] H := by
  obtain ⟨B, ws, S, w, rfl, rfl, T, hz, k⟩ := h
  obtain ⟨⟨h1, h2, h3, h4⟩, ⟨h5, h6, h7⟩, ⟨h8, h9⟩, h10⟩ := nd5 T.nd
  unfold t_T_grown
  with_reducible refine x_seq ?_
  refine app_step (te := tVar 1) (v := .int w) rfl T.ob ok.clT ok.nWeights lk_weights T.w (by rw [List.length_map]; omega) (fun R r => x_var rfl r) fun H1 c1 f1 => ?_
  have o1 := f1 _ _ T.ob (T.upd_t T.w)
  with_reducible refine x_seq ?_
  refine app_step (te := tC .non) (v := .non) rfl o1 ok.clT ok.nLefts lk_lefts (f1 _ _ T.l h1.symm) (by rw [tab_len]; omega) (fun R r => r) fun H2 c2 f2 => ?_
  have o2 := f2 _ _ o1 (T.upd_t T.l)
  with_reducible refine x_seq ?_
  refine app_step (te := tC .non) (v := .non) rfl o2 ok.clT ok.nRights lk_rights (f2 _ _ (f1 _ _ T.r h2.symm) h5.symm) (by rw [tab_len]; omega) (fun R r => r) fun H3 c3 f3 => ?_
  have o3 := f3 _ _ o2 (T.upd_t T.r)
  with_reducible refine x_seq ?_
  refine app_step (te := tC .non) (v := .non) rfl o3 ok.clT ok.nUppers lk_uppers (f3 _ _ (f2 _ _ (f1 _ _ T.u h3.symm) h6.symm) h8.symm) (by rw [tab_len]; omega) (fun R r => r) fun H4 c4 f4 => ?_
  have o4 := f4 _ _ o3 (T.upd_t T.u)
  with_reducible refine x_seq ?_
  refine app_step (te := tC (.int 1)) (v := .int 1) rfl o4 ok.clT ok.nRuns lk_runs (f4 _ _ (f3 _ _ (f2 _ _ (f1 _ _ T.n h4.symm) h7.symm) h9.symm) h10.symm) (by rw [tab_len]; omega) (fun R r => r) fun H5 c5 f5 => ?_
  have o5 := f5 _ _ o4 (T.upd_t T.n)
  have cw := f5 _ _ (f4 _ _ (f3 _ _ (f2 _ _ c1 h1) h2) h3) h4
  have el : (ws ++ [w]).length = ws.length + 1 := by simp
  have T5 : TreesAt A H5 B (ws ++ [w]) ⟨fset S.L ws.length none, fset S.R ws.length none, fset S.U ws.length none, fset S.N ws.length 1⟩ := by
    refine ⟨o5, ?_, ?_, ?_, ?_, ?_, T.nd⟩
    · rw [cw, List.map_append]; rfl
    · rw [el]; exact (f5 _ _ (f4 _ _ (f3 _ _ c2 h5) h6) h7).trans (congrArg (fun x => some (HO.lst x)) (tab_grownO (f := S.L) (a := none)).symm)
    · rw [el]; exact (f5 _ _ (f4 _ _ c3 h8) h9).trans (congrArg (fun x => some (HO.lst x)) (tab_grownO (f := S.R) (a := none)).symm)
    · rw [el]; exact (f5 _ _ c4 h10).trans (congrArg (fun x => some (HO.lst x)) (tab_grownO (f := S.U) (a := none)).symm)
    · rw [el]; exact c5.trans (congrArg (fun x => some (HO.lst x)) (tab_grownN (a := 1)).symm)
  repeat walk_at "s1"
  with_reducible refine x_weights ok T5 ?_
  repeat walk_at "s1"
  refine x_lenL (sl_of T5.w) ?_
  repeat walk_at "s2"
  have e : (((ws ++ [w]).map V.int).length : Int) - 1 = (ws.length : Int) := by rw [List.length_map, el]; omega
  rw [e]
  refine k H5 T5 ((((f1.mono ?_).trans (f2.mono ?_)).trans (f3.mono ?_)).trans ((f4.mono ?_).trans (f5.mono ?_)))
  all_goals intro b e; subst e
  · exact .inl rfl
  · exact .inr (.inl rfl)
  · exact .inr (.inr (.inl rfl))
  · exact .inr (.inr (.inr (.inl rfl)))
  · exact .inr (.inr (.inr (.inr rfl)))
end
end G

namespace G
open PySem PySem.Spec PyProof.Rows L2
section
variable {K : PySem.W.Frag} {A : Ad} {H : Hp} {Q : VK} {E : XK} {v0 v1 v2 v3 : V}
theorem take_last {α : Type} {c : List α} {n : Nat} (h : n < c.length) : c.take (n + 1) = c.take n ++ [c[n]] := by
  rw [List.take_succ, List.getElem?_eq_getElem h]; rfl
theorem cnodes_len : ∀ c : List (Nat × Tr), c.length ≤ (cnodes c).length
  | [] => Nat.le_refl _
  | p :: c => by
    have h := cnodes_len c
    show c.length + 1 ≤ ((p.1 :: p.2.nodes) ++ cnodes c).length
    rw [List.length_append, List.length_cons]; omega
/-- unlike numbers below a bound are no more than it -/
theorem nodup_bound {l : List Nat} {n : Nat} (nd : l.Nodup) (h : ∀ i ∈ l, i < n) : l.length ≤ n := by
  have := List.Nodup.length_le_of_subset nd (l₂ := List.range n) (fun i m => List.mem_range.2 (h i m))
  rwa [List.length_range] at this
theorem own_ne {B : TrA} {ws : List Int} {S : CS} {p : Addr} (T : TreesAt A H B ws S) (hp : H p = none) : ¬ B.own p := fun m => T.some_own p m hp
theorem pure_T_joined (ok : Ok K A) (h : sp_T_joined K A [v0, v1, v2] H Q E) : t_T_joined K A E { nx := fun _ H' => Q .non H', rt := Q } [some v0, some v1, some v2, none, none, none, none] H := by
  obtain ⟨B, ws, S, T1, T2, rfl, rfl, rfl, T, sh1, ru1, sh2, ru2, nd, lt, hn, k⟩ := h
  unfold t_T_joined
  repeat walk_at "s1"
  refine ⟨Nat.zero_le _, fun pl hpl => ?_⟩
  repeat walk_at "s1"
  have npl := own_ne T hpl
  have clen : ∀ {c : List (Nat × Tr)} {t u : Tr}, J1 ws S T1 T2 c t u → c.length < 100000 := fun {c t u} J => by
    have h1 : c.length ≤ (cnodes c).length := cnodes_len c
    have h2 := J.pm.length_eq
    rw [List.length_append] at h2
    have h3 := nodup_bound nd lt
    omega
  refine x_while (fun m σ' H' => ∃ c t u x4, σ' = [some (.ref B.t), some (oV t.top), some (oV u.top), some (.ref pl), x4, none, none] ∧ J1 ws S T1 T2 c t u ∧ H' = upd H pl (.lst (c.map fun p => V.int p.1)) ∧ m = t.size + u.size)
    _ ⟨[], T1, T2, none, rfl, J1.start sh1 ru1 sh2 ru2, rfl, rfl⟩ ?_
  rintro m σ' H' ⟨c, t, u, x4, rfl, J, rfl, rfl⟩
  have Tc : ∀ xs, TreesAt A (upd H pl (.lst xs)) B ws S := fun xs => T.new hpl
  have mem : ∀ {i}, i ∈ t.nodes ++ u.nodes → i < ws.length := fun m => lt _ ((J.pm.mem_iff).1 (List.mem_append_right _ m))
  -- behind the loop
  have rest : (t = .nil ∨ u = .nil) → (tSeq (tAsg (tVar 1) (gName 5))
    (tSeq (tIfS (tTest (tOp oIsN (tVar 5) (tC .non))) (tAsg (tVar 2) (gName 5)) tNext)
    (tSeq (tFor (iRev K (tCons (tVar 3) tNil)) (gName 6) (tSeq (tAsg (tVar 5) (gSub (tFld K (tVar 0) "rights") (tVar 6) rSetL))
    (tSeq (tIfS (tTest (tOp oNotN (tVar 5) (tC .non))) (tAsg (tVar 6) (gSub (tFld K (tVar 0) "uppers") (tVar 5) rSetL)) tNext)
    (tSeq (tDrop (tMeth A.CT "sided" (sp_T_sided K A) [] E0 (tVar 0) (tCons (tVar 6) tNil)))
    (tAsg (tVar 6) (gName 5))))))
    (tSeq (tIfS (tTest (tOp oNotN (tVar 5) (tC .non))) (tAsg (tC .non) (gSub (tFld K (tVar 0) "uppers") (tVar 5) rSetL)) tNext)
    (tRet (tTup (tCons (tVar 5) (tCons (tCB (oLen K) (tCons (tVar 3) tNil)) tNil)))))))) { nx := fun _ H' => Q .non H', rt := Q } [some (.ref B.t), some (oV t.top), some (oV u.top), some (.ref pl), x4, none, none] (upd H pl (.lst (c.map fun p => V.int p.1))) := by
    intro hnil
    obtain ⟨J0, hc⟩ := J.done nd hnil
    have topn : ∀ {S' : CS} {c' : List (Nat × Tr)} {t' : Tr}, J2 S S' (mrg ws T1 T2) c' t' → ∀ i ∈ cnodes c' ++ t'.nodes, i < ws.length := fun J i m => by
      have z := (J.pm.mem_iff).1 m
      rw [mrg_mem] at z
      exact lt i (List.mem_append.2 z)
    -- from the second loop on
    have loop : (tSeq (tFor (iRev K (tCons (tVar 3) tNil)) (gName 6) (tSeq (tAsg (tVar 5) (gSub (tFld K (tVar 0) "rights") (tVar 6) rSetL))
    (tSeq (tIfS (tTest (tOp oNotN (tVar 5) (tC .non))) (tAsg (tVar 6) (gSub (tFld K (tVar 0) "uppers") (tVar 5) rSetL)) tNext)
    (tSeq (tDrop (tMeth A.CT "sided" (sp_T_sided K A) [] E0 (tVar 0) (tCons (tVar 6) tNil)))
    (tAsg (tVar 6) (gName 5))))))
    (tSeq (tIfS (tTest (tOp oNotN (tVar 5) (tC .non))) (tAsg (tC .non) (gSub (tFld K (tVar 0) "uppers") (tVar 5) rSetL)) tNext)
    (tRet (tTup (tCons (tVar 5) (tCons (tCB (oLen K) (tCons (tVar 3) tNil)) tNil)))))) { nx := fun _ H' => Q .non H', rt := Q } [some (.ref B.t), some (oV t.top), some (oV u.top), some (.ref pl), x4, some (oV (mrg ws t u).top), none] (upd H pl (.lst (c.map fun p => V.int p.1))) := by
      walk_at "s1"
      refine x_forRev (xs := c.map fun p => V.int p.1) (a := pl) (fun R r => x_cons (x_var rfl (x_nil r))) (sl_of upd_same)
        (fun i σ' H' => ∃ S' t' x6, σ' = [some (.ref B.t), some (oV t.top), some (oV u.top), some (.ref pl), x4, some (oV t'.top), x6] ∧ J2 S S' (mrg ws T1 T2) (c.take (c.length - i)) t' ∧ TreesAt A H' B ws S' ∧ H' pl = some (.lst (c.map fun p => V.int p.1)) ∧ Fr B.own H H')
        ⟨S, mrg ws t u, none, rfl, by rw [Nat.sub_zero, List.take_length]; exact J0, Tc _, upd_same, Fr.new hpl⟩ (fun i σ' H' ⟨_, _, _, _, _, _, hp, _⟩ => sl_of hp) ?_ ?_
      · rintro i x σ' H' hi hx ⟨S', t', x6, rfl, J, T', hp', f'⟩
        rw [List.length_map] at hi hx
        have hj : c.length - 1 - i < c.length := by omega
        have ej : c.length - i = (c.length - 1 - i) + 1 := by omega
        rw [ej, take_last hj] at J
        generalize hq : c[c.length - 1 - i] = q at J
        obtain ⟨j, l⟩ := q
        obtain rfl : V.int (j : Int) = x := by
          rw [List.getElem?_map, List.getElem?_eq_getElem hj, hq] at hx
          exact Option.some.inj hx
        have bd := topn J
        have jn : j < ws.length := bd j (by rw [cnodes_snoc]; simp)
        have ln : ∀ z, l.top = some z → z < ws.length := fun z e => bd z (by rw [cnodes_snoc]; simp [Tr.top_mem e])
        have tn : ∀ z, t'.top = some z → z < ws.length := fun z e => bd z (List.mem_append_right _ (Tr.top_mem e))
        have jl : S'.L j = l.top := (J.ok (j, l) (by simp)).1
        have Jn := J.step
        repeat walk_at "s2"
        refine x_str T' jn (o := t'.top) rfl fun H1 T1' f1 => ?_
        -- from sided on
        have go : ∀ H2, TreesAt A H2 B ws { S' with R := fset S'.R j t'.top, U := oset S'.U t'.top (some j) } → Fr B.own H1 H2 →
          (tSeq (tDrop (tMeth A.CT "sided" (sp_T_sided K A) [] E0 (tVar 0) (tCons (tVar 6) tNil))) (tAsg (tVar 6) (gName 5)))
          { nx := fun σ' H' => ∃ S' t' x6, σ' = [some (.ref B.t), some (oV t.top), some (oV u.top), some (.ref pl), x4, some (oV t'.top), x6] ∧ J2 S S' (mrg ws T1 T2) (c.take (c.length - (i + 1))) t' ∧ TreesAt A H' B ws S' ∧ H' pl = some (.lst (c.map fun p => V.int p.1)) ∧ Fr B.own H H', rt := Q }
          [some (.ref B.t), some (oV t.top), some (oV u.top), some (.ref pl), x4, some (oV t'.top), some (.int j)] H2 := by
          intro H2 T2' f2
          repeat walk_at "s2"
          refine ⟨B, ws, _, j, rfl, rfl, T2', jn, fun z e => ln z (jl ▸ e), fun z e => tn z ?_, fun H3 T3 f3 => ?_⟩
          · have e' : fset S'.R j t'.top j = some z := e
            rw [fset_same] at e'; exact e'
          repeat walk_at "s1"
          refine ⟨_, side j l t', some (.int j), ?_, ?_, T3, f3 _ _ (f2 _ _ (f1 _ _ hp' npl) npl) npl, ((f'.trans f1).trans f2).trans f3⟩
          · rw [side_top]; rfl
          · have e2 : c.length - (i + 1) = c.length - 1 - i := by omega
            rw [e2]; exact Jn
        repeat walk_at "s1"
        rw [dec_oV]
        cases e : t'.top with
        | none =>
          refine x_F rfl (x_next ?_)
          have := go H1 (by rw [e] at T1' ⊢; exact T1') Fr.refl
          rw [e] at this; exact this
        | some z =>
          refine x_T rfl ?_
          repeat walk_at "s2"
          refine x_stu T1' (tn z e) (o := some j) rfl fun H2 T2' f2 => ?_
          have := go H2 (by rw [e] at T2' ⊢; exact T2') f2
          rw [e] at this; exact this
      · rintro σ' H' ⟨S', t', x6, rfl, J, T', hp', f'⟩
        rw [List.length_map, Nat.sub_self] at J
        have et : t' = mrg ws T1 T2 := J.eq
        have Jd := J.done
        have tn : ∀ z, t'.top = some z → z < ws.length := fun z e => topn J z (List.mem_append_right _ (Tr.top_mem e))
        have fin : ∀ H2, TreesAt A H2 B ws { S' with U := oset S'.U t'.top none } → Fr B.own H' H2 → (tRet (tTup (tCons (tVar 5) (tCons (tCB (oLen K) (tCons (tVar 3) tNil)) tNil)))) { nx := fun _ H' => Q .non H', rt := Q } [some (.ref B.t), some (oV t.top), some (oV u.top), some (.ref pl), x4, some (oV t'.top), x6] H2 := by
          intro H2 T2' f2
          repeat walk_at "s1"
          refine x_lenL (sl_of (f2 _ _ hp' npl)) ?_
          repeat walk_at "s1"
          refine ⟨sz_le (by simp), fun p hp => ?_⟩
          have ff := f'.trans f2
          refine k _ _ p (T2'.new hp) Jd (none_back ff hp T2'.some_own) ?_ (ff.trans (Fr.new hp))
          rw [upd_same, ← et, ← hc, List.length_map]
        repeat walk_at "s1"
        rw [dec_oV]
        cases e : t'.top with
        | none =>
          refine x_F rfl (x_next ?_)
          have := fin H' (by rw [e]; exact T') Fr.refl
          rw [e] at this; exact this
        | some z =>
          refine x_T rfl ?_
          repeat walk_at "s2"
          refine x_stu T' (tn z e) (o := none) rfl fun H2 T2' f2 => ?_
          have := fin H2 (by rw [e]; exact T2') f2
          rw [e] at this; exact this
    repeat walk_at "s1"
    rw [dec_oV]
    cases e : t with
    | nil =>
      refine x_T rfl ?_
      repeat walk_at "se"
      have := loop
      rw [e, mrg_nil] at this; exact this
    | node a la ra =>
      refine x_F rfl ?_
      repeat walk_at "se"
      have eu : u = .nil := by
        rcases hnil with z | z
        · rw [e] at z; cases z
        · exact z
      have := loop
      rw [e, eu, mrg_nil'] at this; rw [eu]; exact this
  repeat walk_at "s1"
  rw [dec_oV]
  cases t with
  | nil =>
    refine x_F rfl (x_F rfl ?_)
    exact rest (.inl rfl)
  | node a la ra =>
    refine x_T rfl ?_
    repeat walk_at "s1"
    rw [dec_oV]
    cases u with
    | nil =>
      refine x_F rfl ?_
      exact rest (.inr rfl)
    | node b lb rb =>
      refine x_T rfl ⟨_, fun _ _ z => z, ?_⟩
      have T' := Tc (c.map fun p => V.int p.1)
      have an : a < ws.length := mem (List.mem_append_left _ mem_i)
      have bn : b < ws.length := mem (List.mem_append_right _ mem_i)
      rw [show oV (Tr.node a la ra).top = V.int (a : Int) from rfl, show oV (Tr.node b lb rb).top = V.int (b : Int) from rfl]
      repeat walk_at "s2"
      refine ⟨B, ws, S, b, a, rfl, rfl, rfl, T', bn, an, ?_⟩
      repeat walk_at "s1"
      refine x_ite (fun l => ?_) (fun l => ?_)
      · have Jn := J.left l
        repeat walk_at "s1"
        refine x_tyL (sl_of upd_same) ?_
        repeat walk_at "s1"
        refine x_append upd_same (by rw [List.length_map]; exact clen J) ?_
        rw [upd_upd]
        have T2 := Tc (c.map (fun p => V.int p.1) ++ [V.int (b : Int)])
        repeat walk_at "s2"
        refine ⟨_, ?_, c ++ [(b, lb)], rb, .node a la ra, some (.int a), ?_, Jn, ?_, rfl⟩
        · simp only [Tr.size]; omega
        · have e : S.R b = rb.top := J.su.2.1
          rw [e]; rfl
        · rw [List.map_append]; rfl
      · have Jn := J.right l
        repeat walk_at "s1"
        refine x_tyL (sl_of upd_same) ?_
        repeat walk_at "s1"
        refine x_append upd_same (by rw [List.length_map]; exact clen J) ?_
        rw [upd_upd]
        have T2 := Tc (c.map (fun p => V.int p.1) ++ [V.int (a : Int)])
        repeat walk_at "s2"
        refine ⟨_, ?_, c ++ [(a, la)], ra, .node b lb rb, x4, ?_, Jn, ?_, rfl⟩
        · simp only [Tr.size]; omega
        · have e : S.R a = ra.top := J.st.2.1
          rw [e]; rfl
        · rw [List.map_append]; rfl
end
end G

namespace G
open PySem PySem.Spec PyProof.Rows L2
section
variable {K : PySem.W.Frag} {A : Ad} {H : Hp} {Q : VK} {E : XK} {v0 v1 v2 v3 : V}
theorem fill_mem {c : List Frm} {s : Tr} {j : Nat} (h : j ∈ s.nodes) : j ∈ (fill c s).nodes := (fill_perm.mem_iff).2 (List.mem_append_left _ h)
theorem pure_T_top_of (ok : Ok K A) (h : sp_T_top_of K A [v0, v1] H Q E) : t_T_top_of K A E { nx := fun _ H' => Q .non H', rt := Q } [some v0, some v1] H := by
  obtain ⟨B, ws, S, i, t, rfl, rfl, T, sh, up, hi, lt, k⟩ := h
  unfold t_T_top_of
  obtain ⟨c0, s0, e0⟩ := locate_mem hi
  obtain ⟨e1, e2⟩ := locate_some e0
  repeat walk_at "s1"
  refine x_while (fun m σ' H' => ∃ c s j, fill c s = t ∧ s.top = some j ∧ σ' = [some (.ref B.t), some (.int j)] ∧ H' = H ∧ m = c.length) _ ⟨c0, s0, i, e1, e2, rfl, rfl, rfl⟩ ?_
  rintro m σ' H' ⟨c, s, j, rfl, ej, rfl, rfl, rfl⟩
  have jn : j < ws.length := lt j (fill_mem (Tr.top_mem ej))
  repeat walk_at "s2"
  rw [dec_oV]
  cases c with
  | nil =>
    have e : S.U j = none := up j ej
    rw [e]
    refine x_F rfl ?_
    repeat walk_at "s1"
    exact k j ej
  | cons f c =>
    have e : S.U j = some f.1 := (put1_shape (fill_shape (c := c) sh)).2.2.1 j ej
    rw [e]
    refine x_T rfl ⟨_, fun _ _ z => z, ?_⟩
    repeat walk_at "s2"
    refine ⟨c.length, by simp, c, put1 f s, f.1, rfl, put1_top, ?_, rfl, rfl⟩
    rw [e]; rfl
theorem pure_T_released (ok : Ok K A) (h : sp_T_released K A [v0, v1] H Q E) : t_T_released K A E { nx := fun _ H' => Q .non H', rt := Q } [some v0, some v1, none, none, none, none] H := by
  obtain ⟨B, ws, S, i, f, c, s, rfl, rfl, T, hi, sh, ru, up, nd, lt, k⟩ := h
  have pm := fill_perm (c := f :: c) (s := s)
  have inn : i < ws.length := lt i (fill_mem (c := f :: c) (Tr.top_mem hi))
  have kn : ∀ j ∈ knodes (f :: c), j < ws.length := fun j m => lt j ((pm.mem_iff).2 (List.mem_append_right _ m))
  have fn : f.1 < ws.length := kn _ (List.mem_append_left _ List.mem_cons_self)
  obtain ⟨p1, p2, p3, p4, p5⟩ := put1_shape (fill_shape (c := c) (s := put1 f s) sh)
  have eu : S.U i = some f.1 := p3 i hi
  obtain ⟨R0, q1, q2, q3, q4⟩ := cut_ok hi sh ru up nd
  unfold t_T_released
  repeat walk_at "s2"
  rw [eu, show oV (some f.1) = V.int (f.1 : Int) from rfl]
  repeat walk_at "s2"
  refine x_stu T inn (o := none) rfl fun H1 T1 f1 => ?_
  -- from the loop on
  have loop : ∀ H2, TreesAt A H2 B ws (S.cut f i) → Fr B.own H H2 → (tSeq (tAsg (tC (.int 0)) (gName 3))
    (tSeq (tAsg (tC (.bl true)) (gName 4))
    (tSeq (tWhile (tAnd (tTest (tOp oNotN (tVar 2) (tC .non))) (tB (tVar 4))) (tSeq (tAsg (tOp (rIxL K) (tFld K (tVar 0) "runs") (tVar 2)) (gName 5))
    (tSeq (tDrop (tMeth A.CT "sided" (sp_T_sided K A) [] E0 (tVar 0) (tCons (tVar 2) tNil)))
    (tSeq (tAsg (tOp oAdd (tVar 3) (tC (.int 1))) (gName 3))
    (tSeq (tAsg (tOp rNe (tOp (rIxL K) (tFld K (tVar 0) "runs") (tVar 2)) (tVar 5)) (gName 4))
    (tAsg (tOp (rIxL K) (tFld K (tVar 0) "uppers") (tVar 2)) (gName 2)))))))
    (tRet (tVar 3))))) { nx := fun _ H' => Q .non H', rt := Q } [some (.ref B.t), some (.int i), some (.int f.1), none, none, none] H2 := by
    intro H2 T2 f2
    repeat walk_at "s1"
    -- the end
    have fin : ∀ {S' : CS} {H' : Hp}, TreesAt A H' B ws S' → Fr B.own H H' → Out (S.cut f i) S' (knodes (f :: c)) → S'.U = (S.cut f i).U → Shape S' (rise (f :: c) s.run .nil).1 → Runs S' (rise (f :: c) s.run .nil).1 → Upp S' (rise (f :: c) s.run .nil).1 none → Q (.int (rise (f :: c) s.run .nil).2) H' := fun {S' H'} T' f' o u a b d => by
      have sk : ∀ j ∈ s.nodes, j ∉ knodes (f :: c) := fun j m m' => (List.nodup_append.1 (pm.nodup_iff.1 nd)).2.2 j m j m' rfl
      refine k H' S' T' a b d (shape_fr (fun j m => o.l j (sk j m)) (fun j m => o.r j (sk j m)) (fun j _ => by rw [u]) q1) (runs_fr (fun j m => o.n j (sk j m)) q2) (fun j e => by rw [u]; exact q3 j e) (q4.trans (o.mono fun j m => (pm.mem_iff).2 (List.mem_append_right _ m))) f'
    refine x_while (fun m σ' H' => ∃ S' o n g x5, σ' = [some (.ref B.t), some (.int i), some (oV o), some (.int (n : Nat)), some (.bl g), x5] ∧ TreesAt A H' B ws S' ∧ Fr B.own H H' ∧
      ((g = true ∧ ∃ cs old s', o = cs.head?.map (·.1) ∧ Rise (S.cut f i) S' (knodes (f :: c)) cs old s' ∧ (rise cs old s').1 = (rise (f :: c) s.run .nil).1 ∧ n + (rise cs old s').2 = (rise (f :: c) s.run .nil).2 ∧ m = cs.length + 1) ∨
      (g = false ∧ Out (S.cut f i) S' (knodes (f :: c)) ∧ S'.U = (S.cut f i).U ∧ Shape S' (rise (f :: c) s.run .nil).1 ∧ Runs S' (rise (f :: c) s.run .nil).1 ∧ Upp S' (rise (f :: c) s.run .nil).1 none ∧ n = (rise (f :: c) s.run .nil).2 ∧ m = 0)))
      _ ⟨S.cut f i, some f.1, 0, true, none, rfl, T2, f2, .inl ⟨rfl, f :: c, s.run, .nil, rfl, R0, rfl, Nat.zero_add _, rfl⟩⟩ ?_
    rintro m σ' H' ⟨S', o, n, g, x5, rfl, T', f', w⟩
    repeat walk_at "s1"
    rw [dec_oV]
    rcases w with ⟨rfl, cs, old, s', rfl, RR, r1, r2, rfl⟩ | ⟨rfl, w1, w2, w3, w4, w5, rfl, rfl⟩
    · cases cs with
      | nil =>
        refine x_F rfl (x_F rfl ?_)
        repeat walk_at "s1"
        have e1 : s' = (rise (f :: c) s.run .nil).1 := r1
        have e2 : n = (rise (f :: c) s.run .nil).2 := r2
        rw [e2]
        exact fin T' f' RR.out RR.u (by rw [← e1]; exact RR.sh) (by rw [← e1]; exact RR.ru) (by rw [← e1]; exact RR.up)
      | cons g cs =>
        have gn : g.1 < ws.length := kn _ (RR.sub _ (List.mem_append_left _ List.mem_cons_self))
        have gb : ∀ z ∈ g.2.2.nodes, z < ws.length := fun z m => kn _ (RR.sub _ (List.mem_append_left _ (List.mem_cons_of_mem _ m)))
        obtain ⟨R1, eN, eN'⟩ := RR.step
        obtain ⟨g1, g2, g3, g4, g5⟩ := put1_shape (fill_shape (c := cs) (s := put1 g s') RR.sh)
        have sn : ∀ z ∈ s'.nodes, z < ws.length := fun z m => kn _ (RR.all z m)
        refine x_T rfl ?_
        repeat walk_at "s1"
        refine x_T rfl ⟨_, fun _ _ z => z, ?_⟩
        rw [show oV (Option.map (fun x => x.1) (List.head? (g :: cs))) = V.int (g.1 : Int) from rfl]
        repeat walk_at "s2"
        refine ⟨B, ws, S', g.1, rfl, rfl, T', gn, ?_, ?_, fun H3 T3 f3 => ?_⟩
        · intro z e
          split at g5
          · exact sn z (Tr.top_mem (g5.1.symm.trans e))
          · exact gb z (Tr.top_mem (g5.1.symm.trans e))
        · intro z e
          split at g5
          · exact gb z (Tr.top_mem (g5.2.symm.trans e))
          · exact sn z (Tr.top_mem (g5.2.symm.trans e))
        repeat walk_at "s2"
        rw [eN, eN']
        -- the one right above
        have eU : (S'.sided g.1).U g.1 = cs.head?.map (·.1) := by
          cases cs with
          | nil => exact R1.up g.1 (by show (side1 g s').top = _; exact side1_top)
          | cons h ds => exact (put1_shape (fill_shape (c := ds) (s := put1 h (side1 g s')) R1.sh)).2.2.1 g.1 side1_top
        rw [eU]
        have un : rise (g :: cs) old s' = if (side1 g s').run ≠ oldRun g old then ((rise cs (oldRun g old) (side1 g s')).1, (rise cs (oldRun g old) (side1 g s')).2 + 1) else (fill cs (side1 g s'), 1) := by rw [rise]
        by_cases ch : (side1 g s').run = oldRun g old
        · rw [un, if_neg (by simp [ch])] at r1 r2
          refine ⟨0, by simp, S'.sided g.1, cs.head?.map (·.1), n + 1, false, some (.int (oldRun g old)), ?_, T3, f'.trans f3, .inr ⟨rfl, R1.out, R1.u, ?_, ?_, ?_, r2, rfl⟩⟩
          · rw [decide_eq_true (by rw [ch])]; rfl
          · rw [← r1]; exact R1.sh
          · rw [← r1]; exact fill_runs_mk R1.ru (by rw [ch]; exact R1.cr)
          · rw [← r1]; exact R1.up
        · rw [un, if_pos ch] at r1 r2
          refine ⟨cs.length + 1, by simp, S'.sided g.1, cs.head?.map (·.1), n + 1, true, some (.int (oldRun g old)), ?_, T3, f'.trans f3, .inl ⟨rfl, cs, oldRun g old, side1 g s', rfl, R1, r1, by omega, rfl⟩⟩
          rw [decide_eq_false (by omega)]; rfl
    · cases ho : o with
      | none =>
        refine x_F rfl (x_F rfl ?_)
        repeat walk_at "s1"
        exact fin T' f' w1 w2 w3 w4 w5
      | some z =>
        refine x_T rfl ?_
        repeat walk_at "s1"
        refine x_F rfl ?_
        repeat walk_at "s1"
        exact fin T' f' w1 w2 w3 w4 w5
  repeat walk_at "s2"
  refine x_eq scal_oV ?_
  repeat walk_at "s1"
  by_cases hb : f.2.1 = true
  · rw [if_pos hb] at p5
    have el : S.L f.1 = some i := p5.1.trans hi
    have ec : S.cut f i = { S with U := fset S.U i none, L := fset S.L f.1 none } := if_pos hb
    refine x_T (decide_eq_true (by show oV (S.L f.1) = V.int i; rw [el]; rfl)) ?_
    repeat walk_at "s2"
    refine x_stl T1 fn (o := none) rfl fun H2 T2 f2 => ?_
    exact loop H2 (by rw [ec]; exact T2) (f1.trans f2)
  · rw [if_neg hb] at p5
    have ec : S.cut f i = { S with U := fset S.U i none, R := fset S.R f.1 none } := if_neg hb
    refine x_F (decide_eq_false ?_) ?_
    · intro z
      have el : S.L f.1 = some i := oV_eq.1 z
      have m1 : i ∈ f.2.2.nodes := Tr.top_mem (p5.1.symm.trans el)
      exact (List.nodup_append.1 (pm.nodup_iff.1 nd)).2.2 i (Tr.top_mem hi) i (List.mem_append_left _ (List.mem_cons_of_mem _ m1)) rfl
    repeat walk_at "s2"
    refine x_str T1 fn (o := none) rfl fun H2 T2 f2 => ?_
    exact loop H2 (by rw [ec]; exact T2) (f1.trans f2)
end
end G

namespace G
open PySem PySem.Spec PyProof.Rows L2
section
variable {K : PySem.W.Frag} {A : Ad} {H : Hp} {Q : VK} {E : XK} {v0 v1 v2 v3 : V}
theorem rows_len {ws : List Int} : ∀ t : Tr, (rowsOf ws t).length = t.size
  | .nil => rfl
  | .node i l r => by
    show (rowsOf ws l ++ rowsOf ws r).length + 1 = 1 + l.size + r.size
    rw [List.length_append, rows_len l, rows_len r]; omega
def msum (ts : List Tr) : Nat := (ts.map fun t => 2 * t.size + 1).sum
theorem msum_len : ∀ ts : List Tr, ts.length ≤ msum ts
  | [] => Nat.le_refl _
  | t :: ts => by
    have := msum_len ts
    show ts.length + 1 ≤ (2 * t.size + 1) + msum ts
    omega
theorem rowsAt_more {H : Hp} {l p : Addr} {rows : List Row} {ps : List Addr} {x : Row} {M : Addr → Prop} {H' : Hp} (h : RowsAt H l rows ps) (hp : H' p = some (.tup (rowV x))) (hl : H' l = some (.lst ((ps ++ [p]).map V.ref))) (f : Fr M H H') (hm : ∀ a, M a → ∃ xs, H a = some (.lst xs)) : RowsAt H' l (rows ++ [x]) (ps ++ [p]) := by
  refine ⟨hl, by simp [h.len], fun k q y hk hy => ?_⟩
  by_cases hlt : k < ps.length
  · rw [List.getElem?_append_left hlt] at hk
    rw [List.getElem?_append_left (by rw [← h.len]; exact hlt)] at hy
    have e := h.at_ k q y hk hy
    exact f _ _ e fun m => by
      obtain ⟨xs, z⟩ := hm q m
      rw [e] at z; cases z
  · have : k = ps.length := by
      have := (List.getElem?_eq_some_iff.1 hk).1
      simp at this; omega
    subst this
    rw [List.getElem?_concat_length] at hk
    rw [h.len, List.getElem?_concat_length] at hy
    cases hk; cases hy
    exact hp
theorem rowsAt_fr {H : Hp} {l : Addr} {rows : List Row} {ps : List Addr} {M : Addr → Prop} {H' : Hp} (h : RowsAt H l rows ps) (f : Fr M H H') (hm : ∀ a, M a → ∃ xs, H a = some (.lst xs)) (hl : ¬ M l) : RowsAt H' l rows ps :=
  ⟨f _ _ h.lst hl, h.len, fun k q y hk hy => f _ _ (h.at_ k q y hk hy) fun m => by
    obtain ⟨xs, z⟩ := hm q m
    rw [h.at_ k q y hk hy] at z; cases z⟩
theorem pure_T_told (ok : Ok K A) (h : sp_T_told K A [v0, v1] H Q E) : t_T_told K A E { nx := fun _ H' => Q .non H', rt := Q } [some v0, some v1, none, none, none, none, none] H := by
  obtain ⟨B, ws, S, T0, rfl, rfl, T, sh, ru, lt, hz, k⟩ := h
  unfold t_T_told
  repeat walk_at "s1"
  refine ⟨Nat.zero_le _, fun rl hrl => ?_⟩
  repeat walk_at "s1"
  refine ⟨sz_le (by simp), fun wl hwl => ?_⟩
  have nrw : rl ≠ wl := ne_of_none upd_same hwl
  have hwl0 : H wl = none := by rw [upd_ne nrw.symm] at hwl; exact hwl
  have fr0 : Fr M0 H (upd (upd H rl (.lst [])) wl (.lst [oV T0.top])) := (Fr.new hrl).mut hwl0
  have TT : ∀ {H'}, Fr M0 H H' → TreesAt A H' B ws S := fun f => T.fr f (fun _ _ z => z) (fun z => z)
  repeat walk_at "s1"
  refine x_while (fun m σ' H' => ∃ ts done ps x4 x5 x6, σ' = [some (.ref B.t), some (oV T0.top), some (.ref rl), some (.ref wl), x4, x5, x6] ∧ rowsOf ws T0 = done ++ ts.flatMap (rowsOf ws) ∧ RowsAt H' rl done ps ∧ (∀ p ∈ ps, H p = none) ∧
    H' wl = some (.lst (ts.reverse.map fun t => oV t.top)) ∧ (∀ t ∈ ts, Shape S t ∧ Runs S t ∧ ∀ j ∈ t.nodes, j < ws.length) ∧ Fr M0 H H' ∧ m = msum ts ∧ m ≤ 80001)
    (msum [T0]) ⟨[T0], [], [], none, none, none, rfl, by simp, ⟨by rw [upd_ne nrw, upd_same]; rfl, rfl, fun k p x h _ => by simp at h⟩, fun p h => by simp at h, upd_same, fun t h => by simp at h; subst h; exact ⟨sh, ru, lt⟩, fr0, rfl, by show 2 * T0.size + 1 + 0 ≤ 80001; omega⟩ ?_
  rintro m σ' H' ⟨ts, done, ps, x4, x5, x6, rfl, er, ra, hps, hw, hts, fr, rfl, hm⟩
  have T' := TT fr
  repeat walk_at "s1"
  refine x_lenL (sl_of hw) ?_
  repeat walk_at "s1"
  cases ts with
  | nil =>
    refine x_F (by simp) ?_
    repeat walk_at "s1"
    have e : rowsOf ws T0 = done := by rw [er]; simp
    exact k H' rl ps hrl (by rw [e]; exact ra) hps fr
  | cons t ts =>
    refine x_T (by simp) ⟨_, fun _ _ z => z, ?_⟩
    obtain ⟨s1, s2, s3⟩ := hts t List.mem_cons_self
    have ew : (t :: ts).reverse.map (fun t => oV t.top) = ts.reverse.map (fun t => oV t.top) ++ [oV t.top] := by rw [List.reverse_cons, List.map_append]; rfl
    rw [ew] at hw
    repeat walk_at "s1"
    refine x_tyL (sl_of hw) ?_
    refine x_pop hw (v := oV t.top) ?_ ?_
    · rw [List.length_append, List.length_singleton, Nat.add_sub_cancel, List.getElem?_concat_length]
    rw [List.dropLast_concat]
    have fr1 : Fr M0 H (upd H' wl (.lst (ts.reverse.map fun t => oV t.top))) := fr.mut hwl0
    have ff : Fr (fun a => a = wl) H' (upd H' wl (.lst (ts.reverse.map fun t => oV t.top))) := Fr.at rfl
    have ra1 : RowsAt (upd H' wl (.lst (ts.reverse.map fun t => oV t.top))) rl done ps := rowsAt_fr ra ff (fun a e => by subst e; exact ⟨_, hw⟩) nrw
    have hm' : msum (t :: ts) = 2 * t.size + 1 + msum ts := rfl
    repeat walk_at "s1"
    rw [dec_oV]
    cases t with
    | nil =>
      refine x_F rfl ?_
      repeat walk_at "s1"
      refine ⟨msum ts, by omega, ts, done, ps, some .non, x5, x6, rfl, ?_, ra1, hps, upd_same, fun t h => hts t (List.mem_cons_of_mem _ h), fr1, rfl, by omega⟩
      rw [er]; rfl
    | node i l r =>
      have inn : i < ws.length := s3 i mem_i
      generalize hH1 : upd H' wl (.lst (ts.reverse.map fun t => oV t.top)) = H1 at fr1 ff ra1 ⊢
      have hw1 : H1 wl = some (.lst (ts.reverse.map fun t => oV t.top)) := by rw [← hH1]; exact upd_same
      have T1 := TT fr1
      have eL : S.L i = l.top := s1.1
      have eR : S.R i = r.top := s1.2.1
      have eN : S.N i = (Tr.node i l r).run := s2.1
      refine x_T rfl ?_
      rw [show oV (Tr.node i l r).top = V.int (i : Int) from rfl]
      repeat walk_at "s2"
      refine x_tyL (sl_of ra1.lst) ?_
      repeat walk_at "s2"
      refine ⟨sz_le (by simp), fun p hp => ?_⟩
      have npr : rl ≠ p := ne_of_none ra1.lst hp
      have npw : wl ≠ p := ne_of_none hw1 hp
      have hp0 := Fr.free fr1 hp
      have dl : done.length ≤ T0.size := by
        have := congrArg List.length er
        rw [rows_len, List.length_append] at this; omega
      repeat walk_at "s2"
      refine x_append (by rw [upd_ne npr]; exact ra1.lst) (by rw [List.length_map, ra1.len]; omega) ?_
      generalize hH2 : upd (upd H1 p (.tup [V.int i, .int (wt ws i), oV (S.L i), oV (S.R i), .int (S.N i)])) rl (.lst (ps.map V.ref ++ [.ref p])) = H2
      have fr2 : Fr M0 H H2 := by rw [← hH2]; exact (fr1.trans (Fr.new hp)).mut hrl
      have f12 : Fr (fun a => a = rl) H1 H2 := by rw [← hH2]; exact (Fr.new hp).trans (Fr.at rfl)
      have ra2 : RowsAt H2 rl (done ++ [⟨i, wt ws i, l.top, r.top, (Tr.node i l r).run⟩]) (ps ++ [p]) := by
        refine rowsAt_more ra1 ?_ ?_ f12 fun a e => by subst e; exact ⟨_, ra1.lst⟩
        · rw [← hH2, upd_ne npr.symm, upd_same, eL, eR, eN]; rfl
        · rw [← hH2, upd_same, List.map_append]; rfl
      have hw2 : H2 wl = some (.lst (ts.reverse.map fun t => oV t.top)) := f12 _ _ hw1 nrw.symm
      have sl : ts.length < 90000 := by have := msum_len ts; omega
      repeat walk_at "s2"
      refine x_tyL (sl_of hw2) ?_
      repeat walk_at "s2"
      refine x_append hw2 (by simp; omega) ?_
      repeat walk_at "s2"
      refine x_tyL (sl_of upd_same) ?_
      repeat walk_at "s2"
      refine x_append upd_same (by simp; omega) ?_
      rw [upd_upd]
      have f23 : Fr (fun a => a = wl) H2 (upd H2 wl (.lst (ts.reverse.map (fun t => oV t.top) ++ [oV (S.R i)] ++ [oV (S.L i)]))) := Fr.at rfl
      refine ⟨msum (l :: r :: ts), ?_, l :: r :: ts, done ++ [⟨i, wt ws i, l.top, r.top, (Tr.node i l r).run⟩], ps ++ [p], some (.int i), some (oV (S.L i)), some (oV (S.R i)), rfl, ?_, rowsAt_fr ra2 f23 (fun a e => by subst e; exact ⟨_, hw2⟩) nrw, ?_, ?_, ?_, fr2.mut hwl0, rfl, ?_⟩
      · show 2 * l.size + 1 + (2 * r.size + 1 + msum ts) < 2 * (1 + l.size + r.size) + 1 + msum ts; omega
      · rw [er]
        show done ++ ((⟨i, wt ws i, l.top, r.top, (Tr.node i l r).run⟩ :: (rowsOf ws l ++ rowsOf ws r)) ++ ts.flatMap (rowsOf ws)) = (done ++ [_]) ++ (rowsOf ws l ++ (rowsOf ws r ++ ts.flatMap (rowsOf ws)))
        simp
      · intro q hq
        rcases List.mem_append.1 hq with m | m
        · exact hps q m
        · rw [List.mem_singleton.1 m]; exact hp0
      · rw [upd_same, eL, eR]; simp
      · intro t ht
        rcases List.mem_cons.1 ht with e | ht
        · subst e; exact ⟨s1.2.2.2.2.1, s2.2.1, fun j m => s3 j (mem_l m)⟩
        rcases List.mem_cons.1 ht with e | ht
        · subst e; exact ⟨s1.2.2.2.2.2, s2.2.2, fun j m => s3 j (mem_r m)⟩
        · exact hts t (List.mem_cons_of_mem _ ht)
      · have : msum (l :: r :: ts) = 2 * l.size + 1 + (2 * r.size + 1 + msum ts) := rfl
        have h2 : (Tr.node i l r).size = 1 + l.size + r.size := rfl
        omega
end
end G

namespace G
open PySem PySem.Spec PyProof.Rows L2
/-! ### a Field's cells -/
section
variable {K : PySem.W.Frag} {A : Ad} {H H' : Hp} {Q : VK} {E : XK} {v0 v1 v2 v3 : V} {F : FdA} {ws : List Int} {S : CS} {tops : List (Option Nat)} {sizes : List Nat} {homes : List (Key × V)} {gl : List V} {sp : Nat} {M : Addr → Prop}
theorem Raw.own_some (R : Raw A H F ws S tops sizes homes gl sp) : ∀ a, F.own a → H a ≠ none := fun a h => by
  rcases h with e | e | e | e | e | e
  · subst e; rw [R.ob]; simp
  · exact R.tr.some_own a e
  · subst e; rw [R.tops]; simp
  · subst e; rw [R.sizes]; simp
  · subst e; rw [R.homes]; simp
  · subst e; rw [R.gone]; simp
theorem Raw.t_f (R : Raw A H F ws S tops sizes homes gl sp) : F.B.t ≠ F.f := ne_of R.tr.ob R.ob fun e => by
  injection e with _ _ e3
  have := congrArg List.length e3
  exact absurd (show (5 : Nat) = 6 from this) (by decide)
theorem Raw.t_own (R : Raw A H F ws S tops sizes homes gl sp) : ¬ F.own F.B.t := fun h => by
  rcases h with e | e | e | e | e | e
  · exact R.t_f e
  · exact R.tr.t_own e
  · exact ne_of R.tr.ob R.tops (by intro z; cases z) e
  · exact ne_of R.tr.ob R.sizes (by intro z; cases z) e
  · exact ne_of R.tr.ob R.homes (by intro z; cases z) e
  · exact ne_of R.tr.ob R.gone (by intro z; cases z) e
theorem Raw.fr (R : Raw A H F ws S tops sizes homes gl sp) (f : Fr M H H') (h : ∀ a, F.own a → ¬ M a) (ht : ¬ M F.B.t) : Raw A H' F ws S tops sizes homes gl sp :=
  ⟨f _ _ R.ob (h _ (.inl rfl)), R.tr.fr f (fun a m => h a (.inr (.inl m))) ht, f _ _ R.tops (h _ (.inr (.inr (.inl rfl)))), f _ _ R.sizes (h _ (.inr (.inr (.inr (.inl rfl))))), f _ _ R.homes (h _ (.inr (.inr (.inr (.inr (.inl rfl)))))), f _ _ R.gone (h _ (.inr (.inr (.inr (.inr (.inr rfl)))))), R.nd, R.nb⟩
theorem Raw.new {p : Addr} {o : HO} (R : Raw A H F ws S tops sizes homes gl sp) (hp : H p = none) : Raw A (upd H p o) F ws S tops sizes homes gl sp := R.fr (M := M0) (Fr.new hp) (fun _ _ z => z) (fun z => z)
theorem Raw.b_f (R : Raw A H F ws S tops sizes homes gl sp) : ¬ F.B.own F.f := fun m => by
  obtain ⟨xs, z⟩ := R.tr.own_lst m
  rw [R.ob] at z; cases z
theorem Raw.b_h (R : Raw A H F ws S tops sizes homes gl sp) : ¬ F.B.own F.lh := fun m => by
  obtain ⟨xs, z⟩ := R.tr.own_lst m
  rw [R.homes] at z; cases z
/-- the trees have changed -/
theorem Raw.trees {ws' : List Int} {S' : CS} (R : Raw A H F ws S tops sizes homes gl sp) (T : TreesAt A H' F.B ws' S') (f : Fr F.B.own H H') : Raw A H' F ws' S' tops sizes homes gl sp :=
  ⟨f _ _ R.ob R.b_f, T, f _ _ R.tops R.nb.1, f _ _ R.sizes R.nb.2.1, f _ _ R.homes R.b_h, f _ _ R.gone R.nb.2.2, R.nd, R.nb⟩
theorem Fr.bown {f : Fr F.B.own H H'} : Fr F.own H H' := f.mono fun _ m => .inr (.inl m)
theorem nd3 {a b c : Addr} (h : [a, b, c].Nodup) : (a ≠ b ∧ a ≠ c) ∧ b ≠ c := by
  simp only [List.nodup_cons, List.mem_cons, List.not_mem_nil, or_false, not_or] at h
  exact ⟨⟨h.1.1, h.1.2⟩, h.2.1⟩
theorem Raw.tops' {t' : List (Option Nat)} (R : Raw A H F ws S tops sizes homes gl sp) : Raw A (upd H F.lt (.lst (t'.map oV))) F ws S t' sizes homes gl sp := by
  obtain ⟨⟨h1, h2⟩, h3⟩ := nd3 R.nd
  refine ⟨by rw [upd_ne (ne_of R.ob R.tops (by intro z; cases z))]; exact R.ob, R.tr.fr (M := fun a => a = F.lt) (Fr.at rfl) (fun a m e => R.nb.1 (by rw [← e]; exact m)) (ne_of R.tr.ob R.tops (by intro z; cases z)), upd_same, by rw [upd_ne h1.symm]; exact R.sizes, by rw [upd_ne (ne_of R.homes R.tops (by intro z; cases z))]; exact R.homes, by rw [upd_ne h2.symm]; exact R.gone, R.nd, R.nb⟩
theorem Raw.sizes' {z' : List Nat} (R : Raw A H F ws S tops sizes homes gl sp) : Raw A (upd H F.ls (.lst (z'.map nV))) F ws S tops z' homes gl sp := by
  obtain ⟨⟨h1, h2⟩, h3⟩ := nd3 R.nd
  refine ⟨by rw [upd_ne (ne_of R.ob R.sizes (by intro z; cases z))]; exact R.ob, R.tr.fr (M := fun a => a = F.ls) (Fr.at rfl) (fun a m e => R.nb.2.1 (by rw [← e]; exact m)) (ne_of R.tr.ob R.sizes (by intro z; cases z)), by rw [upd_ne h1]; exact R.tops, upd_same, by rw [upd_ne (ne_of R.homes R.sizes (by intro z; cases z))]; exact R.homes, by rw [upd_ne h3.symm]; exact R.gone, R.nd, R.nb⟩
theorem Raw.gone' {g' : List V} (R : Raw A H F ws S tops sizes homes gl sp) : Raw A (upd H F.lg (.lst g')) F ws S tops sizes homes g' sp := by
  obtain ⟨⟨h1, h2⟩, h3⟩ := nd3 R.nd
  refine ⟨by rw [upd_ne (ne_of R.ob R.gone (by intro z; cases z))]; exact R.ob, R.tr.fr (M := fun a => a = F.lg) (Fr.at rfl) (fun a m e => R.nb.2.2 (by rw [← e]; exact m)) (ne_of R.tr.ob R.gone (by intro z; cases z)), by rw [upd_ne h2]; exact R.tops, by rw [upd_ne h3]; exact R.sizes, by rw [upd_ne (ne_of R.homes R.gone (by intro z; cases z))]; exact R.homes, upd_same, R.nd, R.nb⟩
theorem Raw.homes' {k' : List (Key × V)} (R : Raw A H F ws S tops sizes homes gl sp) : Raw A (upd H F.lh (.dK k')) F ws S tops sizes k' gl sp := by
  refine ⟨by rw [upd_ne (ne_of R.ob R.homes (by intro z; cases z))]; exact R.ob, R.tr.fr (M := fun a => a = F.lh) (Fr.at rfl) (fun a m e => R.b_h (by rw [← e]; exact m)) (ne_of R.tr.ob R.homes (by intro z; cases z)), by rw [upd_ne (ne_of R.tops R.homes (by intro z; cases z))]; exact R.tops, by rw [upd_ne (ne_of R.sizes R.homes (by intro z; cases z))]; exact R.sizes, upd_same, by rw [upd_ne (ne_of R.gone R.homes (by intro z; cases z))]; exact R.gone, R.nd, R.nb⟩
theorem put_spent {m n : Nat} : putF "spent" (.int m) (fF F n) = fF F m := by
  unfold fF
  rw [put_past (by decide +kernel), put_past (by decide +kernel), put_past (by decide +kernel), put_past (by decide +kernel), put_past (by decide +kernel), put_here]
theorem Raw.spent' {n : Nat} (R : Raw A H F ws S tops sizes homes gl sp) : Raw A (upd H F.f (.ins A.CF F.df (fF F n))) F ws S tops sizes homes gl n := by
  refine ⟨upd_same, R.tr.fr (M := fun a => a = F.f) (Fr.at rfl) (fun a m e => R.b_f (by rw [← e]; exact m)) R.t_f, by rw [upd_ne (ne_of R.tops R.ob (by intro z; cases z))]; exact R.tops, by rw [upd_ne (ne_of R.sizes R.ob (by intro z; cases z))]; exact R.sizes, by rw [upd_ne (ne_of R.homes R.ob (by intro z; cases z))]; exact R.homes, by rw [upd_ne (ne_of R.gone R.ob (by intro z; cases z))]; exact R.gone, R.nd, R.nb⟩
theorem own_lt : F.own F.lt := .inr (.inr (.inl rfl))
theorem own_ls : F.own F.ls := .inr (.inr (.inr (.inl rfl)))
theorem own_lh : F.own F.lh := .inr (.inr (.inr (.inr (.inl rfl))))
theorem own_lg : F.own F.lg := .inr (.inr (.inr (.inr (.inr rfl))))
theorem own_f : F.own F.f := .inl rfl
/-! attributes read -/
theorem lk_trees {z : Nat} : (fF F z).lookup ("trees" : Str) = some (V.ref F.B.t) := lk_here
theorem lk_tops {z : Nat} : (fF F z).lookup ("tops" : Str) = some (V.ref F.lt) := (lk_past (by decide +kernel)).trans lk_here
theorem lk_sizes {z : Nat} : (fF F z).lookup ("sizes" : Str) = some (V.ref F.ls) := (lk_past (by decide +kernel)).trans ((lk_past (by decide +kernel)).trans lk_here)
theorem lk_homes {z : Nat} : (fF F z).lookup ("homes" : Str) = some (V.ref F.lh) := (lk_past (by decide +kernel)).trans ((lk_past (by decide +kernel)).trans ((lk_past (by decide +kernel)).trans lk_here))
theorem lk_gone {z : Nat} : (fF F z).lookup ("gone" : Str) = some (V.ref F.lg) := (lk_past (by decide +kernel)).trans ((lk_past (by decide +kernel)).trans ((lk_past (by decide +kernel)).trans ((lk_past (by decide +kernel)).trans lk_here)))
theorem lk_spent {z : Nat} : (fF F z).lookup ("spent" : Str) = some (V.int z) := (lk_past (by decide +kernel)).trans ((lk_past (by decide +kernel)).trans ((lk_past (by decide +kernel)).trans ((lk_past (by decide +kernel)).trans ((lk_past (by decide +kernel)).trans lk_here))))
theorem x_trees (k : Ok K A) (R : Raw A H F ws S tops sizes homes gl sp) (q : Q (.ref F.B.t) H) : kFld K "trees" Q (.ref F.f) H := x_kFld R.ob k.clF k.nTrees lk_trees q
theorem x_tops (k : Ok K A) (R : Raw A H F ws S tops sizes homes gl sp) (q : Q (.ref F.lt) H) : kFld K "tops" Q (.ref F.f) H := x_kFld R.ob k.clF k.nTops lk_tops q
theorem x_sizes (k : Ok K A) (R : Raw A H F ws S tops sizes homes gl sp) (q : Q (.ref F.ls) H) : kFld K "sizes" Q (.ref F.f) H := x_kFld R.ob k.clF k.nSizes lk_sizes q
theorem x_homes (k : Ok K A) (R : Raw A H F ws S tops sizes homes gl sp) (q : Q (.ref F.lh) H) : kFld K "homes" Q (.ref F.f) H := x_kFld R.ob k.clF k.nHomes lk_homes q
theorem x_gone (k : Ok K A) (R : Raw A H F ws S tops sizes homes gl sp) (q : Q (.ref F.lg) H) : kFld K "gone" Q (.ref F.f) H := x_kFld R.ob k.clF k.nGone lk_gone q
theorem x_spent (k : Ok K A) (R : Raw A H F ws S tops sizes homes gl sp) (q : Q (.int sp) H) : kFld K "spent" Q (.ref F.f) H := x_kFld R.ob k.clF k.nSpent lk_spent q
/-! items -/
theorem x_ixt {h : Nat} {o : Option Nat} (R : Raw A H F ws S tops sizes homes gl sp) (e : tops[h]? = some o) (q : Q (oV o) H) : rIxL K (.ref F.lt) (.int h) H Q := x_ixL (sl_of R.tops) rfl (at_map e) q
theorem x_ixs {h z : Nat} (R : Raw A H F ws S tops sizes homes gl sp) (e : sizes[h]? = some z) (q : Q (.int z) H) : rIxL K (.ref F.ls) (.int h) H Q := x_ixL (sl_of R.sizes) rfl (at_map e) q
variable {N : Hp → Prop} {v : V}
theorem x_stt {h : Nat} {o : Option Nat} (R : Raw A H F ws S tops sizes homes gl sp) (hh : h < tops.length) (hv : v = oV o) (q : ∀ H', Raw A H' F ws S (tops.set h o) sizes homes gl sp → Fr F.own H H' → N H') : rSetL (.ref F.lt) (.int h) v H N := by
  subst hv
  refine x_setL R.tops (by rw [List.length_map]; exact ixN_nat hh) (q _ ?_ (Fr.at own_lt))
  rw [← List.map_set]; exact R.tops'
theorem x_sts {h z : Nat} (R : Raw A H F ws S tops sizes homes gl sp) (hh : h < sizes.length) (hv : v = nV z) (q : ∀ H', Raw A H' F ws S tops (sizes.set h z) homes gl sp → Fr F.own H H' → N H') : rSetL (.ref F.ls) (.int h) v H N := by
  subst hv
  refine x_setL R.sizes (by rw [List.length_map]; exact ixN_nat hh) (q _ ?_ (Fr.at own_ls))
  rw [← List.map_set]; exact R.sizes'
theorem x_stg {i : Nat} (R : Raw A H F ws S tops sizes homes gl sp) (hh : i < gl.length) (q : ∀ H', Raw A H' F ws S tops sizes homes (gl.set i v) sp → Fr F.own H H' → N H') : rSetL (.ref F.lg) (.int i) v H N :=
  x_setL R.gone (ixN_nat hh) (q _ R.gone' (Fr.at own_lg))
/-- self.spent = z -/
theorem x_sts' {z : Nat} (k : Ok K A) (R : Raw A H F ws S tops sizes homes gl sp) (hv : v = .int z) (q : ∀ H', Raw A H' F ws S tops sizes homes gl z → Fr F.own H H' → N H') : kSet K "spent" v N (.ref F.f) H := by
  subst hv
  refine x_kset R.ob k.clF k.nSpent (by show 6 < 1000; decide) ?_
  rw [put_spent]
  exact q _ R.spent' (Fr.at own_f)
/-- a method of the Field is met -/
theorem x_fm {m : Str} {s : Sp} {tl : L2.TA} {σ : L2.St} (R : Raw A H F ws S tops sizes homes gl sp) (hm : ((m == ("trees" : Str)) || (m == ("tops" : Str)) || (m == ("sizes" : Str)) || (m == ("homes" : Str)) || (m == ("gone" : Str)) || (m == ("spent" : Str))) = false) (k : tl σ H fun vs H2 => s (.ref F.f :: (vs ++ [])) H2 Q E) :
    ∃ a dx fs, V.ref F.f = .ref a ∧ H a = some (.ins A.CF dx fs) ∧ fs.lookup m = none ∧ tl σ H fun vs H2 => s (.ref F.f :: (vs ++ [])) H2 Q E := by
  simp only [Bool.or_eq_false_iff] at hm
  refine ⟨F.f, F.df, fF F sp, rfl, R.ob, ?_, k⟩
  unfold fF
  rw [lk_past hm.1.1.1.1.1, lk_past hm.1.1.1.1.2, lk_past hm.1.1.1.2, lk_past hm.1.1.2, lk_past hm.1.2, lk_past hm.2]
  rfl
/-- the same where a Field stands -/
theorem x_fmF {fs : FS} {m : Str} {s : Sp} {tl : L2.TA} {σ : L2.St} (R : FieldAt A H F fs) (hm : ((m == ("trees" : Str)) || (m == ("tops" : Str)) || (m == ("sizes" : Str)) || (m == ("homes" : Str)) || (m == ("gone" : Str)) || (m == ("spent" : Str))) = false) (k : tl σ H fun vs H2 => s (.ref F.f :: (vs ++ [])) H2 Q E) :
    ∃ a dx fs, V.ref F.f = .ref a ∧ H a = some (.ins A.CF dx fs) ∧ fs.lookup m = none ∧ tl σ H fun vs H2 => s (.ref F.f :: (vs ++ [])) H2 Q E := by
  obtain ⟨_, _, R, _, _⟩ := R.raw
  exact x_fm R hm k
theorem FieldAt.own_some {fs : FS} (h : FieldAt A H F fs) : ∀ a, F.own a → H a ≠ none := by
  obtain ⟨_, _, R, _, _⟩ := h.raw
  exact R.own_some
theorem FieldAt.t_some {fs : FS} (h : FieldAt A H F fs) : H F.B.t ≠ none := by
  obtain ⟨_, _, R, _, _⟩ := h.raw
  rw [R.tr.ob]; simp
theorem FieldAt.fr {fs : FS} (h : FieldAt A H F fs) (f : Fr M H H') (hm : ∀ a, F.own a → ¬ M a) (ht : ¬ M F.B.t) : FieldAt A H' F fs := by
  obtain ⟨S, homes, R, w, z⟩ := h.raw
  exact ⟨⟨S, homes, R.fr f hm ht, w, z⟩, h.ok⟩
theorem FieldAt.new {fs : FS} {p : Addr} {o : HO} (h : FieldAt A H F fs) (hp : H p = none) : FieldAt A (upd H p o) F fs := h.fr (M := M0) (Fr.new hp) (fun _ _ z => z) (fun z => z)
end
end G

local macro_rules | `(tactic| walk_at "s3") => `(tactic| first
  | walk_at "s2"
  | (with_reducible first
    | (refine G.x_trees (by assumption) (by assumption) ?_)
    | (refine G.x_tops (by assumption) (by assumption) ?_)
    | (refine G.x_sizes (by assumption) (by assumption) ?_)
    | (refine G.x_homes (by assumption) (by assumption) ?_)
    | (refine G.x_gone (by assumption) (by assumption) ?_)
    | (refine G.x_spent (by assumption) (by assumption) ?_)
    | (refine G.x_ixt (by assumption) (by assumption) ?_)
    | (refine G.x_ixs (by assumption) (by assumption) ?_))
  | (refine G.x_fm (by assumption) (by decide +kernel) ?_)
  | (refine G.x_fmF (by assumption) (by decide +kernel) ?_))
namespace G
open PySem PySem.Spec PyProof.Rows L2
section
variable {K : PySem.W.Frag} {A : Ad} {H H' : Hp} {Q : VK} {E : XK} {v0 v1 v2 v3 : V}
theorem FieldAt.lens {F : FdA} {fs : FS} {h : Nat} (hh : h < fs.ts.length) : (fs.ts.map Tr.top)[h]? = some (fs.tree h).top ∧ (fs.ts.map Tr.size)[h]? = some (fs.tree h).size := by
  rw [List.getElem?_map, List.getElem?_map, FS.tree_at hh]; exact ⟨rfl, rfl⟩
/-! ### refusals -/
theorem pure_F_need_heap (ok : Ok K A) (h : sp_F_need_heap K A [v0, v1] H Q E) : t_F_need_heap K A E { nx := fun _ H' => Q .non H', rt := Q } [some v0, some v1] H := by
  obtain ⟨F, fs, h, rfl, rfl, W, kE, kQ⟩ := h
  obtain ⟨S, homes, R, w, hm⟩ := W.raw
  unfold t_F_need_heap
  repeat walk_at "s3"
  refine x_ite (fun c => ?_) (fun c => ?_)
  · repeat walk_at "s3"
    refine x_lenL (sl_of R.tops) ?_
    repeat walk_at "s3"
    rw [List.length_map, List.length_map]
    refine x_iteN (fun d => ?_) (fun d => ?_)
    · exact kE fun z => d z.2
    · repeat walk_at "s3"
      exact kQ c d
  · repeat walk_at "s3"
    refine x_T rfl ?_
    exact kE fun z => c z.1
theorem pure_F_need_thing (ok : Ok K A) (h : sp_F_need_thing K A [v0, v1] H Q E) : t_F_need_thing K A E { nx := fun _ H' => Q .non H', rt := Q } [some v0, some v1] H := by
  obtain ⟨F, fs, i, rfl, rfl, W, kE, kQ⟩ := h
  obtain ⟨S, homes, R, w, hm⟩ := W.raw
  unfold t_F_need_thing
  repeat walk_at "s3"
  refine x_ite (fun c => ?_) (fun c => ?_)
  · repeat walk_at "s3"
    refine x_lenL (sl_of R.gone) ?_
    repeat walk_at "s3"
    rw [tab_len]
    refine x_iteN (fun d => ?_) (fun d => ?_)
    · refine x_T rfl ?_
      exact kE fun z => d z.2.1
    · obtain ⟨j, rfl⟩ : ∃ j : Nat, i = j := ⟨i.toNat, by omega⟩
      have hj : j < fs.ws.length := by omega
      repeat walk_at "s3"
      refine x_ixL (sl_of R.gone) rfl (tab_at hj) ?_
      repeat walk_at "s3"
      refine x_iteb (fun e => ?_) (fun e => ?_)
      · exact kE fun z => by
          have := z.2.2
          rw [Int.toNat_natCast, e] at this; cases this
      · repeat walk_at "s3"
        exact kQ ⟨by omega, d, by rw [Int.toNat_natCast]; exact e⟩
  · repeat walk_at "s3"
    refine x_T rfl ?_
    repeat walk_at "s3"
    refine x_T rfl ?_
    exact kE fun z => c z.1
theorem pure_F_work (ok : Ok K A) (h : sp_F_work K A [v0] H Q E) : t_F_work K A E { nx := fun _ H' => Q .non H', rt := Q } [some v0] H := by
  obtain ⟨F, fs, rfl, W, k⟩ := h
  obtain ⟨S, homes, R, w, hm⟩ := W.raw
  unfold t_F_work
  repeat walk_at "s3"
  exact k
theorem pure_F_things (ok : Ok K A) (h : sp_F_things K A [v0, v1] H Q E) : t_F_things K A E { nx := fun _ H' => Q .non H', rt := Q } [some v0, some v1] H := by
  obtain ⟨F, fs, h, rfl, rfl, W, kE, kQ⟩ := h
  unfold t_F_things
  repeat walk_at "s3"
  refine ⟨F, fs, h, rfl, rfl, W, kE, fun h0 h1 => ?_⟩
  obtain ⟨j, rfl⟩ : ∃ j : Nat, h = j := ⟨h.toNat, by omega⟩
  have hj : j < fs.ts.length := by omega
  obtain ⟨S, homes, R, w, hm⟩ := W.raw
  have e := (FieldAt.lens (F := F) hj).2
  repeat walk_at "s3"
  exact kQ j rfl hj
theorem pure_F_weight_of (ok : Ok K A) (h : sp_F_weight_of K A [v0, v1] H Q E) : t_F_weight_of K A E { nx := fun _ H' => Q .non H', rt := Q } [some v0, some v1] H := by
  obtain ⟨F, fs, i, rfl, rfl, W, kE, kQ⟩ := h
  unfold t_F_weight_of
  repeat walk_at "s3"
  refine ⟨F, fs, i, rfl, rfl, W, kE, fun th => ?_⟩
  obtain ⟨j, rfl⟩ : ∃ j : Nat, i = j := ⟨i.toNat, by have := th.1; omega⟩
  have hj : j < fs.ws.length := by have := th.2.1; omega
  obtain ⟨S, homes, R, w, hm⟩ := W.raw
  have T := R.tr
  repeat walk_at "s3"
  exact kQ j rfl th
theorem there_home {fs : FS} {j : Nat} (th : fs.there j) : ∃ h, fs.home j = some h := by
  have e := th.2.2
  rw [Int.toNat_natCast, FS.gone_eq] at e
  cases q : fs.home j with
  | some h => exact ⟨h, rfl⟩
  | none =>
    have := FS.home_none.1 q
    rw [decide_eq_true this] at e; cases e
theorem pure_F_heap_of (ok : Ok K A) (h : sp_F_heap_of K A [v0, v1] H Q E) : t_F_heap_of K A E { nx := fun _ H' => Q .non H', rt := Q } [some v0, some v1] H := by
  obtain ⟨F, fs, i, rfl, rfl, W, kE, kQ⟩ := h
  unfold t_F_heap_of
  repeat walk_at "s3"
  refine ⟨F, fs, i, rfl, rfl, W, kE, fun th => ?_⟩
  obtain ⟨j, rfl⟩ : ∃ j : Nat, i = j := ⟨i.toNat, by have := th.1; omega⟩
  obtain ⟨h, eh⟩ := there_home th
  obtain ⟨h1, h2⟩ := FS.home_at eh
  obtain ⟨S, homes, R, w, hm⟩ := W.raw
  have T := R.tr
  have e3 := FS.tree_at h1
  obtain ⟨w1, w2, w3⟩ := w _ (List.mem_of_getElem? e3)
  repeat walk_at "s3"
  refine ⟨F.B, fs.ws, S, j, fs.tree h, rfl, rfl, T, w1, w3, h2, fun z m => W.ok.lt z (FS.all_tree m), fun r er => ?_⟩
  refine ⟨F.lh, _, rfl, ?_, kQ j h rfl th eh h1 h2⟩
  rw [← hm.at_ h _ r e3 er]
  exact DGet.k (k := Sum.inl (r : Int)) R.homes
theorem pure_F_tree (ok : Ok K A) (h : sp_F_tree K A [v0, v1] H Q E) : t_F_tree K A E { nx := fun _ H' => Q .non H', rt := Q } [some v0, some v1] H := by
  obtain ⟨F, fs, h, rfl, rfl, W, hz, kE, kQ⟩ := h
  unfold t_F_tree
  repeat walk_at "s3"
  refine ⟨F, fs, h, rfl, rfl, W, kE, fun h0 h1 => ?_⟩
  obtain ⟨j, rfl⟩ : ∃ j : Nat, h = j := ⟨h.toNat, by omega⟩
  have hj : j < fs.ts.length := by omega
  obtain ⟨S, homes, R, w, hm⟩ := W.raw
  have e := (FieldAt.lens (F := F) hj).1
  have T := R.tr
  obtain ⟨w1, w2, w3⟩ := w _ (List.mem_of_getElem? (FS.tree_at hj))
  have bd : ∀ z ∈ (fs.tree j).nodes, z < fs.ws.length := fun z m => W.ok.lt z (FS.all_tree m)
  repeat walk_at "s3"
  refine ⟨F.B, fs.ws, S, fs.tree j, rfl, rfl, T, w1, w2, bd, ?_, fun H' l ps hl ra hp f => kQ j rfl hj H' l ps hl ra hp f⟩
  rw [← Tr.nodes_len]
  have := nodup_bound (FS.tree_nodup W.ok) bd
  omega
theorem pure_F_least (ok : Ok K A) (h : sp_F_least K A [v0, v1] H Q E) : t_F_least K A E { nx := fun _ H' => Q .non H', rt := Q } [some v0, some v1, none] H := by
  obtain ⟨F, fs, h, rfl, rfl, W, kE, kB, kQ⟩ := h
  unfold t_F_least
  repeat walk_at "s3"
  refine ⟨F, fs, h, rfl, rfl, W, kE, fun h0 h1 => ?_⟩
  obtain ⟨j, rfl⟩ : ∃ j : Nat, h = j := ⟨h.toNat, by omega⟩
  have hj : j < fs.ts.length := by omega
  obtain ⟨S, homes, R, w, hm⟩ := W.raw
  have e := (FieldAt.lens (F := F) hj).1
  have T := R.tr
  repeat walk_at "s3"
  rw [dec_oV]
  cases et : fs.tree j with
  | nil =>
    refine x_T rfl ?_
    exact kB j rfl hj et
  | node i l r =>
    have ii : i < fs.ws.length := W.ok.lt i (FS.all_tree (k := j) (by rw [et]; exact mem_i))
    refine x_F rfl ?_
    rw [show oV (Tr.node i l r).top = V.int (i : Int) from rfl]
    repeat walk_at "s3"
    refine ⟨sz_le (by simp), fun p hp => ?_⟩
    exact kQ j i l r rfl hj et p hp
/-! ### a new heap -/
theorem pure_F_heap (ok : Ok K A) (h : sp_F_heap K A [v0] H Q E) : t_F_heap K A E { nx := fun _ H' => Q .non H', rt := Q } [some v0] H := by
  obtain ⟨F, fs, rfl, W, hz, k⟩ := h
  obtain ⟨S, homes, R, w, hm⟩ := W.raw
  unfold t_F_heap
  with_reducible refine x_seq ?_
  refine app_step (te := tC .non) (v := oV none) rfl R.ob ok.clF ok.nTops lk_tops R.tops (by rw [List.length_map, List.length_map]; omega) (fun R r => r) fun H1 c1 f1 => ?_
  have eH1 : H1 F.f = some (.ins A.CF F.df (fF F fs.sp)) := f1 _ _ R.ob (ne_of R.ob R.tops (by intro z; cases z))
  have R1 : Raw A H1 F fs.ws S (fs.addHeap.ts.map Tr.top) (fs.ts.map Tr.size) homes (tab fs.ws.length fun i => .bl (fs.gone i)) fs.sp := by
    have f1' : Fr (fun a => a = F.lt) H H1 := f1
    obtain ⟨⟨h1, h2⟩, h3⟩ := nd3 R.nd
    refine ⟨eH1, R.tr.fr f1' (fun a m e => R.nb.1 (by rw [← e]; exact m)) (ne_of R.tr.ob R.tops (by intro z; cases z)), ?_, f1 _ _ R.sizes h1.symm, f1 _ _ R.homes (ne_of R.homes R.tops (by intro z; cases z)), f1 _ _ R.gone h2.symm, R.nd, R.nb⟩
    rw [c1]
    show _ = some (HO.lst (((fs.ts ++ [Tr.nil]).map Tr.top).map oV))
    rw [List.map_append, List.map_append]; rfl
  with_reducible refine x_seq ?_
  refine app_step (te := tC (.int 0)) (v := nV 0) rfl R1.ob ok.clF ok.nSizes lk_sizes R1.sizes (by rw [List.length_map, List.length_map]; omega) (fun R r => r) fun H2 c2 f2 => ?_
  have R2 : Raw A H2 F fs.ws S (fs.addHeap.ts.map Tr.top) (fs.addHeap.ts.map Tr.size) homes (tab fs.ws.length fun i => .bl (fs.gone i)) fs.sp := by
    have f2' : Fr (fun a => a = F.ls) H1 H2 := f2
    obtain ⟨⟨h1, h2⟩, h3⟩ := nd3 R.nd
    refine ⟨f2 _ _ R1.ob (ne_of R1.ob R1.sizes (by intro z; cases z)), R1.tr.fr f2' (fun a m e => R.nb.2.1 (by rw [← e]; exact m)) (ne_of R1.tr.ob R1.sizes (by intro z; cases z)), f2 _ _ R1.tops h1, ?_, f2 _ _ R1.homes (ne_of R1.homes R1.sizes (by intro z; cases z)), f2 _ _ R1.gone h3.symm, R.nd, R.nb⟩
    rw [c2]
    show _ = some (HO.lst (((fs.ts ++ [Tr.nil]).map Tr.size).map nV))
    rw [List.map_append, List.map_append]; rfl
  repeat walk_at "s3"
  refine x_lenL (sl_of R2.tops) ?_
  repeat walk_at "s3"
  have e : ((((fs.addHeap.ts.map Tr.top).map oV).length : Nat) : Int) - 1 = (fs.ts.length : Int) := by
    rw [List.length_map, List.length_map]
    show (((fs.ts ++ [Tr.nil]).length : Nat) : Int) - 1 = _
    rw [List.length_append, List.length_singleton]; omega
  rw [e]
  refine k H2 ⟨⟨S, homes, ?_, fun t ht => ?_, ?_⟩, W.ok.addHeap⟩ ((f1.mono fun b e => by rw [e]; exact own_lt).trans (f2.mono fun b e => by rw [e]; exact own_ls))
  · have eg : (tab fs.ws.length fun i => V.bl (fs.gone i)) = tab fs.ws.length fun i => .bl (fs.addHeap.gone i) := tab_ext fun i _ => by
      rw [FS.gone_of (fs := fs) (fs' := fs.addHeap)]
      unfold FS.addHeap FS.all
      rw [List.flatMap_append]; simp [Tr.nodes]
    rw [eg] at R2
    exact R2
  · rcases List.mem_append.1 (show t ∈ fs.ts ++ [Tr.nil] from ht) with m | m
    · exact w t m
    · rw [List.mem_singleton.1 m]; exact ⟨trivial, trivial, fun i e => by cases e⟩
  · refine ⟨fun h t i e1 e2 => ?_, hm.nd, hm.keys⟩
    have e1 : (fs.ts ++ [Tr.nil])[h]? = some t := e1
    by_cases hh : h < fs.ts.length
    · rw [List.getElem?_append_left hh] at e1
      exact hm.at_ h t i e1 e2
    · rw [List.getElem?_append_right (by omega)] at e1
      have : t = .nil := by
        rcases Nat.eq_zero_or_pos (h - fs.ts.length) with z | z
        · rw [z] at e1; exact (Option.some.inj e1).symm
        · rw [List.getElem?_eq_none (by simp; omega)] at e1; cases e1
      rw [this] at e2; cases e2
end
end G

namespace G
open PySem PySem.Spec PyProof.Rows L2
section
variable {K : PySem.W.Frag} {A : Ad} {H H' : Hp} {Q : VK} {E : XK} {v0 v1 v2 v3 : V}
/-- self.f = a new object -/
theorem init_stepO {D : Ends} {σ : L2.St} {f : Str} {t C dx : Addr} {fs : List (Str × V)} {te : TE} {o : HO} (hte : ∀ R : VK, (∀ p, H p = none → R (.ref p) (upd H p o)) → te σ H R) (hσ : σ[0]? = some (some (.ref t))) (h : H t = some (.ins C dx fs)) (c : Cls K C) (n : NoAttr K C f) (hl : fs.length < 1000)
    (k : ∀ p H2, H p = none → H2 t = some (.ins C dx (putF f (.ref p) fs)) → H2 p = some o → Fr (fun a => a = t) H H2 → D.nx σ H2) : sFld K (tVar 0) te f D σ H := by
  refine x_sfld (hte _ fun p hp => x_var hσ ?_)
  have npt : t ≠ p := ne_of_none h hp
  refine x_kset (by rw [upd_ne npt]; exact h) c n hl ?_
  refine k p _ hp upd_same (by rw [upd_ne npt.symm, upd_same]) ?_
  intro b o e nb
  rw [upd_ne nb, upd_ne (ne_of_none e hp)]
  exact e
theorem pure_F_init (ok : Ok K A) (h : sp_F_init K A [v0] H Q E) : t_F_init K A E { nx := fun _ H' => Q .non H', rt := Q } [some v0] H := by
  obtain ⟨f, df, rfl, h0, k⟩ := h
  unfold t_F_init
  repeat walk_at "s1"
  refine x_make (x_nil fun x dx nx ndx nex => ?_)
  have nfx : f ≠ x := ne_of_none h0 nx
  have nfd : f ≠ dx := ne_of_none h0 ndx
  refine ⟨x, dx, rfl, upd_same, fun B H1 eB TS fo f1 => ⟨rfl, ?_⟩⟩
  subst eB
  have new : ∀ {a}, (upd (upd H dx (.own B.t)) B.t (.ins A.CT dx [])) a = none → H a = none ∧ a ≠ B.t ∧ a ≠ dx := fun {a} e => by
    have n1 : a ≠ B.t := fun z => by subst z; rw [upd_same] at e; cases e
    rw [upd_ne n1] at e
    have n2 : a ≠ dx := fun z => by subst z; rw [upd_same] at e; cases e
    rw [upd_ne n2] at e
    exact ⟨e, n1, n2⟩
  have fr1 : Fr M0 H H1 := fun b o e _ => f1 b o (by rw [upd_ne (ne_of_none e nx), upd_ne (ne_of_none e ndx)]; exact e) (ne_of_none e nx)
  have hf1 := fr1 _ _ h0 (fun z => z)
  have T1 := TS ⟨fun _ => none, fun _ => none, fun _ => none, fun _ => 0⟩
  have bo : ∀ a, B.own a → H a = none := fun a m => (new (fo a m)).1
  have nbf : ¬ B.own f := fun m => by have := bo f m; rw [h0] at this; cases this
  repeat walk_at "s1"
  refine x_kset hf1 ok.clF ok.nTrees (by show 0 < 1000; decide) ?_
  have e1 : putF "trees" (V.ref B.t) [] = ([("trees", V.ref B.t)] : List (Str × V)) := rfl
  rw [e1]
  have f2 : Fr (fun a => a = f) H1 (upd H1 f (.ins A.CF df [("trees", V.ref B.t)])) := Fr.at rfl
  generalize hH2 : upd H1 f (.ins A.CF df [("trees", V.ref B.t)]) = H2 at f2 ⊢
  have o2 : H2 f = some (.ins A.CF df [("trees", V.ref B.t)]) := by rw [← hH2]; exact upd_same
  have T2 : TreesAt A H2 B [] ⟨fun _ => none, fun _ => none, fun _ => none, fun _ => 0⟩ := T1.fr f2 (fun a m e => nbf (by rw [← e]; exact m)) nfx.symm
  with_reducible refine x_seq ?_
  refine init_step rfl o2 ok.clF ok.nTops (by show 1 < 1000; decide) fun p3 H3 n3 o3 c3 f3 => ?_
  have e3 : putF "tops" (V.ref p3) [("trees", V.ref B.t)] = ([("trees", V.ref B.t), ("tops", .ref p3)] : List (Str × V)) := by
    rw [put_past (by decide +kernel)]
    rfl
  rw [e3] at o3
  with_reducible refine x_seq ?_
  refine init_step rfl o3 ok.clF ok.nSizes (by show 2 < 1000; decide) fun p4 H4 n4 o4 c4 f4 => ?_
  have e4 : putF "sizes" (V.ref p4) [("trees", V.ref B.t), ("tops", .ref p3)] = ([("trees", V.ref B.t), ("tops", .ref p3), ("sizes", .ref p4)] : List (Str × V)) := by
    rw [put_past (by decide +kernel), put_past (by decide +kernel)]
    rfl
  rw [e4] at o4
  with_reducible refine x_seq ?_
  refine init_stepO (o := .dK []) (fun R r => r) rfl o4 ok.clF ok.nHomes (by show 3 < 1000; decide) fun p5 H5 n5 o5 c5 f5 => ?_
  have e5 : putF "homes" (V.ref p5) [("trees", V.ref B.t), ("tops", .ref p3), ("sizes", .ref p4)] = ([("trees", V.ref B.t), ("tops", .ref p3), ("sizes", .ref p4), ("homes", .ref p5)] : List (Str × V)) := by
    rw [put_past (by decide +kernel), put_past (by decide +kernel), put_past (by decide +kernel)]
    rfl
  rw [e5] at o5
  with_reducible refine x_seq ?_
  refine init_step rfl o5 ok.clF ok.nGone (by show 4 < 1000; decide) fun p6 H6 n6 o6 c6 f6 => ?_
  have e6 : putF "gone" (V.ref p6) [("trees", V.ref B.t), ("tops", .ref p3), ("sizes", .ref p4), ("homes", .ref p5)] = ([("trees", V.ref B.t), ("tops", .ref p3), ("sizes", .ref p4), ("homes", .ref p5), ("gone", .ref p6)] : List (Str × V)) := by
    rw [put_past (by decide +kernel), put_past (by decide +kernel), put_past (by decide +kernel), put_past (by decide +kernel)]
    rfl
  rw [e6] at o6
  repeat walk_at "s1"
  refine x_kset o6 ok.clF ok.nSpent (by show 5 < 1000; decide) ?_
  have e7 : putF "spent" (V.int 0) [("trees", V.ref B.t), ("tops", .ref p3), ("sizes", .ref p4), ("homes", .ref p5), ("gone", .ref p6)] = ([("trees", V.ref B.t), ("tops", .ref p3), ("sizes", .ref p4), ("homes", .ref p5), ("gone", .ref p6), ("spent", .int 0)] : List (Str × V)) := by
    rw [put_past (by decide +kernel), put_past (by decide +kernel), put_past (by decide +kernel), put_past (by decide +kernel), put_past (by decide +kernel)]
    rfl
  rw [e7]
  have f7 : Fr (fun a => a = f) H6 (upd H6 f (.ins A.CF df [("trees", V.ref B.t), ("tops", .ref p3), ("sizes", .ref p4), ("homes", .ref p5), ("gone", .ref p6), ("spent", .int 0)])) := Fr.at rfl
  generalize hH7 : upd H6 f (.ins A.CF df [("trees", V.ref B.t), ("tops", .ref p3), ("sizes", .ref p4), ("homes", .ref p5), ("gone", .ref p6), ("spent", .int 0)]) = H7 at f7 ⊢
  have o7 : H7 f = some (.ins A.CF df [("trees", V.ref B.t), ("tops", .ref p3), ("sizes", .ref p4), ("homes", .ref p5), ("gone", .ref p6), ("spent", .int 0)]) := by rw [← hH7]; exact upd_same
  have q : ∀ {H : Hp} {p : Addr} {xs}, H f = some (.ins A.CF df xs) → H p = none → p ≠ f := fun h n => (ne_of_none h n).symm
  have q3 := q o2 n3
  have q4 := q o3 n4
  have q5 := q o4 n5
  have q6 := q o5 n6
  have F23 := f3
  have d34 := ne_of_none c3 n4
  have c3b := f4 _ _ c3 q3
  have d35 := ne_of_none c3b n5
  have d45 := ne_of_none c4 n5
  have c3c := f5 _ _ c3b q3
  have c4c := f5 _ _ c4 q4
  have d36 := ne_of_none c3c n6
  have d46 := ne_of_none c4c n6
  have back : ∀ {Ha Hb : Hp} {p : Addr}, Fr (fun a => a = f) Ha Hb → Hb p = none → p ≠ f → Ha p = none := fun {Ha Hb p} g h n => by
    cases e : Ha p with
    | none => rfl
    | some u => rw [g p u e n] at h; cases h
  have z3 : H1 p3 = none := back f2 n3 q3
  have z4 : H1 p4 = none := back (f2.trans f3) n4 q4
  have z5 : H1 p5 = none := back ((f2.trans f3).trans f4) n5 q5
  have z6 : H1 p6 = none := back (((f2.trans f3).trans f4).trans f5) n6 q6
  have f17 := ((((f2.trans f3).trans f4).trans f5).trans f6).trans f7
  have T7 : ∀ S, TreesAt A H7 B [] S := fun S => (TS S).fr f17 (fun a m e => nbf (by rw [← e]; exact m)) nfx.symm
  refine k ⟨f, df, B, p3, p4, p5, p6⟩ H7 rfl ⟨⟨⟨fun _ => none, fun _ => none, fun _ => none, fun _ => 0⟩, [], ⟨o7, T7 _, f7 _ _ (f6 _ _ c3c q3) q3, f7 _ _ (f6 _ _ c4c q4) q4, f7 _ _ (f6 _ _ c5 q5) q5, f7 _ _ c6 q6, by simp [d34, d36, d46], own_ne T1 z3, own_ne T1 z4, own_ne T1 z6⟩, (fun t ht => nomatch ht), ⟨(fun h t i e => by simp at e), List.nodup_nil, (fun k hk => nomatch hk)⟩⟩, ⟨List.nodup_nil, (fun i hi => nomatch hi)⟩⟩ ?_ nx ?_
  · have fin : ∀ {p}, H1 p = none → H p = none := fun e => Fr.free fr1 e
    rintro a (e | e | e | e | e | e)
    · exact .inl e
    · exact .inr (bo a e)
    · subst e; exact .inr (fin z3)
    · subst e; exact .inr (fin z4)
    · subst e; exact .inr (fin z5)
    · subst e; exact .inr (fin z6)
  · exact (fr1.mono fun _ z => z.elim).trans f17
/-! ### laid -/
theorem Raw.tup_own {F : FdA} {ws : List Int} {S : CS} {tops : List (Option Nat)} {sizes : List Nat} {homes : List (Key × V)} {gl : List V} {sp : Nat} {p : Addr} {xs : List V} (R : Raw A H F ws S tops sizes homes gl sp) (hp : H p = some (.tup xs)) : ¬ F.own p := fun h => by
  rcases h with e | e | e | e | e | e
  · subst e; rw [R.ob] at hp; cases hp
  · obtain ⟨ys, z⟩ := R.tr.own_lst e; rw [hp] at z; cases z
  · subst e; rw [R.tops] at hp; cases hp
  · subst e; rw [R.sizes] at hp; cases hp
  · subst e; rw [R.homes] at hp; cases hp
  · subst e; rw [R.gone] at hp; cases hp
theorem pure_F_laid (ok : Ok K A) (h : sp_F_laid K A [v0, v1, v2, v3] H Q E) : t_F_laid K A E { nx := fun _ H' => Q .non H', rt := Q } [some v0, some v1, some v2, some v3] H := by
  obtain ⟨F, ws, S, tops, sizes, homes, gl, sp, h, k, n, x, p, rfl, rfl, rfl, rfl, R, hh, hp, hz, kk⟩ := h
  have np := R.tup_own hp
  have a0 : ∀ {x y : V}, atI [x, y] ((0 : Nat) : Int) = some x := atI_nat rfl
  have a1 : ∀ {x y : V}, atI [x, y] ((1 : Nat) : Int) = some y := atI_nat rfl
  unfold t_F_laid
  repeat walk_at "s3"
  refine x_ixT (st_of hp) rfl a0 ?_
  repeat walk_at "s3"
  refine x_stt R hh (o := x) rfl fun H1 R1 f1 => ?_
  have hp1 := f1 _ _ hp np
  -- spent
  have fin : ∀ H2, Raw A H2 F ws S (tops.set h x) sizes (lay homes x h) gl sp → H2 p = some (.tup [oV x, .int k]) → Fr F.own H H2 → (sFld K (tVar 0) (tOp oAdd (tVar 3) (tOp (rIxT K) (tVar 2) (tC (.int 1)))) "spent") { nx := fun _ H' => Q .non H', rt := Q } [some (.ref F.f), some (.int h), some (.ref p), some (.int n)] H2 := by
    intro H2 R2 hp2 f2
    repeat walk_at "s3"
    refine x_ixT (st_of hp2) rfl a1 ?_
    repeat walk_at "s3"
    refine x_sts' (z := n + k) ok R2 (by show V.int ((n : Int) + (k : Int)) = V.int ((n + k : Nat) : Int); congr 1) fun H3 R3 f3 => ?_
    exact kk H3 R3 (f2.trans f3)
  repeat walk_at "s3"
  refine x_ixT (st_of hp1) rfl a0 ?_
  repeat walk_at "s3"
  rw [dec_oV]
  cases x with
  | none =>
    refine x_F rfl (x_next ?_)
    exact fin H1 R1 hp1 f1
  | some i =>
    refine x_T rfl ?_
    repeat walk_at "s3"
    refine x_ixT (st_of hp1) rfl a0 ?_
    rw [show oV (some i) = V.int (i : Int) from rfl]
    refine ⟨F.lh, _, rfl, DPut.k (k := Sum.inl (i : Int)) R1.homes (Nat.lt_trans hz (by decide)), ?_⟩
    have f2 : Fr F.own H1 (upd H1 F.lh (.dK (putK homes (Sum.inl (i : Int)) (.int h)))) := Fr.at own_lh
    exact fin _ R1.homes' (f2 _ _ hp1 np) (f1.trans f2)
end
end G

namespace G
open PySem PySem.Spec PyProof.Rows L2
section
variable {K : PySem.W.Frag} {A : Ad} {H H' : Hp} {Q : VK} {E : XK} {v0 v1 v2 v3 : V}
abbrev Stands (S : CS) (t : Tr) : Prop := Shape S t ∧ Runs S t ∧ Upp S t none
theorem Out.stands {S S' : CS} {ns : List Nat} {t : Tr} (o : Out S S' ns) (h : Stands S t) (d : ∀ i ∈ t.nodes, i ∉ ns) : Stands S' t :=
  ⟨shape_fr (fun j m => o.l j (d j m)) (fun j m => o.r j (d j m)) (fun j m => o.u j (d j (List.mem_of_mem_tail m))) h.1, runs_fr (fun j m => o.n j (d j m)) h.2.1, h.2.2.fr fun j e => o.u j (d j (Tr.top_mem e))⟩
theorem set_cases {ts : List Tr} {k : Nat} {T t : Tr} (h : t ∈ ts.set k T) : t = T ∨ ∃ j, j ≠ k ∧ ts[j]? = some t := by
  obtain ⟨j, e⟩ := List.mem_iff_getElem?.1 h
  rw [List.getElem?_set] at e
  by_cases c : k = j
  · rw [if_pos c] at e
    split at e
    · exact .inl (Option.some.inj e).symm
    · cases e
  · rw [if_neg c] at e
    exact .inr ⟨j, fun z => c z.symm, e⟩
theorem Homes.len {ts : List Tr} {n : Nat} {homes : List (Key × V)} (h : Homes ts n homes) : homes.length ≤ n := by
  have := List.Nodup.length_le_of_subset h.nd (l₂ := (List.range n).map fun (i : Nat) => (Sum.inl (i : Int) : Key)) (fun k hk => by
    obtain ⟨i, hi, e⟩ := h.keys k hk
    exact List.mem_map.2 ⟨i, List.mem_range.2 hi, e.symm⟩)
  simpa using this
theorem putK_keys {kvs : List (Key × V)} {k j : Key} {v : V} (h : j ∈ (putK kvs k v).map (·.1)) : j = k ∨ j ∈ kvs.map (·.1) := by
  unfold putK at h
  split at h
  · rw [List.map_map] at h
    obtain ⟨p, hp, e⟩ := List.mem_map.1 h
    refine .inr (List.mem_map.2 ⟨p, hp, ?_⟩)
    rw [← e]
    show p.1 = (if p.1 = k then (p.1, v) else p).1
    split <;> rfl
  · rw [List.map_append] at h
    rcases List.mem_append.1 h with m | m
    · exact .inr m
    · exact .inl (by simpa using m)
theorem putK_nd {kvs : List (Key × V)} {k : Key} {v : V} (h : (kvs.map (·.1)).Nodup) : ((putK kvs k v).map (·.1)).Nodup := by
  cases e : valV kvs k with
  | none => exact nd_putK v h e
  | some y =>
    have q : (kvs.any fun kv => decide (kv.1 = k)) = true := by rw [valV_any, e]; rfl
    unfold putK
    rw [if_pos q, List.map_map]
    have : ((fun x : Key × V => x.1) ∘ fun kv : Key × V => if kv.1 = k then (kv.1, v) else kv) = fun x => x.1 := by
      funext p
      show (if p.1 = k then (p.1, v) else p).1 = p.1
      split <;> rfl
    rw [this]; exact h
theorem Homes.set {ts : List Tr} {n n' k : Nat} {T : Tr} {homes : List (Key × V)} (h : Homes ts n homes) (hk : k < ts.length) (hn : n ≤ n') (hT : ∀ i, T.top = some i → i < n') (hd : ∀ j t i, j ≠ k → ts[j]? = some t → t.top = some i → T.top ≠ some i) : Homes (ts.set k T) n' (lay homes T.top k) := by
  have keep : ∀ j t i, j ≠ k → ts[j]? = some t → t.top = some i → valV (lay homes T.top k) (.inl (i : Int)) = some (.int j) := fun j t i nj e1 e2 => by
    have o := h.at_ j t i e1 e2
    have d := hd j t i nj e1 e2
    cases eT : T.top with
    | none => exact o
    | some z =>
      show valV (putK homes (.inl (z : Int)) (.int k)) (.inl (i : Int)) = _
      rw [valV_put, if_neg]
      · exact o
      · intro z'
        have := Sum.inl.inj z'
        exact d (by rw [eT]; congr 1; omega)
  refine ⟨fun j t i e1 e2 => ?_, ?_, ?_⟩
  · rw [List.getElem?_set] at e1
    by_cases c : k = j
    · rw [if_pos c] at e1
      rw [if_pos (by omega)] at e1
      have et : T = t := Option.some.inj e1
      subst et
      rw [e2, ← c]
      show valV (putK homes (.inl (i : Int)) (.int k)) (.inl (i : Int)) = _
      rw [valV_put, if_pos rfl]
    · rw [if_neg c] at e1
      exact keep j t i (fun z => c z.symm) e1 e2
  · cases eT : T.top with
    | none => exact h.nd
    | some z => exact putK_nd h.nd
  · intro x hx
    cases eT : T.top with
    | none =>
      rw [eT] at hx
      obtain ⟨i, hi, e⟩ := h.keys x hx
      exact ⟨i, by omega, e⟩
    | some z =>
      rw [eT] at hx
      rcases putK_keys hx with e | m
      · exact ⟨z, hT z eT, e⟩
      · obtain ⟨i, hi, e⟩ := h.keys x m
        exact ⟨i, by omega, e⟩
theorem FS.tree_lt {fs : FS} (o : fs.Ok) {k i : Nat} (h : i ∈ (fs.tree k).nodes) : i < fs.ws.length := o.lt i (FS.all_tree h)
theorem FS.at_tree {fs : FS} {j : Nat} {t : Tr} (e : fs.ts[j]? = some t) : t = fs.tree j := by
  unfold FS.tree
  rw [List.getD_eq_getElem?_getD, e]; rfl
/-! ### put -/
theorem pure_F_put (ok : Ok K A) (h : sp_F_put K A [v0, v1, v2] H Q E) : t_F_put K A E { nx := fun _ H' => Q .non H', rt := Q } [some v0, some v1, some v2, none] H := by
  obtain ⟨F, fs, h, w, rfl, rfl, rfl, W, hz, kE, kQ⟩ := h
  unfold t_F_put
  repeat walk_at "s3"
  refine ⟨F, fs, h, rfl, rfl, W, kE, fun h0 h1 => ?_⟩
  obtain ⟨k, rfl⟩ : ∃ j : Nat, h = j := ⟨h.toNat, by omega⟩
  have hk : k < fs.ts.length := by omega
  obtain ⟨S, homes, R, st, hm⟩ := W.raw
  have T := R.tr
  have o := W.ok
  have etop := (FieldAt.lens (F := F) hk).1
  have esz := (FieldAt.lens (F := F) hk).2
  repeat walk_at "s3"
  refine ⟨F.B, fs.ws, S, w, rfl, rfl, T, by omega, fun H1 T1 f1 => ?_⟩
  have R1 := R.trees T1 f1
  with_reducible refine x_seq ?_
  refine app_step (te := tC (.bl false)) (v := .bl false) rfl R1.ob ok.clF ok.nGone lk_gone R1.gone (by rw [tab_len]; omega) (fun R r => r) fun H2 c2 f2 => ?_
  have R2 : Raw A H2 F (fs.ws ++ [w]) ⟨fset S.L fs.ws.length none, fset S.R fs.ws.length none, fset S.U fs.ws.length none, fset S.N fs.ws.length 1⟩ (fs.ts.map Tr.top) (fs.ts.map Tr.size) homes (tab fs.ws.length (fun i => V.bl (fs.gone i)) ++ [.bl false]) fs.sp := by
    obtain ⟨⟨n1, n2⟩, n3⟩ := nd3 R.nd
    have f2' : Fr (fun a => a = F.lg) H1 H2 := f2
    exact ⟨f2 _ _ R1.ob (ne_of R1.ob R1.gone (by intro z; cases z)), R1.tr.fr f2' (fun a m e => R.nb.2.2 (by rw [← e]; exact m)) (ne_of R1.tr.ob R1.gone (by intro z; cases z)), f2 _ _ R1.tops n2, f2 _ _ R1.sizes n3, f2 _ _ R1.homes (ne_of R1.homes R1.gone (by intro z; cases z)), c2, R.nd, R.nb⟩
  have T2 := R2.tr
  have ne : ∀ {j : Nat} {i : Nat}, i ∈ (fs.tree j).nodes → i ≠ fs.ws.length := fun m => by have := FS.tree_lt o m; omega
  -- every old tree stands over the longer lists
  have st1 : ∀ j, j < fs.ts.length → Stands ⟨fset S.L fs.ws.length none, fset S.R fs.ws.length none, fset S.U fs.ws.length none, fset S.N fs.ws.length 1⟩ (fs.tree j) := fun j hj =>
    Out.stands (ns := [fs.ws.length]) ⟨fun i n => fset_ne (by simpa using n), fun i n => fset_ne (by simpa using n), fun i n => fset_ne (by simpa using n), fun i n => fset_ne (by simpa using n)⟩ (st _ (List.mem_of_getElem? (FS.tree_at hj))) (fun i m => by simpa using ne m)
  obtain ⟨s1, s2, s3⟩ := st1 k hk
  repeat walk_at "s3"
  refine ⟨F.B, fs.ws ++ [w], _, fs.tree k, .node fs.ws.length .nil .nil, rfl, rfl, rfl, T2, s1, s2, ⟨fset_same, fset_same, (fun i e => by cases e), (fun i e => by cases e), trivial, trivial⟩, ⟨fset_same, trivial, trivial⟩, ?_, ?_, by simp; omega, fun H3 S3 p T3 J hp hp3 f3 => ?_⟩
  · refine List.nodup_append.2 ⟨FS.tree_nodup o, by simp [Tr.nodes], fun a ha b hb => ?_⟩
    have : b = fs.ws.length := by simpa [Tr.nodes] using hb
    rw [this]; exact ne ha
  · intro i m
    rw [List.length_append, List.length_singleton]
    rcases List.mem_append.1 m with m | m
    · have := FS.tree_lt o m; omega
    · have : i = fs.ws.length := by simpa [Tr.nodes] using m
      omega
  have R3 := R2.trees T3 f3
  have hl := hm.len
  repeat walk_at "s1"
  refine ⟨F, fs.ws ++ [w], S3, _, _, homes, _, fs.sp, k, _, 0, _, p, rfl, rfl, rfl, rfl, R3, by rw [List.length_map]; exact hk, hp3, by omega, fun H4 R4 f4 => ?_⟩
  repeat walk_at "s3"
  refine x_sts (z := (fs.tree k).size + 1) R4 (by rw [List.length_map]; exact hk) rfl fun H5 R5 f5 => ?_
  repeat walk_at "s1"
  have ff : Fr F.own H H5 := (((((f1.mono fun _ m => .inr (.inl m)).trans (f2.mono fun b e => by rw [e]; exact own_lg)).trans (f3.mono fun _ m => .inr (.inl m))).trans f4).trans f5)
  refine kQ k rfl hk H5 ⟨⟨S3, lay homes (mrg (fs.ws ++ [w]) (fs.tree k) (.node fs.ws.length .nil .nil)).top k, ?_, ?_, ?_⟩, o.put hk⟩ ff
  · have e1 : (fs.put k w).ts.map Tr.top = (fs.ts.map Tr.top).set k (mrg (fs.ws ++ [w]) (fs.tree k) (.node fs.ws.length .nil .nil)).top := List.map_set
    have e2 : (fs.put k w).ts.map Tr.size = (fs.ts.map Tr.size).set k ((fs.tree k).size + 1) := by
      show (fs.ts.set k _).map Tr.size = _
      rw [List.map_set, mrg_size]; rfl
    have e3 : (tab (fs.put k w).ws.length fun i => V.bl ((fs.put k w).gone i)) = tab fs.ws.length (fun i => V.bl (fs.gone i)) ++ [.bl false] := by
      have el : (fs.put k w).ws.length = fs.ws.length + 1 := by show (fs.ws ++ [w]).length = _; simp
      have pm := FS.put_all (w := w) hk
      rw [el, tab_succ]
      congr 1
      · refine tab_ext fun i hi => ?_
        rw [FS.gone_of (fs := fs) (fs' := fs.put k w)]
        rw [pm.mem_iff, List.mem_append]
        constructor
        · exact .inl
        · rintro (m | m)
          · exact m
          · have : i = fs.ws.length := by simpa using m
            omega
      · rw [FS.gone_eq, decide_eq_false fun z => z ((pm.mem_iff).2 (List.mem_append_right _ List.mem_cons_self))]
    rw [e1, e2, e3]
    have es : (0 : Nat) + cnt (fs.ws ++ [w]) (fs.tree k) (.node fs.ws.length .nil .nil) = (fs.put k w).sp := Nat.zero_add _
    rw [← es]
    exact R5
  · intro t ht
    rcases set_cases (show t ∈ fs.ts.set k _ from ht) with e | ⟨j, nj, e⟩
    · subst e; exact ⟨J.sh, J.ru, J.up⟩
    · have hj := (List.getElem?_eq_some_iff.1 e).1
      have et := FS.at_tree e
      subst et
      refine J.out.stands (st1 j hj) fun i m m' => ?_
      rcases mrg_mem.1 m' with z | z
      · exact FS.apart o nj m z
      · have : i = fs.ws.length := by simpa [Tr.nodes] using z
        exact ne m this
  · refine hm.set hk (by show fs.ws.length ≤ (fs.ws ++ [w]).length; simp) (fun i e => ?_) fun j t i nj e1 e2 e3 => ?_
    · have := (o.put (w := w) hk).lt i (List.mem_flatMap.2 ⟨_, List.mem_of_getElem? (i := k) (by
        show (fs.ts.set k _)[k]? = _
        rw [List.getElem?_set_self hk]), Tr.top_mem e⟩)
      exact this
    · have et := FS.at_tree e1
      subst et
      have m := Tr.top_mem e2
      rcases mrg_mem.1 (Tr.top_mem e3) with z | z
      · exact FS.apart o nj m z
      · have : i = fs.ws.length := by simpa [Tr.nodes] using z
        exact ne m this
end
end G

namespace G
open PySem PySem.Spec PyProof.Rows L2
section
variable {K : PySem.W.Frag} {A : Ad} {H H' : Hp} {Q : VK} {E : XK} {v0 v1 v2 v3 : V}
theorem Upp.nil {S : CS} {u : Option Nat} : Upp S .nil u := fun i e => by cases e
theorem not_tail {t : Tr} {j : Nat} (nd : t.nodes.Nodup) (m : j ∈ t.nodes.tail) : t.top ≠ some j := by
  cases t with
  | nil => cases m
  | node k x y => exact fun e => (List.nodup_cons.1 nd).1 (by rw [Option.some.inj e]; exact m)
theorem pure_F_take (ok : Ok K A) (h : sp_F_take K A [v0, v1] H Q E) : t_F_take K A E { nx := fun _ H' => Q .non H', rt := Q } [some v0, some v1, none, none] H := by
  obtain ⟨F, fs, h, rfl, rfl, W, hz, kE, kB, kQ⟩ := h
  have a0 : ∀ {x y : V}, atI [x, y] ((0 : Nat) : Int) = some x := atI_nat rfl
  have a1 : ∀ {x y : V}, atI [x, y] ((1 : Nat) : Int) = some y := atI_nat rfl
  unfold t_F_take
  repeat walk_at "s3"
  refine ⟨F, fs, h, rfl, rfl, W, kE, kB, fun k i l r hh hk et p hp => ?_⟩
  subst hh
  obtain ⟨S, homes, R0, st, hm⟩ := W.raw
  have R := R0.new (o := .tup [.int (wt fs.ws i), .int i]) hp
  have T := R.tr
  have o := W.ok
  have ii : i < fs.ws.length := FS.tree_lt o (k := k) (by rw [et]; exact mem_i)
  have hp0 : (upd H p (.tup [.int (wt fs.ws i), .int i])) p = some (.tup [.int (wt fs.ws i), .int i]) := upd_same
  have np := R.tup_own hp0
  obtain ⟨sh, ru, up⟩ := st _ (List.mem_of_getElem? (FS.tree_at hk))
  rw [et] at sh ru up
  have nd : (Tr.node i l r).nodes.Nodup := by rw [← et]; exact FS.tree_nodup o
  obtain ⟨d1, d2⟩ := List.nodup_cons.1 nd
  obtain ⟨d3, d4, d5⟩ := List.nodup_append.1 d2
  have lm : ∀ {j}, j ∈ l.nodes → j < fs.ws.length := fun m => FS.tree_lt o (k := k) (by rw [et]; exact mem_l m)
  have rm : ∀ {j}, j ∈ r.nodes → j < fs.ws.length := fun m => FS.tree_lt o (k := k) (by rw [et]; exact mem_r m)
  have etop := (FieldAt.lens (F := F) hk).1
  have esz := (FieldAt.lens (F := F) hk).2
  have esz' : (fs.tree k).size = 1 + l.size + r.size := by rw [et]; rfl
  generalize hH1 : upd H p (.tup [.int (wt fs.ws i), .int i]) = H1 at R T hp0
  have f1 : Fr F.own H H1 := by rw [← hH1]; exact Fr.new hp
  repeat walk_at "s3"
  refine x_ixT (st_of hp0) rfl a1 ?_
  repeat walk_at "s3"
  refine ⟨F.B, fs.ws, S, i, l.top, r.top, rfl, rfl, T, ii, sh.1, sh.2.1, fun z e => lm (Tr.top_mem e), fun z e => rm (Tr.top_mem e), fun H2 q T2 hq hq2 f2 => ?_⟩
  have R2 := R.trees T2 f2
  have hp2 := f2 _ _ hp0 (fun m => np (.inr (.inl m)))
  have nq := R2.tup_own hq2
  -- the parts stand by themselves
  have oU : Out S { S with U := oset (oset S.U l.top none) r.top none } (Tr.node i l r).nodes := ⟨fun _ _ => rfl, fun _ _ => rfl, fun j n => (oset_ne fun e => n (mem_r (Tr.top_mem e))).trans (oset_ne fun e => n (mem_l (Tr.top_mem e))), fun _ _ => rfl⟩
  have sl : Shape { S with U := oset (oset S.U l.top none) r.top none } l := shape_fr (S := S) (fun _ _ => rfl) (fun _ _ => rfl) (fun j m => (oset_ne fun e => d5 j (List.mem_of_mem_tail m) j (Tr.top_mem e) rfl).trans (oset_ne (not_tail d3 m))) sh.2.2.2.2.1
  have sr : Shape { S with U := oset (oset S.U l.top none) r.top none } r := shape_fr (S := S) (fun _ _ => rfl) (fun _ _ => rfl) (fun j m => (oset_ne (not_tail d4 m)).trans (oset_ne fun e => d5 j (Tr.top_mem e) j (List.mem_of_mem_tail m) rfl)) sh.2.2.2.2.2
  have rl : Runs { S with U := oset (oset S.U l.top none) r.top none } l := runs_fr (S := S) (fun _ _ => rfl) ru.2.1
  have rr : Runs { S with U := oset (oset S.U l.top none) r.top none } r := runs_fr (S := S) (fun _ _ => rfl) ru.2.2
  have oth : ∀ j, j < fs.ts.length → j ≠ k → Stands { S with U := oset (oset S.U l.top none) r.top none } (fs.tree j) := fun j hj nj =>
    oU.stands (st _ (List.mem_of_getElem? (FS.tree_at hj))) fun x m m' => FS.apart o nj m (by rw [et]; exact m')
  repeat walk_at "s3"
  refine x_ixT (st_of hp2) rfl a1 ?_
  refine x_stg R2 (by rw [tab_len]; exact ii) fun H3 R3 f3 => ?_
  have hq3 := f3 _ _ hq2 nq
  have hp3 := f3 _ _ hp2 np
  repeat walk_at "s3"
  refine x_sts (z := (fs.tree k).size - 1) R3 (by rw [List.length_map]; exact hk) (by show V.int _ = V.int _; congr 1; omega) fun H4 R4 f4 => ?_
  have hq4 := f4 _ _ hq3 nq
  have hp4 := f4 _ _ hp3 np
  have T4 := R4.tr
  repeat walk_at "s3"
  refine x_ixT (st_of hq4) rfl a0 ?_
  repeat walk_at "s3"
  refine x_ixT (st_of hq4) rfl a1 ?_
  repeat walk_at "s3"
  refine ⟨F.B, fs.ws, _, l, r, rfl, rfl, rfl, T4, sl, rl, sr, rr, d2, fun j m => (List.mem_append.1 m).elim lm rm, by omega, fun H5 S5 u T5 J hu hu5 f5 => ?_⟩
  have R5 := R4.trees T5 f5
  have hl := hm.len
  have hp5 := f5 _ _ hp4 (fun m => np (.inr (.inl m)))
  repeat walk_at "s1"
  refine ⟨F, fs.ws, S5, _, _, homes, _, fs.sp, k, _, 0, _, u, rfl, rfl, rfl, rfl, R5, by rw [List.length_map]; exact hk, hu5, by omega, fun H6 R6 f6 => ?_⟩
  repeat walk_at "s1"
  have ff : Fr F.own H H6 := (((((f1.trans (f2.mono fun _ m => .inr (.inl m))).trans f3).trans f4).trans (f5.mono fun _ m => .inr (.inl m))).trans f6)
  have ets : (fs.take k).ts = fs.ts.set k (mrg fs.ws l r) := by unfold FS.take; rw [et]
  have ews : (fs.take k).ws = fs.ws := by unfold FS.take; rw [et]
  have esp : (fs.take k).sp = cnt fs.ws l r := by unfold FS.take; rw [et]
  refine kQ k i l r rfl hk et H6 p ⟨⟨S5, lay homes (mrg fs.ws l r).top k, ?_, ?_, ?_⟩, o.take hk et⟩ hp (f6 _ _ hp5 np) ff
  · have e1 : (fs.take k).ts.map Tr.top = (fs.ts.map Tr.top).set k (mrg fs.ws l r).top := by rw [ets]; exact List.map_set
    have e2 : (fs.take k).ts.map Tr.size = (fs.ts.map Tr.size).set k ((fs.tree k).size - 1) := by
      rw [ets, List.map_set, mrg_size, esz']
      congr 1; omega
    have e3 : (tab (fs.take k).ws.length fun j => V.bl ((fs.take k).gone j)) = (tab fs.ws.length fun j => V.bl (fs.gone j)).set i (.bl true) := by
      rw [ews, tab_set]
      refine tab_ext fun j _ => ?_
      have pm := FS.take_all hk et
      by_cases c : j = i
      · rw [if_pos c, FS.gone_eq, decide_eq_true]
        rw [c]
        exact (List.nodup_cons.1 (pm.nodup_iff.1 o.nd)).1
      · rw [if_neg c, FS.gone_of (fs := fs) (fs' := fs.take k)]
        rw [pm.mem_iff, List.mem_cons]
        exact ⟨fun h => h.resolve_left c, .inr⟩
    rw [e1, e2, e3, ews, esp]
    have es : (0 : Nat) + cnt fs.ws l r = cnt fs.ws l r := Nat.zero_add _
    rw [← es]
    exact R6
  · intro t ht
    rw [ets] at ht
    rcases set_cases ht with e | ⟨j, nj, e⟩
    · subst e; exact ⟨J.sh, J.ru, J.up⟩
    · have hj := (List.getElem?_eq_some_iff.1 e).1
      have et2 := FS.at_tree e
      subst et2
      refine J.out.stands (oth j hj nj) fun x m m' => FS.apart o nj m ?_
      rw [et]
      rcases mrg_mem.1 m' with z | z
      · exact mem_l z
      · exact mem_r z
  · rw [ets, ews]
    have tm : ∀ {z}, (mrg fs.ws l r).top = some z → z ∈ (fs.tree k).nodes := fun e => by
      rw [et]
      rcases mrg_mem.1 (Tr.top_mem e) with m | m
      · exact mem_l m
      · exact mem_r m
    refine hm.set hk (Nat.le_refl _) (fun z e => FS.tree_lt o (tm e)) fun j t z nj e1 e2 e3 => ?_
    have et2 := FS.at_tree e1
    subst et2
    exact FS.apart o nj (Tr.top_mem e2) (tm e3)
theorem Homes.nil {ts : List Tr} {n m : Nat} {homes : List (Key × V)} (h : Homes ts n homes) : Homes (ts.set m .nil) n homes := ⟨fun j t i e1 e2 => by
  rw [List.getElem?_set] at e1
  split at e1
  · split at e1
    · rw [← Option.some.inj e1] at e2; cases e2
    · cases e1
  · exact h.at_ j t i e1 e2, h.nd, h.keys⟩
theorem pure_F_pour (ok : Ok K A) (h : sp_F_pour K A [v0, v1, v2] H Q E) : t_F_pour K A E { nx := fun _ H' => Q .non H', rt := Q } [some v0, some v1, some v2, none] H := by
  obtain ⟨F, fs, h, o', rfl, rfl, rfl, W, hz, kE, kS, kQ⟩ := h
  unfold t_F_pour
  repeat walk_at "s3"
  refine ⟨F, fs, h, rfl, rfl, W, fun n => kE fun z => n z.1, fun h0 h1 => ?_⟩
  repeat walk_at "s3"
  refine ⟨F, fs, o', rfl, rfl, W, fun n => kE fun z => n z.2, fun h2 h3 => ?_⟩
  repeat walk_at "s3"
  refine x_ite (fun c => ?_) (fun c => ?_)
  · exact kS h0 h1 c
  obtain ⟨k, rfl⟩ : ∃ j : Nat, h = j := ⟨h.toNat, by omega⟩
  obtain ⟨m, rfl⟩ : ∃ j : Nat, o' = j := ⟨o'.toNat, by omega⟩
  have hk : k < fs.ts.length := by omega
  have hmm : m < fs.ts.length := by omega
  have nkm : k ≠ m := by omega
  obtain ⟨S, homes, R, st, hm⟩ := W.raw
  have T := R.tr
  have o := W.ok
  have ek1 := (FieldAt.lens (F := F) hk).1
  have ek2 := (FieldAt.lens (F := F) hk).2
  have em1 := (FieldAt.lens (F := F) hmm).1
  have em2 := (FieldAt.lens (F := F) hmm).2
  obtain ⟨s1, s2, s3⟩ := st _ (List.mem_of_getElem? (FS.tree_at hk))
  obtain ⟨s4, s5, s6⟩ := st _ (List.mem_of_getElem? (FS.tree_at hmm))
  repeat walk_at "s3"
  refine ⟨F.B, fs.ws, S, fs.tree k, fs.tree m, rfl, rfl, rfl, T, s1, s2, s4, s5, List.nodup_append.2 ⟨FS.tree_nodup o, FS.tree_nodup o, fun a ha b hb e => FS.apart o nkm ha (by rw [e]; exact hb)⟩, fun i mm => (List.mem_append.1 mm).elim (FS.tree_lt o) (FS.tree_lt o), by omega, fun H1 S1 p T1 J hp hp1 f1 => ?_⟩
  have R1 := R.trees T1 f1
  have np := R1.tup_own hp1
  repeat walk_at "s3"
  refine x_stt R1 (by rw [List.length_map]; exact hmm) (o := none) rfl fun H2 R2 f2 => ?_
  have hp2 := f2 _ _ hp1 np
  repeat walk_at "s3"
  refine x_sts (z := (fs.tree k).size + (fs.tree m).size) R2 (by rw [List.length_map]; exact hk) (by show V.int _ = V.int _; congr 1) fun H3 R3 f3 => ?_
  have hp3 := f3 _ _ hp2 np
  repeat walk_at "s3"
  refine x_sts (z := 0) R3 (by rw [List.length_set, List.length_map]; exact hmm) rfl fun H4 R4 f4 => ?_
  have hp4 := f4 _ _ hp3 np
  have hl := hm.len
  repeat walk_at "s3"
  refine ⟨F, fs.ws, S1, _, _, homes, _, fs.sp, k, _, 0, _, p, rfl, rfl, rfl, rfl, R4, by rw [List.length_set, List.length_map]; exact hk, hp4, by omega, fun H5 R5 f5 => ?_⟩
  have ff : Fr F.own H H5 := ((((f1.mono fun _ m => .inr (.inl m)).trans f2).trans f3).trans f4).trans f5
  repeat walk_at "s1"
  refine kQ k m rfl rfl hk hmm nkm H5 ⟨⟨S1, lay homes (mrg fs.ws (fs.tree k) (fs.tree m)).top k, ?_, ?_, ?_⟩, o.pour hk hmm nkm⟩ ff
  · have e1 : (fs.pour k m).ts.map Tr.top = ((fs.ts.map Tr.top).set m none).set k (mrg fs.ws (fs.tree k) (fs.tree m)).top := by
      show ((fs.ts.set m .nil).set k _).map Tr.top = _
      rw [List.map_set, List.map_set]; rfl
    have e2 : (fs.pour k m).ts.map Tr.size = ((fs.ts.map Tr.size).set k ((fs.tree k).size + (fs.tree m).size)).set m 0 := by
      show ((fs.ts.set m .nil).set k _).map Tr.size = _
      rw [List.map_set, List.map_set, mrg_size, List.set_comm _ _ (fun e => nkm e.symm)]; rfl
    have e3 : (tab (fs.pour k m).ws.length fun j => V.bl ((fs.pour k m).gone j)) = tab fs.ws.length fun j => V.bl (fs.gone j) :=
      tab_ext fun j _ => by rw [FS.gone_of (fs := fs) (fs' := fs.pour k m) ((FS.pour_all hk hmm nkm).mem_iff).symm]
    have es : (0 : Nat) + cnt fs.ws (fs.tree k) (fs.tree m) = (fs.pour k m).sp := Nat.zero_add _
    rw [e1, e2, e3, ← es]
    exact R5
  · intro t ht
    rcases set_cases (show t ∈ (fs.ts.set m .nil).set k _ from ht) with e | ⟨j, nj, e⟩
    · subst e; exact ⟨J.sh, J.ru, J.up⟩
    · by_cases nm : m = j
      · subst nm
        rw [List.getElem?_set_self hmm] at e
        rw [← Option.some.inj e]
        exact ⟨trivial, trivial, Upp.nil⟩
      · rw [List.getElem?_set_ne nm] at e
        have et2 := FS.at_tree e
        have hmem := List.mem_of_getElem? e
        subst et2
        refine J.out.stands (st _ hmem) fun x mm m' => ?_
        rcases mrg_mem.1 m' with z | z
        · exact FS.apart o nj mm z
        · exact FS.apart o (fun q => nm q.symm) mm z
  · have tm : ∀ {z}, (mrg fs.ws (fs.tree k) (fs.tree m)).top = some z → z ∈ (fs.tree k).nodes ∨ z ∈ (fs.tree m).nodes := fun e => mrg_mem.1 (Tr.top_mem e)
    refine hm.nil.set (by rw [List.length_set]; exact hk) (Nat.le_refl _) (fun z e => (tm e).elim (FS.tree_lt o) (FS.tree_lt o)) fun j t z nj e1 e2 e3 => ?_
    by_cases nm : m = j
    · subst nm
      rw [List.getElem?_set_self hmm] at e1
      rw [← Option.some.inj e1] at e2; cases e2
    · rw [List.getElem?_set_ne nm] at e1
      have et2 := FS.at_tree e1
      subst et2
      rcases tm e3 with q | q
      · exact FS.apart o nj (Tr.top_mem e2) q
      · exact FS.apart o (fun q => nm q.symm) (Tr.top_mem e2) q
theorem rise_top : ∀ {c : List Frm} {old : Nat} {s s' : Tr}, s.top = s'.top → (rise c old s).1.top = (fill c s').top
  | [], _, _, _, h => h
  | f :: c, old, s, s', h => by
    unfold rise
    split
    · exact rise_top (c := c) (by rw [side1_top, put1_top])
    · exact fill_top (c := c) (by rw [side1_top, put1_top])
theorem rise_top1 {f : Frm} {c : List Frm} {old : Nat} {s s' : Tr} : (rise (f :: c) old s).1.top = (fill (f :: c) s').top := by
  unfold rise
  split
  · exact rise_top (c := c) (by rw [side1_top, put1_top])
  · exact fill_top (c := c) (by rw [side1_top, put1_top])
theorem pure_F_sink (ok : Ok K A) (h : sp_F_sink K A [v0, v1, v2] H Q E) : t_F_sink K A E { nx := fun _ H' => Q .non H', rt := Q } [some v0, some v1, some v2, none, none, none] H := by
  obtain ⟨F, fs, i', w, rfl, rfl, rfl, W, hz, kE, kV, kQ⟩ := h
  unfold t_F_sink
  repeat walk_at "s3"
  refine ⟨F, fs, i', rfl, rfl, W, kE, fun th => ?_⟩
  obtain ⟨i, rfl⟩ : ∃ j : Nat, i' = j := ⟨i'.toNat, by have := th.1; omega⟩
  have ii : i < fs.ws.length := by have := th.2.1; omega
  obtain ⟨S, homes, R, st, hm⟩ := W.raw
  have T := R.tr
  have o := W.ok
  repeat walk_at "s3"
  refine x_ite (fun c => ?_) (fun c => ?_)
  · exact kV i rfl th c
  repeat walk_at "s3"
  refine ⟨F, fs, i, rfl, rfl, W, fun n => (n th).elim, fun k h hk _ eh hh mem => ?_⟩
  obtain rfl : i = k := by omega
  have sk := FS.sink_to (w := w) eh
  have fin := fun H' W' f => kQ i rfl th (by omega) H' W' f
  obtain ⟨pm, ew, el⟩ := sk.all
  obtain ⟨s1, s2, s3⟩ := st _ (List.mem_of_getElem? (FS.tree_at hh))
  obtain ⟨c0, s0, hl⟩ := locate_mem mem
  obtain ⟨l1, l2⟩ := locate_some hl
  have etop := (FieldAt.lens (F := F) hh).1
  repeat walk_at "s3"
  refine x_stw T ii rfl fun H1 T1 f1 => ?_
  have R1 := R.trees T1 f1
  have elw : (fs.ws.set i w).length = fs.ws.length := List.length_set
  have ii1 : i < (fs.ws.set i w).length := by rw [elw]; exact ii
  repeat walk_at "s3"
  -- the thing stays
  have stay : fs.sink i w = { fs with ws := fs.ws.set i w, sp := 0 } → (sFld K (tVar 0) (tC (.int 0)) "spent") { nx := fun _ H' => Q .non H', rt := Q } [some (.ref F.f), some (.int i), some (.int w), some (.int h), some (oV (S.U i)), none] H1 := by
    intro e
    repeat walk_at "s3"
    refine x_sts' (z := 0) ok R1 rfl fun H2 R2 f2 => ?_
    refine fin H2 ⟨⟨S, homes, ?_, ?_, ?_⟩, sk.ok o⟩ ((f1.mono fun _ m => .inr (.inl m)).trans f2)
    · rw [e]
      show Raw A H2 F (fs.ws.set i w) S (fs.ts.map Tr.top) (fs.ts.map Tr.size) homes (tab (fs.ws.set i w).length fun i => .bl (fs.gone i)) 0
      rw [elw]; exact R2
    · rw [e]; exact st
    · rw [e]; show Homes fs.ts (fs.ws.set i w).length homes
      rw [elw]; exact hm
  rw [dec_oV]
  have esink : ∀ x, locate (fs.tree h) i = some x → fs.sink i w = (match x with
    | ([], _) => { fs with ws := fs.ws.set i w, sp := 0 }
    | (f :: c, s) => if Les (fs.ws.set i w) f.1 i then { fs with ws := fs.ws.set i w, sp := 0 } else ⟨fs.ts.set h (mrg (fs.ws.set i w) (rise (f :: c) s.run .nil).1 s), fs.ws.set i w, (rise (f :: c) s.run .nil).2 + cnt (fs.ws.set i w) (rise (f :: c) s.run .nil).1 s⟩) := fun x hx => by
    unfold FS.sink
    rw [eh]
    show (match locate (fs.tree h) i with | none => fs | some ([], _) => _ | some (f :: c, s) => _) = _
    rw [hx]
    obtain ⟨c, s⟩ := x
    cases c <;> rfl
  have e0 := esink _ hl
  cases c0 with
  | nil =>
    have eu : S.U i = none := s3 i (by rw [← l1]; exact l2)
    refine x_T (by rw [eu]; rfl) ?_
    exact stay e0
  | cons f c =>
    rw [← l1] at s1 s2 s3
    have eu : S.U i = some f.1 := (put1_shape (fill_shape (c := c) s1)).2.2.1 i l2
    have fn : f.1 < (fs.ws.set i w).length := by
      rw [elw]
      refine FS.tree_lt o (k := h) ?_
      rw [← l1]
      exact (fill_perm (c := f :: c) (s := s0)).mem_iff.2 (List.mem_append_right _ (List.mem_append_left _ List.mem_cons_self))
    refine x_F (by rw [eu]; rfl) ?_
    rw [eu, show oV (some f.1) = V.int (f.1 : Int) from rfl]
    rw [eu, show oV (some f.1) = V.int (f.1 : Int) from rfl] at stay
    repeat walk_at "s3"
    refine ⟨F.B, _, S, f.1, i, rfl, rfl, rfl, T1, fn, ii1, ?_⟩
    repeat walk_at "s3"
    refine x_ite (fun le => ?_) (fun le => ?_)
    · exact stay (e0.trans (if_pos le))
    have e1 : fs.sink i w = ⟨fs.ts.set h (mrg (fs.ws.set i w) (rise (f :: c) s0.run .nil).1 s0), fs.ws.set i w, (rise (f :: c) s0.run .nil).2 + cnt (fs.ws.set i w) (rise (f :: c) s0.run .nil).1 s0⟩ := e0.trans (if_neg le)
    have pf := fill_perm (c := f :: c) (s := s0)
    have pr : (rise (f :: c) s0.run .nil).1.nodes.Perm (knodes (f :: c)) := rise_perm (c := f :: c) (old := s0.run) (s := .nil)
    have ndf : (fill (f :: c) s0).nodes.Nodup := by rw [l1]; exact FS.tree_nodup o
    have ltf : ∀ j ∈ (fill (f :: c) s0).nodes, j < (fs.ws.set i w).length := fun j m => by rw [elw]; rw [l1] at m; exact FS.tree_lt o m
    repeat walk_at "s3"
    refine ⟨F.B, _, S, i, f, c, s0, rfl, rfl, T1, l2, s1, s2, s3, ndf, ltf, fun H2 S2 T2 r1 r2 r3 q1 q2 q3 o2 f2 => ?_⟩
    have R2 := R1.trees T2 f2
    have rm : ∀ {j}, j ∈ (rise (f :: c) s0.run .nil).1.nodes ∨ j ∈ s0.nodes → j ∈ (fs.tree h).nodes := fun {j} m => by
      rw [← l1, pf.mem_iff, List.mem_append]
      rcases m with m | m
      · exact .inr (pr.mem_iff.1 m)
      · exact .inl m
    repeat walk_at "s3"
    refine ⟨F.B, _, S2, (rise (f :: c) s0.run .nil).1, s0, rfl, ?_, by rw [l2]; rfl, T2, r1, r2, q1, q2, ?_, ?_, by rw [elw]; omega, fun H3 S3 p T3 J hp hp3 f3 => ?_⟩
    · rw [← l1]; exact congrArg oV rise_top1.symm
    · refine (List.perm_append_comm.trans ((List.Perm.append_left _ pr).trans pf.symm)).nodup_iff.2 ndf
    · intro j m
      rw [elw]
      exact FS.tree_lt o (rm (List.mem_append.1 m))
    have R3 := R2.trees T3 f3
    have hlen := hm.len
    repeat walk_at "s1"
    refine ⟨F, _, S3, _, _, homes, _, fs.sp, h, _, (rise (f :: c) s0.run .nil).2, _, p, rfl, rfl, rfl, rfl, R3, by rw [List.length_map]; exact hh, hp3, by omega, fun H4 R4 f4 => ?_⟩
    repeat walk_at "s1"
    refine fin H4 ⟨⟨S3, lay homes (mrg (fs.ws.set i w) (rise (f :: c) s0.run .nil).1 s0).top h, ?_, ?_, ?_⟩, sk.ok o⟩ ((((f1.mono fun _ m => .inr (.inl m)).trans (f2.mono fun _ m => .inr (.inl m))).trans (f3.mono fun _ m => .inr (.inl m))).trans f4)
    · have eg : (tab (fs.sink i w).ws.length fun j => V.bl ((fs.sink i w).gone j)) = tab fs.ws.length fun j => V.bl (fs.gone j) := by
        rw [ew, elw]
        exact tab_ext fun j _ => by rw [FS.gone_of (fs := fs) (fs' := fs.sink i w) (pm.mem_iff).symm]
      have e2 : (fs.sink i w).ts.map Tr.top = (fs.ts.map Tr.top).set h (mrg (fs.ws.set i w) (rise (f :: c) s0.run .nil).1 s0).top := by rw [e1]; exact List.map_set
      have e3 : (fs.sink i w).ts.map Tr.size = fs.ts.map Tr.size := by
        rw [e1]
        show (fs.ts.set h _).map Tr.size = _
        rw [List.map_set]
        have e4 : (mrg (fs.ws.set i w) (rise (f :: c) s0.run .nil).1 s0).size = (fs.tree h).size := by
          rw [mrg_size, ← Tr.nodes_len, ← Tr.nodes_len, ← Tr.nodes_len, pr.length_eq, ← l1, pf.length_eq, List.length_append]; omega
        rw [e4]
        have e5 := (FieldAt.lens (F := F) hh).2
        obtain ⟨h6, h7⟩ := List.getElem?_eq_some_iff.1 e5
        rw [← h7, List.set_getElem_self]
      rw [eg, e2, e3, e1]
      exact R4
    · rw [e1]
      intro t ht
      rcases set_cases (show t ∈ fs.ts.set h _ from ht) with e | ⟨j, nj, e⟩
      · subst e; exact ⟨J.sh, J.ru, J.up⟩
      · have hmem := List.mem_of_getElem? e
        have et2 := FS.at_tree e
        subst et2
        refine J.out.stands (o2.stands (st _ hmem) fun x m m' => FS.apart o nj m (by rw [← l1]; exact m')) fun x m m' => FS.apart o nj m (rm (mrg_mem.1 m'))
    · rw [e1]
      show Homes (fs.ts.set h _) (fs.ws.set i w).length _
      rw [elw]
      refine hm.set hh (Nat.le_refl _) (fun z e => FS.tree_lt o (rm (mrg_mem.1 (Tr.top_mem e)))) fun j t z nj e2 e3 e4 => ?_
      have et2 := FS.at_tree e2
      subst et2
      exact FS.apart o nj (Tr.top_mem e3) (rm (mrg_mem.1 (Tr.top_mem e4)))
end
end G

/-! rules that the laws want: min of a list of pairs -/
namespace G
open PySem PySem.Spec PyProof.Rows L2
/-- the first of their two ints, then the second -/
def Lex (a b : Int × Int) : Prop := a.1 < b.1 ∨ (a.1 = b.1 ∧ a.2 < b.2)
instance (a b : Int × Int) : Decidable (Lex a b) := by unfold Lex; infer_instance
theorem lex_lt {a b : Int × Int} : PySem.W.DatumOrd.lt a b = decide (Lex a b) := by
  show (if a.1 = b.1 then decide (a.2 < b.2) else decide (a.1 < b.1)) = decide (Lex a b)
  unfold Lex
  by_cases h : a.1 = b.1
  · rw [if_pos h]
    refine decide_eq_decide.2 ⟨fun z => .inr ⟨h, z⟩, fun z => ?_⟩
    rcases z with z | z
    · omega
    · exact z.2
  · rw [if_neg h]
    refine decide_eq_decide.2 ⟨fun z => .inl z, fun z => ?_⟩
    rcases z with z | z
    · exact z
    · exact absurd z.1 h
theorem minOf_ok : ∀ (xs : List (Int × Int)) (x : Int × Int), PySem.W.minOf x xs ∈ x :: xs ∧ ∀ y ∈ x :: xs, ¬ Lex y (PySem.W.minOf x xs)
  | [], x => ⟨List.mem_cons_self, fun y hy => by
    have e : y = x := by simpa using hy
    subst e
    show ¬ Lex y y
    unfold Lex; omega⟩
  | y :: ys, x => by
    have e : PySem.W.minOf x (y :: ys) = PySem.W.minOf (if Lex y x then y else x) ys := by
      unfold PySem.W.minOf
      rw [List.foldl_cons]
      congr 1
      rw [lex_lt]
      by_cases h : Lex y x
      · rw [decide_eq_true h, if_pos rfl, if_pos h]
      · rw [decide_eq_false h, if_neg (by decide), if_neg h]
    obtain ⟨h1, h2⟩ := minOf_ok ys (if Lex y x then y else x)
    rw [e]
    generalize PySem.W.minOf (if Lex y x then y else x) ys = m at h1 h2
    by_cases h : Lex y x
    · rw [if_pos h] at h1 h2
      refine ⟨List.mem_cons_of_mem _ h1, fun z hz => ?_⟩
      rcases List.mem_cons.1 hz with e | hz
      · subst e
        have := h2 y List.mem_cons_self
        unfold Lex at *; omega
      · exact h2 z hz
    · rw [if_neg h] at h1 h2
      refine ⟨?_, fun z hz => ?_⟩
      · rcases List.mem_cons.1 h1 with e | h1
        · rw [e]; exact List.mem_cons_self
        · exact List.mem_cons_of_mem _ (List.mem_cons_of_mem _ h1)
      · rcases List.mem_cons.1 hz with e | hz
        · subst e; exact h2 z List.mem_cons_self
        · rcases List.mem_cons.1 hz with e | hz
          · subst e
            have := h2 x List.mem_cons_self
            unfold Lex at *; omega
          · exact h2 z (List.mem_cons_of_mem _ hz)
/-- min(xs), xs a list of pairs of ints: the least of them, itself -/
def rMinP (K : PySem.W.Frag) : List V → Hp → VK → Prop := fun vs H Q => ∃ (a : Addr) (ps : List (Addr × Int × Int)), vs = [V.ref a] ∧ SqL K H a (ps.map fun p => V.ref p.1) ∧ ps ≠ [] ∧ (∀ p ∈ ps, H p.1 = some (.tup [.int p.2.1, .int p.2.2])) ∧
  ∀ p ∈ ps, (∀ q ∈ ps, ¬ Lex q.2 p.2) → Q (.ref p.1) H
theorem holds_all {h : Heap} : ∀ {ps : List (Addr × Int × Int)} {us : List Value}, Vals (ps.map fun p => V.ref p.1) us → (∀ p ∈ ps, PySem.W.Holds h (.ref p.1) p.2) → PySem.W.HoldAll h us (ps.map fun p => p.2)
  | [], us, r, _ => by
    rw [List.map_nil] at r
    cases r
    exact .nil
  | p :: ps, us, r, hp => by
    rw [List.map_cons] at r
    cases r with
    | cons r t =>
      cases r
      exact .cons (hp p List.mem_cons_self) (holds_all t fun q hq => hp q (List.mem_cons_of_mem _ hq))
theorem vals_at : ∀ {xs : List V} {us : List Value} {i : Nat} {v : Value}, Vals xs us → us[i]? = some v → ∃ x, xs[i]? = some x ∧ RelV x v
  | _, _, _, _, .nil, h => by simp at h
  | x :: xs, u :: us, 0, v, .cons r t, h => ⟨x, rfl, by
    have e : u = v := by simpa using h
    rw [← e]; exact r⟩
  | x :: xs, u :: us, i + 1, v, .cons r t, h => by
    obtain ⟨y, h1, h2⟩ := vals_at t (i := i) (by simpa using h)
    exact ⟨y, by simpa using h1, h2⟩
theorem holds_uniq {h : Heap} {v : Value} {x y : Int × Int} (hx : PySem.W.Holds h v x) (hy : PySem.W.Holds h v y) : x = y := by
  obtain ⟨l, a, b, rfl, h1, h2, h3⟩ := PySem.W.pair_of_holds hx
  obtain ⟨l', a', b', e, k1, k2, k3⟩ := PySem.W.pair_of_holds hy
  obtain rfl : l = l' := by injection e
  obtain ⟨o, ho, hc, n, hd⟩ := h1
  obtain ⟨o', ho', hc', n', hd'⟩ := k1
  rw [ho] at ho'
  obtain rfl : o = o' := Option.some.inj ho'
  rw [hd] at hd'
  have e2 : (#[a, b] : Array Value) = #[a', b'] := by injection hd'
  have e3 : a = a' ∧ b = b' := by simpa using e2
  obtain ⟨rfl, rfl⟩ := e3
  obtain ⟨t1, e4⟩ := PySem.W.int_of_holds h2
  obtain ⟨t2, e5⟩ := PySem.W.int_of_holds k2
  obtain ⟨t3, e6⟩ := PySem.W.int_of_holds h3
  obtain ⟨t4, e7⟩ := PySem.W.int_of_holds k3
  rw [e4] at e5
  rw [e6] at e7
  have q1 : x.1 = y.1 := by injection e5
  have q2 : x.2 = y.2 := by injection e7
  exact Prod.ext q1 q2
theorem cr_minP {X : Cx} (hc : X.calm = true) (hu : X.A.units + 64 < cLine) : CallR X (.builtin "min") (rMinP X.K) := by
  intro pins s σ H vs us Q I r h
  obtain ⟨a, ps, rfl, hs, hne, hp, q⟩ := h
  obtain ⟨its, rv, hl, _⟩ := I.list hs
  rw [Vals.ref1 r]
  have hh : ∀ p ∈ ps, PySem.W.Holds s.heap (.ref p.1) p.2 := fun p hm => by
    obtain ⟨_, its2, r2, o, ho, hc, n, hd⟩ := I.hok _ _ (hp p hm)
    obtain ⟨u1, u2, rfl, ri, rj⟩ := vals2 r2
    obtain ⟨t1, rfl⟩ := ri
    obtain ⟨t2, rfl⟩ := rj
    exact PySem.W.holds_pair ⟨o, ho, hc, n, hd⟩ (PySem.W.holds_int _ _) (PySem.W.holds_int _ _)
  obtain ⟨p, ps', rfl⟩ : ∃ p ps', ps = p :: ps' := by
    cases ps with
    | nil => exact absurd rfl hne
    | cons p ps' => exact ⟨p, ps', rfl⟩
  refine PySem.W.min_list_datum (x := p.2) (xs := ps'.map fun p : Addr × Int × Int => p.2) (I.ok.hd hc) hl.isList (by rw [List.toList_toArray]; exact holds_all rv hh) (by show X.A.units + 1 + (max 0 0 + 1) < cLine; omega) fun i v h' tk hi hv hk => ?_
  obtain ⟨x, hx, rx⟩ := vals_at rv (i := i) (v := v) (by simpa using hi)
  rw [List.getElem?_map] at hx
  obtain ⟨p', hp', rfl⟩ := Option.map_eq_some_iff.1 hx
  have hm := List.mem_of_getElem? hp'
  cases rx
  obtain ⟨m1, m2⟩ := minOf_ok (ps'.map fun p : Addr × Int × Int => p.2) p.2
  have e := holds_uniq (PySem.W.Holds.keeps hk (hh p' hm)) hv
  rw [← e] at m2
  refine ⟨.ref p'.1, H, I.kept hk, rfl, q p' hm fun y hy => m2 _ ?_⟩
  exact List.mem_map_of_mem (f := fun p : Addr × Int × Int => p.2) hy
theorem x_minP {K : PySem.W.Frag} {H : Hp} {Q : VK} {a : Addr} (ps : List (Addr × Int × Int)) (h : SqL K H a (ps.map fun p => V.ref p.1)) (hne : ps ≠ []) (hp : ∀ p ∈ ps, H p.1 = some (.tup [.int p.2.1, .int p.2.2])) (k : ∀ p ∈ ps, (∀ q ∈ ps, ¬ Lex q.2 p.2) → Q (.ref p.1) H) : rMinP K [.ref a] H Q := ⟨a, ps, rfl, h, hne, hp, k⟩

/-! ### lists told by a word: what stood stands, the elements are values or pairs of ints -/
section
variable {K : PySem.W.Frag} {σ : L2.St} {H : Hp} {Q : VK}
abbrev prs (ps : List (Addr × Int × Int)) : List V := ps.map fun p => V.ref p.1
def PvV (H0 : Hp) (D : Addr) (f : Nat → Bool) (v : Nat → V) (i : Nat) (H' : Hp) : Prop := H0 D = none ∧ H' D = some (.lst (((List.range i).filter f).map v)) ∧ Fr M0 H0 H'
def PvP (H0 : Hp) (D : Addr) (f : Nat → Bool) (g : Nat → Int × Int) (i : Nat) (H' : Hp) : Prop := H0 D = none ∧ ∃ ps : List (Addr × Int × Int), H' D = some (.lst (prs ps)) ∧ ps.map (fun p => p.2) = ((List.range i).filter f).map g ∧ (∀ p ∈ ps, H0 p.1 = none ∧ H' p.1 = some (.tup [.int p.2.1, .int p.2.2])) ∧ Fr M0 H0 H'
theorem flt_len (f : Nat → Bool) (n : Nat) : ((List.range n).filter f).length ≤ n := by
  have := List.length_filter_le f (List.range n)
  rwa [List.length_range] at this
theorem flt_yes {α : Type} {f : Nat → Bool} {g : Nat → α} {i : Nat} (h : f i = true) : ((List.range (i + 1)).filter f).map g = ((List.range i).filter f).map g ++ [g i] := by
  rw [List.range_succ, List.filter_append, List.map_append]
  simp [h]
theorem flt_no {α : Type} {f : Nat → Bool} {g : Nat → α} {i : Nat} (h : f i = false) : ((List.range (i + 1)).filter f).map g = ((List.range i).filter f).map g := by
  rw [List.range_succ, List.filter_append, List.map_append]
  simp [h]
theorem lcv_step {D : Addr} {f : Nat → Bool} {v : Nat → V} {i : Nat} {H' : Hp} {tt : TT} {te : TE} {σ2 : L2.St} (hi : i < 60000) (p : PvV H D f v i H')
    (ht : ∀ QB : Bool → Hp → Prop, QB (f i) H' → tt σ2 H' QB) (he : f i = true → ∀ Q : VK, Q (v i) H' → te σ2 H' Q) :
    tt σ2 H' fun b H3 => if b = true then te σ2 H3 fun y H4 => ∃ acc, H4 D = some (.lst acc) ∧ acc.length < sizeLine ∧ PvV H D f v (i + 1) (upd H4 D (.lst (acc ++ [y]))) else PvV H D f v (i + 1) H3 := by
  obtain ⟨p1, p2, p3⟩ := p
  refine ht _ ?_
  cases hf : f i with
  | true =>
    show te σ2 H' _
    refine he hf _ ⟨_, p2, sz_lt (by rw [List.length_map]; have := flt_len f i; omega), p1, ?_, p3.mut p1⟩
    rw [flt_yes hf]; exact upd_same
  | false =>
    show PvV H D f v (i + 1) H'
    exact ⟨p1, by rw [flt_no hf]; exact p2, p3⟩
theorem lcp_step {D : Addr} {f : Nat → Bool} {g : Nat → Int × Int} {i : Nat} {H' : Hp} {tt : TT} {te : TE} {σ2 : L2.St} (hi : i < 60000) (p : PvP H D f g i H')
    (ht : ∀ QB : Bool → Hp → Prop, QB (f i) H' → tt σ2 H' QB) (he : f i = true → ∀ Q : VK, (∀ q, H' q = none → Q (.ref q) (upd H' q (.tup [.int (g i).1, .int (g i).2]))) → te σ2 H' Q) :
    tt σ2 H' fun b H3 => if b = true then te σ2 H3 fun y H4 => ∃ acc, H4 D = some (.lst acc) ∧ acc.length < sizeLine ∧ PvP H D f g (i + 1) (upd H4 D (.lst (acc ++ [y]))) else PvP H D f g (i + 1) H3 := by
  obtain ⟨p1, ps, p2, p3, p4, p5⟩ := p
  have el : (prs ps).length ≤ i := by
    have := congrArg List.length p3
    rw [List.length_map, List.length_map] at this
    have := flt_len f i
    show (ps.map _).length ≤ i
    rw [List.length_map]; omega
  refine ht _ ?_
  cases hf : f i with
  | true =>
    show te σ2 H' _
    refine he hf _ fun q hq => ?_
    have nq : D ≠ q := ne_of_none p2 hq
    refine ⟨_, by rw [upd_ne nq]; exact p2, sz_lt (by omega), p1, ps ++ [(q, g i)], ?_, ?_, ?_, (p5.trans (Fr.new hq)).mut p1⟩
    · rw [upd_same]
      show some (HO.lst (prs ps ++ [V.ref q])) = some (.lst ((ps ++ [(q, g i)]).map _))
      rw [List.map_append]; rfl
    · rw [List.map_append, p3, flt_yes hf]; rfl
    · intro x hx
      rcases List.mem_append.1 hx with hx | hx
      · obtain ⟨x1, x2⟩ := p4 x hx
        have n1 : x.1 ≠ D := ne_of x2 p2 (by intro z; cases z)
        have n2 : x.1 ≠ q := ne_of_none x2 hq
        exact ⟨x1, by rw [upd_ne n1, upd_ne n2]; exact x2⟩
      · have e : x = (q, g i) := by simpa using hx
        subst e
        exact ⟨p5.free hq, by rw [upd_ne nq.symm, upd_same]⟩
  | false =>
    show PvP H D f g (i + 1) H'
    exact ⟨p1, ps, p2, by rw [flt_no hf]; exact p3, p4, p5⟩
theorem x_lcV {tl : TA} {j n : Nat} {vs : List Nat} {tt : TT} {te : TE} (f : Nat → Bool) (v : Nat → V) (hv : ∀ R : List V → Hp → Prop, R [.int n] H → tl σ H R) (hn : n ≤ 60000)
    (hw : ∀ x, wipe ((wipe σ vs).set j (some x)) vs = wipe σ vs)
    (ht : ∀ i H', i < n → Fr M0 H H' → ∀ QB : Bool → Hp → Prop, QB (f i) H' → tt ((wipe σ vs).set j (some (.int (i : Int)))) H' QB)
    (he : ∀ i H', i < n → Fr M0 H H' → f i = true → ∀ Q : VK, Q (v i) H' → te ((wipe σ vs).set j (some (.int (i : Int)))) H' Q)
    (k : ∀ D H', H D = none → H' D = some (.lst (((List.range n).filter f).map v)) → Fr M0 H H' → Q (.ref D) H') : tLc (iRng1 tl) (gName j) tt te vs σ H Q :=
  hv _ ⟨n, rfl, by omega, by omega, fun D hD => lc_range (lo := 0) (n := n) (PvV H D f v) ⟨hD, upd_same, Fr.new hD⟩ (fun i H' hi p => by
    have e0 : (0 : Int) + (i : Int) = (i : Int) := Int.zero_add _
    rw [e0]
    exact ⟨hw _, lcv_step (by omega) p (ht i H' hi p.2.2) (he i H' hi p.2.2)⟩) fun H' p => k D H' p.1 p.2.1 p.2.2⟩
theorem x_lcP {tl : TA} {j n : Nat} {vs : List Nat} {tt : TT} {te : TE} (f : Nat → Bool) (g : Nat → Int × Int) (hv : ∀ R : List V → Hp → Prop, R [.int n] H → tl σ H R) (hn : n ≤ 60000)
    (hw : ∀ x, wipe ((wipe σ vs).set j (some x)) vs = wipe σ vs)
    (ht : ∀ i H', i < n → Fr M0 H H' → ∀ QB : Bool → Hp → Prop, QB (f i) H' → tt ((wipe σ vs).set j (some (.int (i : Int)))) H' QB)
    (he : ∀ i H', i < n → Fr M0 H H' → f i = true → ∀ Q : VK, (∀ q, H' q = none → Q (.ref q) (upd H' q (.tup [.int (g i).1, .int (g i).2]))) → te ((wipe σ vs).set j (some (.int (i : Int)))) H' Q)
    (k : ∀ D H' ps, H D = none → H' D = some (.lst (prs ps)) → ps.map (fun p => p.2) = ((List.range n).filter f).map g → (∀ p ∈ ps, H p.1 = none ∧ H' p.1 = some (.tup [.int p.2.1, .int p.2.2])) → Fr M0 H H' → Q (.ref D) H') : tLc (iRng1 tl) (gName j) tt te vs σ H Q :=
  hv _ ⟨n, rfl, by omega, by omega, fun D hD => lc_range (lo := 0) (n := n) (PvP H D f g) ⟨hD, [], upd_same, rfl, (fun _ m => nomatch m), Fr.new hD⟩ (fun i H' hi p => by
    have e0 : (0 : Int) + (i : Int) = (i : Int) := Int.zero_add _
    have p5 : Fr M0 H H' := by obtain ⟨_, _, _, _, _, z⟩ := p; exact z
    rw [e0]
    exact ⟨hw _, lcp_step (by omega) p (ht i H' hi p5) (he i H' hi p5)⟩) fun H' p => by
      obtain ⟨p1, ps, p2, p3, p4, p5⟩ := p
      exact k D H' ps p1 p2 p3 p4 p5⟩
theorem x_lcVL {tl : TE} {j : Nat} {vs : List Nat} {tt : TT} {te : TE} {a : Addr} {xs : List V} (f : Nat → Bool) (v : Nat → V) (hv : ∀ R : VK, R (.ref a) H → tl σ H R) (hx : SqL K H a xs) (hn : xs.length ≤ 60000)
    (hw : ∀ x, wipe ((wipe σ vs).set j (some x)) vs = wipe σ vs)
    (ht : ∀ i x H', xs[i]? = some x → Fr M0 H H' → ∀ QB : Bool → Hp → Prop, QB (f i) H' → tt ((wipe σ vs).set j (some x)) H' QB)
    (he : ∀ i x H', xs[i]? = some x → Fr M0 H H' → f i = true → ∀ Q : VK, Q (v i) H' → te ((wipe σ vs).set j (some x)) H' Q)
    (k : ∀ D H', H D = none → H' D = some (.lst (((List.range xs.length).filter f).map v)) → Fr M0 H H' → Q (.ref D) H') : tLc (iList K tl) (gName j) tt te vs σ H Q :=
  hv _ ⟨a, rfl, ⟨xs, hx⟩, fun D hD => lc_list (xs := xs) (PvV H D f v) ⟨hD, upd_same, Fr.new hD⟩ (fun i H' _ p => sql_fr p.2.2 (fun z => z) hx) (fun i x H' hi p =>
    ⟨hw _, lcv_step (by have := (List.getElem?_eq_some_iff.mp hi).1; omega) p (ht i x H' hi p.2.2) (he i x H' hi p.2.2)⟩) fun H' p => k D H' p.1 p.2.1 p.2.2⟩
theorem x_lcPL {tl : TE} {j : Nat} {vs : List Nat} {tt : TT} {te : TE} {a : Addr} {xs : List V} (f : Nat → Bool) (g : Nat → Int × Int) (hv : ∀ R : VK, R (.ref a) H → tl σ H R) (hx : SqL K H a xs) (hn : xs.length ≤ 60000)
    (hw : ∀ x, wipe ((wipe σ vs).set j (some x)) vs = wipe σ vs)
    (ht : ∀ i x H', xs[i]? = some x → Fr M0 H H' → ∀ QB : Bool → Hp → Prop, QB (f i) H' → tt ((wipe σ vs).set j (some x)) H' QB)
    (he : ∀ i x H', xs[i]? = some x → Fr M0 H H' → f i = true → ∀ Q : VK, (∀ q, H' q = none → Q (.ref q) (upd H' q (.tup [.int (g i).1, .int (g i).2]))) → te ((wipe σ vs).set j (some x)) H' Q)
    (k : ∀ D H' ps, H D = none → H' D = some (.lst (prs ps)) → ps.map (fun p => p.2) = ((List.range xs.length).filter f).map g → (∀ p ∈ ps, H p.1 = none ∧ H' p.1 = some (.tup [.int p.2.1, .int p.2.2])) → Fr M0 H H' → Q (.ref D) H') : tLc (iList K tl) (gName j) tt te vs σ H Q :=
  hv _ ⟨a, rfl, ⟨xs, hx⟩, fun D hD => lc_list (xs := xs) (PvP H D f g) ⟨hD, [], upd_same, rfl, (fun _ m => nomatch m), Fr.new hD⟩ (fun i H' _ p => by
      obtain ⟨_, _, _, _, _, z⟩ := p; exact sql_fr z (fun z => z) hx) (fun i x H' hi p => by
    have p5 : Fr M0 H H' := by obtain ⟨_, _, _, _, _, z⟩ := p; exact z
    exact ⟨hw _, lcp_step (by have := (List.getElem?_eq_some_iff.mp hi).1; omega) p (ht i x H' hi p5) (he i x H' hi p5)⟩) fun H' p => by
      obtain ⟨p1, ps, p2, p3, p4, p5⟩ := p
      exact k D H' ps p1 p2 p3 p4 p5⟩
end
/-! ### sorted(xs) of a list of pairs -/
section
variable {K : PySem.W.Frag} {H : Hp} {Q : VK} {a : Addr}
def keyH (H : Hp) : V → Int × Int
  | .ref t => match H t with
    | some (.tup [.int i, .int j]) => (i, j)
    | _ => (0, 0)
  | _ => (0, 0)
def adr : V → Addr
  | .ref t => t
  | _ => 0
theorem keyH_at {t : Addr} {x : Int × Int} (h : H t = some (.tup [.int x.1, .int x.2])) : keyH H (.ref t) = x := by
  show (match H t with | some (.tup [.int i, .int j]) => (i, j) | _ => (0, 0)) = x
  rw [h]
theorem x_sortP (ps : List (Addr × Int × Int)) (h : SqL K H a (prs ps)) (hp : ∀ p ∈ ps, H p.1 = some (.tup [.int p.2.1, .int p.2.2]))
    (k : ∀ qs b, qs.Perm ps → qs.Pairwise (fun x y => ¬ Lex y.2 x.2) → H b = none → Q (.ref b) (upd H b (.lst (prs qs)))) : rSortedPO K [.ref a] H Q := by
  refine ⟨a, prs ps, keyH H, rfl, h, fun x hx => ?_, fun ys b h1 h2 hb => ?_⟩
  · obtain ⟨p, hm, rfl⟩ := List.mem_map.1 hx
    refine ⟨p.1, rfl, ?_⟩
    rw [keyH_at (hp p hm)]; exact hp p hm
  · have back : (prs ps).map (fun x => (adr x, keyH H x)) = ps := by
      show (ps.map fun p => V.ref p.1).map _ = ps
      rw [List.map_map]
      refine (List.map_congr_left fun p hm => ?_).trans (List.map_id ps)
      show (p.1, keyH H (.ref p.1)) = p
      rw [keyH_at (hp p hm)]
    have e : prs (ys.map fun x => (adr x, keyH H x)) = ys := by
      show (ys.map fun x => (adr x, keyH H x)).map (fun p => V.ref p.1) = ys
      rw [List.map_map]
      refine (List.map_congr_left fun y hy => ?_).trans (List.map_id ys)
      obtain ⟨p, hm, rfl⟩ := List.mem_map.1 (h2.perm.mem_iff.1 hy)
      rfl
    have := k (ys.map fun x => (adr x, keyH H x)) b (by
      have := h2.perm.map (fun x => (adr x, keyH H x))
      rwa [back] at this) (List.pairwise_map.2 (h1.imp fun {x y} z => by
        have := SrtO.lexB_no.1 z
        exact this)) hb
    rwa [e] at this
end
/-! ### a method called within a try: what it raises is wished for at the slots as they stand -/
def tMethE (C : Addr) (m : Str) (sp : Sp) (E : L2.St → XK) (ta : TE) (t : TA) : TE := fun σ H Q => ta σ H fun x H1 => ∃ a dx fs, x = .ref a ∧ H1 a = some (.ins C dx fs) ∧ fs.lookup m = none ∧ t σ H1 fun vs H2 => sp (x :: vs) H2 Q (E σ)
theorem pe_methE {X : Cx} {CX : CXT} {k : Nat} {f C : Addr} {fd : FuncData} {ps : List Str} {sp : Sp} {E : L2.St → XK} {m : Str} {pos apos : Pos} {e o : Expr} {es : List Expr} {ta : TE} {t : TA} {pl : Sem Bool} (he : PE X o ta) (c : Cls X.K C) (hm : Meth X.K C m f)
    (F : FnOk X.prog X.w X.K X.mg X.base CX k f fd ps sp) (hr : Room k X.A) (hb : L2.Binds X.K fd ps []) (hx : ∀ σ, PassesAt CX X σ (E σ)) (ha : PA X (e :: es) t)
    (hst : starEach (e :: es) X.env = (false, eval e X.env) :: starEach es X.env := by rfl) (hpl : (backTo pos (starEach es X.env)).any (·.1) = false := by rfl)
    (ht : eval (.Call (.Attribute o m apos) (e :: es) [] pos) X.env = (do
      let ov ← eval o X.env
      standAt apos.atName
      let (f, first) ← holding [ov] (getMethod ov m pl)
      callWith pos f first (backTo pos (starEach (e :: es) X.env)) (backToKw pos (keywordEach [] X.env))) := by rfl) :
    PE X (.Call (.Attribute o m apos) (e :: es) [] pos) (tMethE C m sp E ta t) := by
  refine ⟨fun pins s σ H Q I h => ?_⟩
  refine PySem.W.methodCall_KW (pl := pl) (thn (he.run pins s σ H _ I h) fun u s1 ⟨x, H1, I1, rx, a, dx, fs, ex, ea, l, q⟩ => ?_) ht
  subst ex
  obtain rfl : u = Value.ref a := rx
  refine getmeth_ok I1 ea c hm l ?_
  refine PySem.W.callWith_K (first := [.ref a]) (h₀ := X.base) I.ok.mod.kin hm.kp (thn (ha.run pos pins s1 σ H1 _ I1 q) fun us s2 ⟨vs, H2, I2, r, q2⟩ => ⟨I2.kIn, ?_⟩) hst hpl
  exact run_fnS (us := .ref a :: us) (vs := .ref a :: vs) F hr hb (hx σ) I2 (.cons rfl r) q2
theorem exm_of {K : PySem.W.Frag} {S C : Addr} {b : Bool} (h1 : PySem.W.subIn K (.ref C) (.type "BaseException") = some true) (h2 : PySem.W.isClsIn K C = true) (h3 : PySem.W.typeIn K (.ref C) = some (.type "type")) (h4 : PySem.W.subIn K (.ref S) (.ref C) = some b) :
    PySem.W.exmOne K (.ref S) (.ref C) = some b := by
  have e1 : (PySem.W.subIn K (.ref C) (.type "BaseException") == some true) = true := by rw [h1] <;> rfl
  have e2 : ((PySem.W.clsIn K C).isSome && PySem.W.typeIn K (.ref C) == some (.type "type")) = true := by
    have h2' : (PySem.W.clsIn K C).isSome = true := h2
    rw [h2', h3] <;> rfl
  show (if (PySem.W.subIn K (.ref C) (.type "BaseException") == some true) = true then (if ((PySem.W.clsIn K C).isSome && PySem.W.typeIn K (.ref C) == some (.type "type")) = true then PySem.W.subIn K (.ref S) (.ref C) else none) else none) = some b
  rw [if_pos e1, if_pos e2]
  exact h4
section
variable {K : PySem.W.Frag} {σ : L2.St} {H : Hp} {Q : VK} {D : Ends}
theorem x_methE {C : Addr} {m : Str} {sp : Sp} {E : L2.St → XK} {ta : TE} {tl : TA} (k : ta σ H fun x H1 => ∃ a dx fs, x = .ref a ∧ H1 a = some (.ins C dx fs) ∧ fs.lookup m = none ∧ tl σ H1 fun vs H2 => sp (x :: vs) H2 Q (E σ)) : tMethE C m sp E ta tl σ H Q := k
theorem x_try1 {c : Value} {tb : WX → TS} {ts : TS} (k : tb (wOnly K c (fun _ _ _ => ts) (fun _ _ _ _ => False) D) D σ H) : tTry1 K c tb ts D σ H := k
/-- what is raised is caught -/
theorem w_catch {c cls : Value} {d : Option Addr} {ts : TS} {W : WX} (h : PySem.W.exmOne K cls c = some true) (k : ts D σ H) : WE (wOnly K c (fun _ _ _ => ts) W D) σ cls d H := ⟨true, h, (fun _ _ _ => k), (fun z => nomatch z)⟩
end
end G

/-! order and leaning of trees, in plain Lean -/
namespace G
def Hord (ws : List Int) : Tr → Prop
  | .nil => True
  | .node i l r => (∀ j ∈ l.nodes, Les ws i j) ∧ (∀ j ∈ r.nodes, Les ws i j) ∧ Hord ws l ∧ Hord ws r
def Lft : Tr → Prop
  | .nil => True
  | .node _ l r => r.run ≤ l.run ∧ Lft l ∧ Lft r
theorem hord_side {ws : List Int} {i : Nat} {l r : Tr} (h : Hord ws (.node i l r)) : Hord ws (side i l r) := by
  unfold side
  split
  · exact ⟨h.2.1, h.1, h.2.2.2, h.2.2.1⟩
  · exact h
theorem lft_side {i : Nat} {l r : Tr} (hl : Lft l) (hr : Lft r) : Lft (side i l r) := by
  unfold side
  split
  · exact ⟨by omega, hr, hl⟩
  · exact ⟨by omega, hl, hr⟩
theorem Hord.least {ws : List Int} {t : Tr} {i j : Nat} (h : Hord ws t) (ht : t.top = some i) (hj : j ∈ t.nodes) : j = i ∨ Les ws i j := by
  cases t with
  | nil => cases ht
  | node k l r =>
    have e : k = i := Option.some.inj ht
    subst e
    rcases List.mem_cons.1 hj with e | m
    · exact .inl e
    · rcases List.mem_append.1 m with m | m
      · exact .inr (h.1 j m)
      · exact .inr (h.2.1 j m)
theorem hord_mrg {ws : List Int} : ∀ {t u : Tr}, Hord ws t → Hord ws u → (∀ i ∈ t.nodes, i ∉ u.nodes) → Hord ws (mrg ws t u)
  | .nil, u, _, h, _ => by rw [mrg_nil]; exact h
  | .node a la ra, .nil, h, _, _ => by rw [mrg_nil']; exact h
  | .node a la ra, .node b lb rb, ht, hu, nd => by
    by_cases h : Les ws b a
    · rw [mrg_l h]
      refine hord_side ⟨hu.1, fun j m => ?_, hu.2.2.1, hord_mrg (t := rb) (u := .node a la ra) hu.2.2.2 ht fun i m m' => nd i m' (mem_r m)⟩
      rcases mrg_mem.1 m with m | m
      · exact hu.2.1 j m
      · rcases ht.least rfl m with e | m
        · rw [e]; exact h
        · exact h.trans m
    · have h' : Les ws a b := Les.conn h fun e => nd a mem_i (by rw [← e]; exact mem_i)
      rw [mrg_r h]
      refine hord_side ⟨ht.1, fun j m => ?_, ht.2.2.1, hord_mrg (t := ra) (u := .node b lb rb) ht.2.2.2 hu fun i m m' => nd i (mem_r m) m'⟩
      rcases mrg_mem.1 m with m | m
      · exact ht.2.1 j m
      · rcases hu.least rfl m with e | m
        · rw [e]; exact h'
        · exact h'.trans m
termination_by t u => t.size + u.size
decreasing_by
  · simp only [Tr.size]; omega
  · simp only [Tr.size]; omega
theorem lft_mrg {ws : List Int} : ∀ {t u : Tr}, Lft t → Lft u → Lft (mrg ws t u)
  | .nil, u, _, h => by rw [mrg_nil]; exact h
  | .node a la ra, .nil, h, _ => by rw [mrg_nil']; exact h
  | .node a la ra, .node b lb rb, ht, hu => by
    by_cases h : Les ws b a
    · rw [mrg_l h]
      exact lft_side hu.2.1 (lft_mrg (t := rb) (u := .node a la ra) hu.2.2 ht)
    · rw [mrg_r h]
      exact lft_side ht.2.1 (lft_mrg (t := ra) (u := .node b lb rb) ht.2.2 hu)
termination_by t u => t.size + u.size
decreasing_by
  · simp only [Tr.size]; omega
  · simp only [Tr.size]; omega
theorem les_congr {ws ws' : List Int} {i j : Nat} (hi : wt ws' i = wt ws i) (hj : wt ws' j = wt ws j) : Les ws' i j ↔ Les ws i j := by unfold Les; rw [hi, hj]
theorem hord_congr {ws ws' : List Int} : ∀ {t : Tr}, (∀ i ∈ t.nodes, wt ws' i = wt ws i) → Hord ws t → Hord ws' t
  | .nil, _, _ => trivial
  | .node i l r, h, ho => ⟨fun j m => (les_congr (h i mem_i) (h j (mem_l m))).2 (ho.1 j m), fun j m => (les_congr (h i mem_i) (h j (mem_r m))).2 (ho.2.1 j m), hord_congr (fun j m => h j (mem_l m)) ho.2.2.1, hord_congr (fun j m => h j (mem_r m)) ho.2.2.2⟩
/-! a part in its place -/
theorem hord_put1 {ws : List Int} {f : Frm} {s : Tr} : Hord ws (put1 f s) ↔ (∀ j ∈ s.nodes, Les ws f.1 j) ∧ (∀ j ∈ f.2.2.nodes, Les ws f.1 j) ∧ Hord ws s ∧ Hord ws f.2.2 := by
  obtain ⟨i, b, t⟩ := f
  cases b with
  | true => exact Iff.rfl
  | false => exact ⟨fun h => ⟨h.2.1, h.1, h.2.2.2, h.2.2.1⟩, fun h => ⟨h.2.1, h.1, h.2.2.2, h.2.2.1⟩⟩
theorem hord_side1 {ws : List Int} {f : Frm} {s : Tr} (h : Hord ws (put1 f s)) : Hord ws (side1 f s) := by
  obtain ⟨i, b, t⟩ := f
  cases b with
  | true => exact hord_side h
  | false => exact hord_side h
theorem put1_mem {f : Frm} {s : Tr} {j : Nat} : j ∈ (put1 f s).nodes ↔ j ∈ s.nodes ∨ j ∈ fnodes f := by rw [put1_perm.mem_iff, List.mem_append]
theorem side1_mem {f : Frm} {s : Tr} {j : Nat} : j ∈ (side1 f s).nodes ↔ j ∈ s.nodes ∨ j ∈ fnodes f := by rw [side1_perm.mem_iff, List.mem_append]
theorem hord_fill {ws : List Int} : ∀ {c : List Frm} {s : Tr}, Hord ws (fill c s) → Hord ws s ∧ ∀ g ∈ c, ∀ j ∈ s.nodes, Les ws g.1 j
  | [], s, h => ⟨h, (fun _ m => nomatch m)⟩
  | f :: c, s, h => by
    obtain ⟨h1, h2⟩ := hord_fill (c := c) (s := put1 f s) h
    obtain ⟨p1, p2, p3, p4⟩ := hord_put1.1 h1
    refine ⟨p3, fun g m j mj => ?_⟩
    rcases List.mem_cons.1 m with e | m
    · rw [e]; exact p1 j mj
    · exact h2 g m j (put1_mem.2 (.inl mj))
/-- another part with no more nodes -/
theorem hord_swap {ws : List Int} : ∀ {c : List Frm} {s s' : Tr}, Hord ws (fill c s) → Hord ws s' → (∀ j ∈ s'.nodes, j ∈ s.nodes) → Hord ws (fill c s')
  | [], _, _, _, h, _ => h
  | f :: c, s, s', h, h', m => by
    obtain ⟨p1, p2, p3, p4⟩ := hord_put1.1 (hord_fill (c := c) (s := put1 f s) h).1
    refine hord_swap (c := c) (s := put1 f s) (s' := put1 f s') h (hord_put1.2 ⟨fun j mj => p1 j (m j mj), p2, h', p4⟩) fun j mj => ?_
    rcases put1_mem.1 mj with mj | mj
    · exact put1_mem.2 (.inl (m j mj))
    · exact put1_mem.2 (.inr mj)
theorem hord_rise {ws : List Int} : ∀ {c : List Frm} {old : Nat} {s s' : Tr}, Hord ws (fill c s) → Hord ws s' → (∀ j ∈ s'.nodes, j ∈ s.nodes) → Hord ws (rise c old s').1
  | [], _, _, _, _, h, _ => h
  | f :: c, old, s, s', h, h', m => by
    obtain ⟨p1, p2, p3, p4⟩ := hord_put1.1 (hord_fill (c := c) (s := put1 f s) h).1
    have hs : Hord ws (side1 f s') := hord_side1 (hord_put1.2 ⟨fun j mj => p1 j (m j mj), p2, h', p4⟩)
    have hm : ∀ j ∈ (side1 f s').nodes, j ∈ (put1 f s).nodes := fun j mj => by
      rcases side1_mem.1 mj with mj | mj
      · exact put1_mem.2 (.inl (m j mj))
      · exact put1_mem.2 (.inr mj)
    unfold rise
    split
    · exact hord_rise (c := c) (s := put1 f s) h hs hm
    · exact hord_swap (c := c) (s := put1 f s) h hs hm
theorem lft_put1 {f : Frm} {s : Tr} : Lft (put1 f s) ↔ (if f.2.1 then f.2.2.run ≤ s.run else s.run ≤ f.2.2.run) ∧ Lft s ∧ Lft f.2.2 := by
  obtain ⟨i, b, t⟩ := f
  cases b with
  | true => exact Iff.rfl
  | false => exact ⟨fun h => ⟨h.1, h.2.2, h.2.1⟩, fun h => ⟨h.1, h.2.2, h.2.1⟩⟩
theorem lft_side1 {f : Frm} {s : Tr} (h : Lft s) (h' : Lft f.2.2) : Lft (side1 f s) := by
  unfold side1
  split
  · exact lft_side h h'
  · exact lft_side h' h
theorem lft_fill : ∀ {c : List Frm} {s : Tr}, Lft (fill c s) → Lft s
  | [], _, h => h
  | f :: c, s, h => (lft_put1.1 (lft_fill (c := c) (s := put1 f s) h)).2.1
theorem oldRun_eq {f : Frm} {s s' : Tr} (h : s.run = s'.run) : (put1 f s).run = (put1 f s').run := by rw [put1_run, put1_run, h]
theorem lft_swap : ∀ {c : List Frm} {s s' : Tr}, Lft (fill c s) → Lft s' → s'.run = s.run → Lft (fill c s')
  | [], _, _, _, h, _ => h
  | f :: c, s, s', h, h', e => by
    obtain ⟨p1, p2, p3⟩ := lft_put1.1 (lft_fill (c := c) (s := put1 f s) h)
    exact lft_swap (c := c) (s := put1 f s) (s' := put1 f s') h (lft_put1.2 ⟨by rw [e]; exact p1, h', p3⟩) (oldRun_eq e)
theorem lft_rise : ∀ {c : List Frm} {s s' : Tr}, Lft (fill c s) → Lft s' → Lft (rise c s.run s').1
  | [], _, _, _, h => h
  | f :: c, s, s', h, h' => by
    have p := lft_fill (c := c) (s := put1 f s) h
    have hs : Lft (side1 f s') := lft_side1 h' (lft_put1.1 p).2.2
    unfold rise
    split
    · rw [← put1_run]; exact lft_rise (c := c) (s := put1 f s) h hs
    · rename_i e
      have e' : (side1 f s').run = (put1 f s).run := by rw [put1_run]; exact Decidable.not_not.1 e
      exact lft_swap (c := c) (s := put1 f s) h hs e'
/-! a field whose trees are good ones -/
structure FS.Good (fs : FS) : Prop where
  ok : fs.Ok
  ho : ∀ t ∈ fs.ts, Hord fs.ws t
  lf : ∀ t ∈ fs.ts, Lft t
theorem FS.Good.hord {fs : FS} (g : fs.Good) (k : Nat) : Hord fs.ws (fs.tree k) := by
  unfold FS.tree
  rw [List.getD_eq_getElem?_getD]
  cases e : fs.ts[k]? with
  | none => trivial
  | some t => exact g.ho t (List.mem_of_getElem? e)
theorem FS.Good.lft {fs : FS} (g : fs.Good) (k : Nat) : Lft (fs.tree k) := by
  unfold FS.tree
  rw [List.getD_eq_getElem?_getD]
  cases e : fs.ts[k]? with
  | none => trivial
  | some t => exact g.lf t (List.mem_of_getElem? e)
theorem FS.Good.empty : FS.Good ⟨[], [], 0⟩ := ⟨⟨List.nodup_nil, (fun _ m => nomatch m)⟩, (fun _ m => nomatch m), (fun _ m => nomatch m)⟩
theorem FS.Good.addHeap {fs : FS} (g : fs.Good) : fs.addHeap.Good := by
  refine ⟨g.ok.addHeap, fun t m => ?_, fun t m => ?_⟩
  · rcases List.mem_append.1 m with m | m
    · exact g.ho t m
    · have e : t = .nil := by simpa using m
      rw [e]; trivial
  · rcases List.mem_append.1 m with m | m
    · exact g.lf t m
    · have e : t = .nil := by simpa using m
      rw [e]; trivial
theorem wt_app {ws : List Int} {w : Int} {i : Nat} (h : i < ws.length) : wt (ws ++ [w]) i = wt ws i := by
  unfold wt
  rw [List.getD_eq_getElem?_getD, List.getD_eq_getElem?_getD, List.getElem?_append_left h]
theorem wt_new {ws : List Int} {w : Int} : wt (ws ++ [w]) ws.length = w := by
  unfold wt
  rw [List.getD_eq_getElem?_getD, List.getElem?_append_right (Nat.le_refl _)]; simp
theorem wt_set {ws : List Int} {w : Int} {i : Nat} (h : i < ws.length) : wt (ws.set i w) i = w := by
  unfold wt
  rw [List.getD_eq_getElem?_getD, List.getElem?_set_self h]; rfl
theorem wt_set_ne {ws : List Int} {w : Int} {i j : Nat} (h : j ≠ i) : wt (ws.set i w) j = wt ws j := by
  unfold wt
  rw [List.getD_eq_getElem?_getD, List.getD_eq_getElem?_getD, List.getElem?_set_ne (fun e => h e.symm)]
theorem mem_all {ts : List Tr} {t : Tr} (h : t ∈ ts) {i : Nat} (m : i ∈ t.nodes) : i ∈ ts.flatMap Tr.nodes := List.mem_flatMap.2 ⟨t, h, m⟩
theorem set_mem {ts : List Tr} {k : Nat} {T t : Tr} (h : t ∈ ts.set k T) : t = T ∨ t ∈ ts := by
  rcases List.mem_or_eq_of_mem_set h with h | h
  · exact .inr h
  · exact .inl h
theorem set_at {ts : List Tr} {k : Nat} {T t : Tr} (h : t ∈ ts.set k T) : t = T ∨ ∃ q, q ≠ k ∧ ts[q]? = some t := by
  obtain ⟨q, hq⟩ := List.mem_iff_getElem?.1 h
  by_cases e : q = k
  · subst e
    rw [List.getElem?_set] at hq
    simp only [if_true] at hq
    split at hq
    · exact .inl (Option.some.inj hq).symm
    · cases hq
  · rw [List.getElem?_set_ne (fun z => e z.symm)] at hq
    exact .inr ⟨q, e, hq⟩
theorem FS.tree_eq {fs : FS} {q : Nat} {t : Tr} (h : fs.ts[q]? = some t) : fs.tree q = t := by
  unfold FS.tree
  rw [List.getD_eq_getElem?_getD, h]; rfl
theorem FS.Good.put {fs : FS} (g : fs.Good) {k : Nat} {w : Int} (hk : k < fs.ts.length) : (fs.put k w).Good := by
  have old : ∀ t ∈ fs.ts, Hord (fs.ws ++ [w]) t := fun t m => hord_congr (fun i mi => wt_app (g.ok.lt i (mem_all m mi))) (g.ho t m)
  have mt := List.mem_of_getElem? (FS.tree_at hk)
  refine ⟨g.ok.put hk, fun t m => ?_, fun t m => ?_⟩
  · rcases set_mem m with e | m
    · rw [e]
      refine hord_mrg (old _ mt) ⟨(fun _ z => nomatch z), (fun _ z => nomatch z), trivial, trivial⟩ fun i mi mi' => ?_
      have e' : i = fs.ws.length := by simpa [Tr.nodes] using mi'
      have := g.ok.lt i (FS.all_tree mi)
      omega
    · exact old t m
  · rcases set_mem m with e | m
    · rw [e]; exact lft_mrg (g.lf _ mt) ⟨Nat.le_refl _, trivial, trivial⟩
    · exact g.lf t m
theorem FS.Good.take {fs : FS} (g : fs.Good) {k i : Nat} {l r : Tr} (hk : k < fs.ts.length) (e : fs.tree k = .node i l r) : (fs.take k).Good := by
  have ew : fs.take k = { fs with ts := fs.ts.set k (mrg fs.ws l r), sp := cnt fs.ws l r } := by unfold FS.take; rw [e]
  have ho := g.hord k
  have lf := g.lft k
  have nd := FS.tree_nodup g.ok (k := k)
  rw [e] at ho lf nd
  obtain ⟨n1, n2⟩ := List.nodup_cons.1 nd
  refine ⟨g.ok.take hk e, ?_, ?_⟩
  · rw [ew]
    intro t m
    rcases set_mem m with e | m
    · rw [e]; exact hord_mrg ho.2.2.1 ho.2.2.2 fun i m m' => (List.nodup_append.1 n2).2.2 i m i m' rfl
    · exact g.ho t m
  · rw [ew]
    intro t m
    rcases set_mem m with e | m
    · rw [e]; exact lft_mrg lf.2.1 lf.2.2
    · exact g.lf t m
theorem FS.Good.pour {fs : FS} (g : fs.Good) {k m : Nat} (hk : k < fs.ts.length) (hm : m < fs.ts.length) (n : k ≠ m) : (fs.pour k m).Good := by
  refine ⟨g.ok.pour hk hm n, fun t mt => ?_, fun t mt => ?_⟩
  · rcases set_mem mt with e | mt
    · rw [e]; exact hord_mrg (g.hord k) (g.hord m) fun i m m' => FS.apart g.ok n m m'
    · rcases set_mem mt with e | mt
      · rw [e]; trivial
      · exact g.ho t mt
  · rcases set_mem mt with e | mt
    · rw [e]; exact lft_mrg (g.lft k) (g.lft m)
    · rcases set_mem mt with e | mt
      · rw [e]; trivial
      · exact g.lf t mt
/-- a thing that gets lesser keeps the order at and below it -/
theorem hord_less {ws : List Int} {i : Nat} {w : Int} {s : Tr} (hi : s.top = some i) (h : Hord ws s) (nd : s.nodes.Nodup) (il : i < ws.length) (hw : w ≤ wt ws i) : Hord (ws.set i w) s := by
  cases s with
  | nil => cases hi
  | node k l r =>
    have e : k = i := Option.some.inj hi
    subst e
    obtain ⟨n1, n2⟩ := List.nodup_cons.1 nd
    have nl : ∀ j ∈ l.nodes, j ≠ k := fun j m e => n1 (by rw [← e]; exact List.mem_append_left _ m)
    have nr : ∀ j ∈ r.nodes, j ≠ k := fun j m e => n1 (by rw [← e]; exact List.mem_append_right _ m)
    have key : ∀ j, j ≠ k → Les ws k j → Les (ws.set k w) k j := fun j n h => by
      unfold Les at *
      rw [wt_set il, wt_set_ne n]
      omega
    exact ⟨fun j m => key j (nl j m) (h.1 j m), fun j m => key j (nr j m) (h.2.1 j m), hord_congr (fun j m => wt_set_ne (nl j m)) h.2.2.1, hord_congr (fun j m => wt_set_ne (nr j m)) h.2.2.2⟩
theorem hord_stay {ws ws' : List Int} {i : Nat} : ∀ {c : List Frm} {s : Tr}, Hord ws (fill c s) → Hord ws' s → (∀ j, j ≠ i → wt ws' j = wt ws j) → i ∉ knodes c → (∀ g ∈ c, Les ws' g.1 i) → Hord ws' (fill c s)
  | [], _, _, h, _, _, _ => h
  | f :: c, s, h, h', he, ni, hc => by
    obtain ⟨p1, p2, p3, p4⟩ := hord_put1.1 (hord_fill (c := c) (s := put1 f s) h).1
    have nf : ∀ j ∈ fnodes f, j ≠ i := fun j m e => ni (by rw [← e]; exact List.mem_append_left _ m)
    have ef : wt ws' f.1 = wt ws f.1 := he _ (nf _ List.mem_cons_self)
    refine hord_stay (c := c) (s := put1 f s) h (hord_put1.2 ⟨fun j m => ?_, fun j m => ?_, h', ?_⟩) he (fun m => ni (List.mem_append_right _ m)) fun g m => hc g (List.mem_cons_of_mem _ m)
    · by_cases e : j = i
      · rw [e]; exact hc f List.mem_cons_self
      · exact (les_congr ef (he j e)).2 (p1 j m)
    · exact (les_congr ef (he j (nf j (List.mem_cons_of_mem _ m)))).2 (p2 j m)
    · exact hord_congr (fun j m => he j (nf j (List.mem_cons_of_mem _ m))) p4
theorem SinkTo.good {fs fs' : FS} {i : Nat} {w : Int} (h : SinkTo fs i w fs') (g : fs.Good) (hw : w ≤ wt fs.ws i) : fs'.Good := by
  have ok := h.ok g.ok
  have other : ∀ {k : Nat}, i ∈ (fs.tree k).nodes → ∀ t ∈ fs.ts, t ≠ fs.tree k → Hord (fs.ws.set i w) t := fun {k} mi t mt n => by
    refine hord_congr (fun j mj => wt_set_ne fun e => ?_) (g.ho t mt)
    subst e
    obtain ⟨q, hq, et⟩ := List.mem_iff_getElem.1 mt
    have et' : fs.tree q = t := by
      have := FS.tree_at (fs := fs) hq
      rw [List.getElem?_eq_getElem hq] at this
      rw [← et]; exact (Option.some.inj this).symm
    by_cases eq : q = k
    · exact n (by rw [← et', eq])
    · exact FS.apart g.ok eq (by rw [et']; exact mj) mi
  cases h with
  | @top h s hh e ht =>
    have mi : i ∈ (fs.tree h).nodes := by rw [e]; exact Tr.top_mem ht
    have il := g.ok.lt i (FS.all_tree mi)
    refine ⟨ok, fun t mt => ?_, g.lf⟩
    by_cases n : t = fs.tree h
    · rw [n]; exact hord_less (by rw [e]; exact ht) (g.hord h) (FS.tree_nodup g.ok) il hw
    · exact other mi t mt n
  | @stay h f c s hh e ht l =>
    have mi : i ∈ (fs.tree h).nodes := by rw [e]; exact (fill_perm.mem_iff).2 (List.mem_append_left _ (Tr.top_mem ht))
    have il := g.ok.lt i (FS.all_tree mi)
    refine ⟨ok, fun t mt => ?_, g.lf⟩
    by_cases n : t = fs.tree h
    · have ho := g.hord h
      have nd := FS.tree_nodup g.ok (k := h)
      rw [n, e]
      rw [e] at ho nd
      have nd' := (fill_perm (c := f :: c) (s := s)).nodup_iff.1 nd
      obtain ⟨n1, n2, n3⟩ := List.nodup_append.1 nd'
      have ni : i ∉ knodes (f :: c) := fun m => n3 i (Tr.top_mem ht) i m rfl
      obtain ⟨h1, h2⟩ := hord_fill ho
      refine hord_stay ho (hord_less ht h1 n1 il hw) (fun j n => wt_set_ne n) ni fun g' m => ?_
      rcases List.mem_cons.1 m with e | m
      · rw [e]; exact l
      · have h3 := (hord_fill (c := c) (s := put1 f s) ho).2 g' m f.1 (put1_mem.2 (.inr List.mem_cons_self))
        have nf : f.1 ≠ i := fun z => ni (by rw [← z]; exact List.mem_append_left _ List.mem_cons_self)
        have ng : g'.1 ≠ i := fun z => ni (by rw [← z]; exact List.mem_append_right _ (List.mem_flatMap.2 ⟨g', m, List.mem_cons_self⟩))
        exact ((les_congr (wt_set_ne ng) (wt_set_ne nf)).2 h3).trans l
    · exact other mi t mt n
  | @move h f c s hh e ht l =>
    have mi : i ∈ (fs.tree h).nodes := by rw [e]; exact (fill_perm.mem_iff).2 (List.mem_append_left _ (Tr.top_mem ht))
    have il := g.ok.lt i (FS.all_tree mi)
    have ho := g.hord h
    have lf := g.lft h
    have nd := FS.tree_nodup g.ok (k := h)
    rw [e] at ho lf nd
    have nd' := (fill_perm (c := f :: c) (s := s)).nodup_iff.1 nd
    obtain ⟨n1, n2, n3⟩ := List.nodup_append.1 nd'
    have ni : i ∉ knodes (f :: c) := fun m => n3 i (Tr.top_mem ht) i m rfl
    have hrm : ∀ j ∈ (rise (f :: c) s.run .nil).1.nodes, j ∈ knodes (f :: c) := fun j m => by
      have := (rise_perm (c := f :: c) (old := s.run) (s := .nil)).mem_iff.1 m
      exact this
    have h1 := (hord_fill ho).1
    refine ⟨ok, fun t mt => ?_, fun t mt => ?_⟩
    · rcases set_at mt with et | mt
      · rw [et]
        refine hord_mrg (hord_congr (fun j m => wt_set_ne fun z => ni (by rw [← z]; exact hrm j m)) (hord_rise (s := s) ho trivial (fun _ m => nomatch m))) (hord_less ht h1 n1 il hw) fun j m m' => ?_
        exact n3 j m' j (hrm j m) rfl
      · obtain ⟨q, nq, hq⟩ := mt
        refine hord_congr (fun j mj => wt_set_ne fun e => ?_) (g.ho t (List.mem_of_getElem? hq))
        subst e
        exact FS.apart g.ok nq (by rw [FS.tree_eq hq]; exact mj) mi
    · rcases set_mem mt with et | mt
      · rw [et]
        exact lft_mrg (lft_rise lf trivial) (lft_fill lf)
      · exact g.lf t mt
/-! whose heap a thing is of, by deeds -/
theorem FS.home_iff {fs : FS} (o : fs.Ok) {j h : Nat} : fs.home j = some h ↔ j ∈ (fs.tree h).nodes := ⟨fun e => (FS.home_at e).2, FS.home_of o⟩
theorem opt_ext {a b : Option Nat} (h : ∀ x, a = some x ↔ b = some x) : a = b := Option.ext h
theorem FS.tree_set {ts : List Tr} {k h : Nat} {T : Tr} (hk : k < ts.length) : (ts.set k T).getD h .nil = if h = k then T else ts.getD h .nil := by
  rw [List.getD_eq_getElem?_getD, List.getD_eq_getElem?_getD]
  by_cases e : h = k
  · subst e; rw [if_pos rfl, List.getElem?_set_self hk]; rfl
  · rw [if_neg e, List.getElem?_set_ne (fun z => e z.symm)]
theorem FS.put_tree {fs : FS} {k h : Nat} {w : Int} (hk : k < fs.ts.length) : (fs.put k w).tree h = if h = k then mrg (fs.ws ++ [w]) (fs.tree k) (.node fs.ws.length .nil .nil) else fs.tree h := FS.tree_set hk
theorem FS.home_put {fs : FS} (o : fs.Ok) {k : Nat} {w : Int} (hk : k < fs.ts.length) (j : Nat) : (fs.put k w).home j = if j = fs.ws.length then some k else fs.home j := by
  refine opt_ext fun h => ?_
  rw [FS.home_iff (o.put hk), FS.put_tree hk]
  have nw : ∀ {h}, fs.ws.length ∈ (fs.tree h).nodes → False := fun m => by have := o.lt _ (FS.all_tree m); omega
  by_cases e : j = fs.ws.length
  · rw [if_pos e, e]
    by_cases eh : h = k
    · rw [if_pos eh, eh, mrg_mem]
      exact ⟨fun _ => rfl, fun _ => .inr List.mem_cons_self⟩
    · rw [if_neg eh]
      exact ⟨fun m => (nw m).elim, fun z => absurd (Option.some.inj z).symm eh⟩
  · rw [if_neg e, FS.home_iff o]
    by_cases eh : h = k
    · rw [if_pos eh, eh, mrg_mem]
      refine ⟨fun m => ?_, .inl⟩
      rcases m with m | m
      · exact m
      · exact absurd (by simpa [Tr.nodes] using m) e
    · rw [if_neg eh]
theorem FS.take_eq {fs : FS} {k i : Nat} {l r : Tr} (e : fs.tree k = .node i l r) : fs.take k = { fs with ts := fs.ts.set k (mrg fs.ws l r), sp := cnt fs.ws l r } := by unfold FS.take; rw [e]
theorem FS.take_tree {fs : FS} {k h i : Nat} {l r : Tr} (hk : k < fs.ts.length) (e : fs.tree k = .node i l r) : (fs.take k).tree h = if h = k then mrg fs.ws l r else fs.tree h := by
  rw [FS.take_eq e]; exact FS.tree_set hk
theorem FS.home_take {fs : FS} (o : fs.Ok) {k i : Nat} {l r : Tr} (hk : k < fs.ts.length) (e : fs.tree k = .node i l r) (j : Nat) : (fs.take k).home j = if j = i then none else fs.home j := by
  have mi : i ∈ (fs.tree k).nodes := by rw [e]; exact mem_i
  have nd := FS.tree_nodup o (k := k)
  rw [e] at nd
  obtain ⟨n1, n2⟩ := List.nodup_cons.1 nd
  refine opt_ext fun h => ?_
  rw [FS.home_iff (o.take hk e), FS.take_tree hk e]
  by_cases ej : j = i
  · rw [if_pos ej, ej]
    by_cases eh : h = k
    · rw [if_pos eh, mrg_mem]
      exact ⟨fun m => absurd (List.mem_append.2 m) n1, fun z => nomatch z⟩
    · rw [if_neg eh]
      exact ⟨fun m => (FS.apart o eh m mi).elim, fun z => nomatch z⟩
  · rw [if_neg ej, FS.home_iff o]
    by_cases eh : h = k
    · rw [if_pos eh, eh, e, mrg_mem]
      refine ⟨fun m => List.mem_cons_of_mem _ (List.mem_append.2 m), fun m => ?_⟩
      rcases List.mem_cons.1 m with z | m
      · exact absurd z ej
      · exact List.mem_append.1 m
    · rw [if_neg eh]
theorem FS.pour_tree {fs : FS} {k m h : Nat} (hk : k < fs.ts.length) (hm : m < fs.ts.length) : (fs.pour k m).tree h = if h = k then mrg fs.ws (fs.tree k) (fs.tree m) else if h = m then .nil else fs.tree h := by
  show ((fs.ts.set m .nil).set k _).getD h .nil = _
  rw [FS.tree_set (by rw [List.length_set]; exact hk), FS.tree_set hm]; rfl
theorem FS.home_pour {fs : FS} (o : fs.Ok) {k m : Nat} (hk : k < fs.ts.length) (hm : m < fs.ts.length) (n : k ≠ m) (j : Nat) : (fs.pour k m).home j = if fs.home j = some m then some k else fs.home j := by
  refine opt_ext fun h => ?_
  rw [FS.home_iff (o.pour hk hm n), FS.pour_tree hk hm]
  by_cases ej : fs.home j = some m
  · rw [if_pos ej]
    have mj := (FS.home_iff o).1 ej
    by_cases eh : h = k
    · rw [if_pos eh, eh, mrg_mem]
      exact ⟨fun _ => rfl, fun _ => .inr mj⟩
    · rw [if_neg eh]
      refine ⟨fun z => ?_, fun z => absurd (Option.some.inj z).symm eh⟩
      by_cases e2 : h = m
      · rw [if_pos e2] at z; cases z
      · rw [if_neg e2] at z; exact (FS.apart o e2 z mj).elim
  · rw [if_neg ej, FS.home_iff o]
    by_cases eh : h = k
    · rw [if_pos eh, eh, mrg_mem]
      refine ⟨fun z => ?_, .inl⟩
      rcases z with z | z
      · exact z
      · exact absurd ((FS.home_iff o).2 z) ej
    · rw [if_neg eh]
      by_cases e2 : h = m
      · rw [if_pos e2, e2]
        exact ⟨fun z => (nomatch z), fun z => absurd ((FS.home_iff o).2 z) ej⟩
      · rw [if_neg e2]
theorem SinkTo.tree {fs fs' : FS} {i : Nat} {w : Int} (s : SinkTo fs i w fs') (h : Nat) : (fs'.tree h).nodes.Perm (fs.tree h).nodes := by
  cases s with
  | top => exact List.Perm.refl _
  | stay => exact List.Perm.refl _
  | @move k f c s hh e ht l =>
    show ((fs.ts.set k _).getD h .nil).nodes.Perm _
    rw [FS.tree_set hh]
    by_cases eh : h = k
    · rw [if_pos eh, eh, e]
      refine (mrg_perm _ _ _).trans ((List.Perm.append_right _ rise_perm).trans ?_)
      refine List.Perm.trans ?_ fill_perm.symm
      show List.Perm (([] ++ knodes (f :: c)) ++ s.nodes) (s.nodes ++ knodes (f :: c))
      exact List.perm_append_comm
    · rw [if_neg eh]
      exact List.Perm.refl _
theorem SinkTo.home {fs fs' : FS} {i : Nat} {w : Int} (s : SinkTo fs i w fs') (o : fs.Ok) (j : Nat) : fs'.home j = fs.home j :=
  opt_ext fun h => by rw [FS.home_iff (s.ok o), FS.home_iff o, (s.tree h).mem_iff]
theorem FS.addHeap_tree {fs : FS} {h : Nat} : fs.addHeap.tree h = fs.tree h := by
  show (fs.ts ++ [Tr.nil]).getD h .nil = fs.ts.getD h .nil
  rw [List.getD_eq_getElem?_getD, List.getD_eq_getElem?_getD]
  by_cases e : h < fs.ts.length
  · rw [List.getElem?_append_left e]
  · rw [List.getElem?_append_right (by omega), List.getElem?_eq_none (l := fs.ts) (by omega)]
    by_cases e2 : h - fs.ts.length = 0
    · rw [e2]; rfl
    · rw [List.getElem?_eq_none (by simp; omega)]
theorem FS.home_add {fs : FS} (o : fs.Ok) (j : Nat) : fs.addHeap.home j = fs.home j :=
  opt_ext fun h => by rw [FS.home_iff o.addHeap, FS.home_iff o, FS.addHeap_tree]
/-- the things of a heap -/
def here (hm : Nat → Option Nat) (n h : Nat) : List Nat := (List.range n).filter fun j => decide (hm j = some h)
theorem FS.here_perm {fs : FS} (o : fs.Ok) (h : Nat) : (fs.tree h).nodes.Perm (here fs.home fs.ws.length h) := by
  refine (List.perm_ext_iff_of_nodup (FS.tree_nodup o) (List.Pairwise.filter _ List.nodup_range)).2 fun j => ?_
  rw [List.mem_filter, List.mem_range, decide_eq_true_eq, FS.home_iff o]
  exact ⟨fun m => ⟨o.lt _ (FS.all_tree m), m⟩, fun m => m.2⟩
theorem FS.there_iff {fs : FS} {j : Nat} : fs.gone j = false ↔ ∃ h, fs.home j = some h := by
  rw [FS.gone_eq]
  constructor
  · intro h
    have := of_decide_eq_false h
    cases e : fs.home j with
    | none => exact absurd (FS.home_none.1 e) this
    | some h => exact ⟨h, rfl⟩
  · rintro ⟨h, e⟩
    refine decide_eq_false fun n => ?_
    rw [FS.home_none.2 n] at e; cases e
/-- the least of a heap -/
theorem FS.Good.top_least {fs : FS} (g : fs.Good) {k i : Nat} {l r : Tr} (e : fs.tree k = .node i l r) : fs.home i = some k ∧ i < fs.ws.length ∧ ∀ j, fs.home j = some k → j = i ∨ Les fs.ws i j := by
  have mi : i ∈ (fs.tree k).nodes := by rw [e]; exact mem_i
  refine ⟨FS.home_of g.ok mi, g.ok.lt i (FS.all_tree mi), fun j hj => ?_⟩
  have mj := (FS.home_iff g.ok).1 hj
  have ho := g.hord k
  rw [e] at ho mj
  exact ho.least rfl mj
/-! ### a heap's rows in order, taken one by one -/
def rowP (ws : List Int) (j : Nat) : Int × Int := (wt ws j, (j : Int))
theorem les_lex {ws : List Int} {i j : Nat} : Les ws i j ↔ Lex (rowP ws i) (rowP ws j) := by
  unfold Les Lex rowP
  show _ ↔ (wt ws i < wt ws j ∨ wt ws i = wt ws j ∧ (i : Int) < (j : Int))
  omega
structure Due (fs : FS) (k : Nat) (vs : List (Int × Int)) : Prop where
  pm : vs.Perm ((fs.tree k).nodes.map (rowP fs.ws))
  so : vs.Pairwise fun x y => ¬ Lex y x
theorem Due.nil {fs : FS} {k : Nat} (d : Due fs k []) : fs.tree k = .nil := by
  have := d.pm.length_eq
  rw [List.length_map, Tr.nodes_len] at this
  cases e : fs.tree k with
  | nil => rfl
  | node i l r => rw [e] at this; simp [Tr.size] at this; omega
theorem Due.cons {fs : FS} {k : Nat} {v : Int × Int} {vs : List (Int × Int)} (d : Due fs k (v :: vs)) (g : fs.Good) (hk : k < fs.ts.length) : ∃ i l r, fs.tree k = .node i l r ∧ v = rowP fs.ws i ∧ Due (fs.take k) k vs := by
  obtain ⟨s1, s2⟩ := List.pairwise_cons.1 d.so
  have pm := d.pm
  cases e : fs.tree k with
  | nil => rw [e] at pm; exact absurd pm.length_eq (by simp [Tr.nodes])
  | node i l r =>
    rw [e] at pm
    obtain ⟨j, hj, ej⟩ := List.mem_map.1 (pm.mem_iff.1 (List.mem_cons_self (a := v) (l := vs)))
    have mi : rowP fs.ws i ∈ v :: vs := pm.mem_iff.2 (List.mem_map_of_mem (f := rowP fs.ws) mem_i)
    have ev : v = rowP fs.ws i := by
      rcases List.mem_cons.1 mi with m | m
      · exact m.symm
      · have n := s1 _ m
        have ho := g.hord k
        rw [e] at ho
        rcases ho.least rfl hj with z | z
        · rw [← ej, z]
        · rw [← ej] at n; exact absurd (les_lex.1 z) n
    refine ⟨i, l, r, rfl, ev, ⟨?_, s2⟩⟩
    rw [FS.take_tree hk e, if_pos rfl, FS.take_eq e]
    show vs.Perm ((mrg fs.ws l r).nodes.map (rowP fs.ws))
    refine List.Perm.trans ?_ ((mrg_perm fs.ws l r).symm.map _)
    have : (v :: vs).Perm (rowP fs.ws i :: (l.nodes ++ r.nodes).map (rowP fs.ws)) := pm
    rw [ev] at this
    exact this.cons_inv
theorem FS.due {fs : FS} (o : fs.Ok) {k : Nat} {vs : List (Int × Int)} (hp : vs.Perm ((here fs.home fs.ws.length k).map (rowP fs.ws))) (so : vs.Pairwise fun x y => ¬ Lex y x) : Due fs k vs := ⟨hp.trans ((FS.here_perm o k).map _).symm, so⟩
theorem FS.take_ws {fs : FS} {k : Nat} : (fs.take k).ws = fs.ws := by unfold FS.take; split <;> rfl
theorem FS.take_len {fs : FS} {k : Nat} : (fs.take k).ts.length = fs.ts.length := by unfold FS.take; split <;> simp
end G

/-! what the laws over fields say in the same words -/
namespace G
open PySem PySem.Spec PyProof.Rows L2
section
variable {K : PySem.W.Frag} {A : Ad} {σ : L2.St} {H H' : Hp} {Q : VK} {E : XK} {D : Ends} {a p q : Addr} {xs : List V} {v : V}
theorem x_sl {r : V → Option Int → Option Int → Hp → VK → Prop} {te : TE} {tl th : TO} (k : te σ H fun x H1 => tl σ H1 fun l H2 => th σ H2 fun u H3 => r x l u H3 Q) : tSl r te tl th σ H Q := k
theorem x_nop {QO : Option Int → Hp → Prop} (k : QO none H) : tNoPart σ H QO := k
theorem x_part {QO : Option Int → Hp → Prop} {t : TE} (k : t σ H fun x H1 => ∃ i, x = .int i ∧ QO (some i) H1) : tPart t σ H QO := k
theorem x_ifS2 {P : L2.St → Hp → Prop} {t : TT} {tu tw : TS} (hd : ∀ σ' H', P σ' H' → D.nx σ' H') (k : (∀ σ' H', P σ' H' → D.nx σ' H') → tIfS t tu tw D σ H) : tIfS t tu tw D σ H := k hd
/-- a for over a list that is made on the way -/
def iFor (K : PySem.W.Frag) (j : Nat) (tb : TS) (D : Ends) (σ : L2.St) : VK := fun v H1 => ∃ a, v = .ref a ∧ (∃ xs, SqL K H1 a xs) ∧ ∃ W : Nat → Nat → L2.St → Hp → Prop, (∃ m, W 0 m σ H1) ∧ ∀ i m σ H, W i m σ H →
  ((Itl K a).stop i H ∧ D.nx σ H) ∨ ((Itl K a).go i H ∧ ∃ N : L2.St → Hp → Prop, (∀ σ' H', N σ' H' → ∃ m', m' < m ∧ W (i + 1) m' σ' H') ∧ ∀ x H', (Itl K a).yld i H x H' → gName j x σ H' fun σ2 H2 => tb { D with nx := N, ct := N, bk := D.nx } σ2 H2)
theorem x_forV {j : Nat} {tb : TS} {tl : TE} (k : tl σ H (iFor K j tb D σ)) : tFor (iList K tl) (gName j) tb D σ H := k
theorem x_iFor {j : Nat} {tb : TS} (hx : SqL K H a xs) (P : Nat → L2.St → Hp → Prop) (h0 : P 0 σ H) (hl : ∀ i σ H, i ≤ xs.length → P i σ H → SqL K H a xs)
    (hs : ∀ i x σ H, xs[i]? = some x → P i σ H → tb { D with nx := P (i + 1), ct := P (i + 1), bk := D.nx } (σ.set j (some x)) H) (hd : ∀ σ H, P xs.length σ H → D.nx σ H) : iFor K j tb D σ (.ref a) H :=
  ⟨a, rfl, ⟨xs, hx⟩, for_list P h0 hl hs hd⟩
theorem x_slL {lo hi : Option Int} (h : SqL K H a xs) (k : ∀ p, H p = none → Q (.ref p) (upd H p (.lst (cutV xs lo hi)))) : rSlL K (.ref a) lo hi H Q := ⟨a, xs, rfl, h, k⟩
theorem x_some {i : Int} {QO : Option Int → Hp → Prop} (k : QO (some i) H) : ∃ j, V.int i = .int j ∧ QO (some j) H := ⟨i, rfl, k⟩
theorem cut_take {n : Nat} : cutV xs none (some (n : Int)) = xs.take n := by
  unfold cutV
  have e0 : HT.sIx xs.length 0 none = 0 := rfl
  have e1 : HT.sIx xs.length xs.length (some (n : Int)) = min n xs.length := by
    simp only [HT.sIx]
    rw [if_neg (by omega)]
    omega
  rw [e0, e1, List.drop_zero, Nat.sub_zero]
  rw [List.take_eq_take_iff]
  omega
/-- a field is made -/
theorem x_makeF (k : ∀ F H', FieldAt A H' F ⟨[], [], 0⟩ → (∀ a, F.own a → H a = none) → H F.B.t = none → Fr M0 H H' → Q (.ref F.f) H') : tMake A.CF (sp_F_init K A) [] E tNil σ H Q := by
  refine x_make (x_nil fun x dx hx hd n => ?_)
  refine ⟨x, dx, rfl, upd_same, fun F H' e hF ho ht hf => ⟨rfl, ?_⟩⟩
  have back : ∀ b, upd (upd H dx (.own x)) x (.ins A.CF dx []) b = none → H b = none := fun b hb => by
    by_cases e1 : b = x
    · rw [e1]; exact hx
    · rw [upd_ne e1] at hb
      by_cases e2 : b = dx
      · rw [e2]; exact hd
      · rw [upd_ne e2] at hb; exact hb
  rw [← e]
  refine k F H' hF (fun b hb => ?_) (back _ ht) fun b o hb _ => ?_
  · rcases ho b hb with e | h
    · rw [e]; exact hx
    · exact back b h
  · have n1 : b ≠ x := ne_of_none hb hx
    have n2 : b ≠ dx := ne_of_none hb hd
    exact hf b o (by rw [upd_ne n1, upd_ne n2]; exact hb) n1
/-! == of pairs -/
theorem dp_pair {x y : Int} (h : H p = some (.tup [.int x, .int y])) : Dp K H (.ref p) (PySem.W.Datum.toD (x, y)) := Dp.tup (st_of h) (.cons (.int x) (.cons (.int y) .nil))
theorem x_eqP {x y z w : Int} (hp : H p = some (.tup [.int x, .int y])) (hq : H q = some (.tup [.int z, .int w])) (k : Q (.bl (decide ((x, y) = (z, w)))) H) : rEqD K (.ref p) (.ref q) H Q :=
  ⟨_, _, dp_pair hp, dp_pair hq, rfl, rfl, by rw [PySem.W.Datum.eqv]; exact k⟩
theorem x_neP {x y z w : Int} (hp : H p = some (.tup [.int x, .int y])) (hq : H q = some (.tup [.int z, .int w])) (k : Q (.bl (!decide ((x, y) = (z, w)))) H) : rNeD K (.ref p) (.ref q) H Q :=
  ⟨_, _, dp_pair hp, dp_pair hq, rfl, rfl, by rw [PySem.W.Datum.eqv]; exact k⟩
end
/-! a weight out of a cell -/
def spWeight : Sp := fun vs H Q _ => match vs with
  | [v] => ∃ c : Int, v = .int c ∧ Bits c ∧ ∀ w : Int, Q (.int w) H
  | _ => False
def tWeight : TS :=
  (tSeq (tIfS (tTest (tOp rEq (tOp oMod (tVar 0) (tC (.int 4))) (tC (.int 0)))) (tRet (tOp oSub (tOp oMod (tOp oDiv (tVar 0) (tC (.int 4))) (tC (.int 9))) (tC (.int 4)))) tNext)
    (tSeq (tIfS (tTest (tOp rEq (tOp oMod (tVar 0) (tC (.int 4))) (tC (.int 1)))) (tRet (tOp oSub (tOp oMod (tOp oDiv (tVar 0) (tC (.int 4))) (tC (.int 2001))) (tC (.int 1000)))) tNext)
    (tSeq (tIfS (tTest (tOp rEq (tOp oMod (tVar 0) (tC (.int 4))) (tC (.int 2)))) (tRet (tOp oMod (tOp oDiv (tVar 0) (tC (.int 4))) (tC (.int 3)))) tNext)
    (tRet (tOp oSub (tOp oMod (tOp oMulX (tOp oDiv (tVar 0) (tC (.int 4))) (tOp oPow (tC (.int 999999999989)) (tC (.int 4)))) (tOp oSub (tOp oMul (tC (.int 2)) (tOp oPow (tC (.int 10)) (tC (.int 40)))) (tC (.int 1)))) (tOp oSub (tOp oPow (tC (.int 10)) (tC (.int 40))) (tC (.int 1))))))))
theorem pure_weight {v : V} {H : Hp} {Q : VK} {E : XK} (h : spWeight [v] H Q E) : tWeight { nx := fun _ H' => Q .non H', rt := Q } [some v] H := by
  obtain ⟨c, rfl, hb, k⟩ := h
  unfold tWeight
  repeat walk_at "s1"
  refine x_mod (by decide) ?_
  repeat walk_at "s1"
  refine x_ite (fun _ => ?_) (fun _ => ?_)
  · repeat walk_at "s1"
    refine x_div (by decide) ?_
    repeat walk_at "s1"
    refine x_mod (by decide) ?_
    repeat walk_at "s1"
    exact k _
  repeat walk_at "s1"
  refine x_mod (by decide) ?_
  repeat walk_at "s1"
  refine x_ite (fun _ => ?_) (fun _ => ?_)
  · repeat walk_at "s1"
    refine x_div (by decide) ?_
    repeat walk_at "s1"
    refine x_mod (by decide) ?_
    repeat walk_at "s1"
    exact k _
  repeat walk_at "s1"
  refine x_mod (by decide) ?_
  repeat walk_at "s1"
  refine x_ite (fun _ => ?_) (fun _ => ?_)
  · repeat walk_at "s1"
    refine x_div (by decide) ?_
    repeat walk_at "s1"
    refine x_mod (by decide) ?_
    exact k _
  repeat walk_at "s1"
  refine x_div (by decide) ?_
  repeat walk_at "s1"
  refine x_pow (by decide) ?_
  repeat walk_at "s1"
  refine x_I (Bits.mulOk (Bits.div hb (by decide)) (by decide)) ?_
  repeat walk_at "s1"
  refine x_pow (by decide) ?_
  repeat walk_at "s1"
  refine x_mul (.inl (by decide)) ?_
  repeat walk_at "s1"
  refine x_mod (by decide) ?_
  repeat walk_at "s1"
  refine x_pow (by decide) ?_
  repeat walk_at "s1"
  exact k _
/-! the same of a number that may have some bits more -/
abbrev BitsB (c : Int) : Prop := Builtin.Int.intBits c ≤ 2000000
theorem Bits.more {c d : Int} (h : Bits c) (hd : Builtin.Int.intBits d ≤ 1000) : BitsB (c + d) := Nat.le_trans (PySem.intBits_add_le h hd) (by decide)
def spWeightB : Sp := fun vs H Q _ => match vs with
  | [v] => ∃ c : Int, v = .int c ∧ BitsB c ∧ ∀ w : Int, Q (.int w) H
  | _ => False
theorem pure_weightB {v : V} {H : Hp} {Q : VK} {E : XK} (h : spWeightB [v] H Q E) : tWeight { nx := fun _ H' => Q .non H', rt := Q } [some v] H := by
  obtain ⟨c, rfl, hb, k⟩ := h
  have hm : IntMulOk (c / 4) ((999999999989 : Int) ^ (4 : Int).toNat) := by
    have h1 : Builtin.Int.intBits (c / 4) ≤ 2000000 := by
      have := PyProof.Rows.bits_fdiv (b := 4) hb
      rwa [Int.fdiv_eq_ediv_of_nonneg _ (by decide)] at this
    exact PySem.IntMulOk.of_le h1 (show Builtin.Int.intBits ((999999999989 : Int) ^ (4 : Int).toNat) ≤ 1000 by decide) (by decide)
  unfold tWeight
  repeat walk_at "s1"
  refine x_mod (by decide) ?_
  repeat walk_at "s1"
  refine x_ite (fun _ => ?_) (fun _ => ?_)
  · repeat walk_at "s1"
    refine x_div (by decide) ?_
    repeat walk_at "s1"
    refine x_mod (by decide) ?_
    repeat walk_at "s1"
    exact k _
  repeat walk_at "s1"
  refine x_mod (by decide) ?_
  repeat walk_at "s1"
  refine x_ite (fun _ => ?_) (fun _ => ?_)
  · repeat walk_at "s1"
    refine x_div (by decide) ?_
    repeat walk_at "s1"
    refine x_mod (by decide) ?_
    repeat walk_at "s1"
    exact k _
  repeat walk_at "s1"
  refine x_mod (by decide) ?_
  repeat walk_at "s1"
  refine x_ite (fun _ => ?_) (fun _ => ?_)
  · repeat walk_at "s1"
    refine x_div (by decide) ?_
    repeat walk_at "s1"
    refine x_mod (by decide) ?_
    exact k _
  repeat walk_at "s1"
  refine x_div (by decide) ?_
  repeat walk_at "s1"
  refine x_pow (by decide) ?_
  repeat walk_at "s1"
  refine x_I hm ?_
  repeat walk_at "s1"
  refine x_pow (by decide) ?_
  repeat walk_at "s1"
  refine x_mul (.inl (by decide)) ?_
  repeat walk_at "s1"
  refine x_mod (by decide) ?_
  repeat walk_at "s1"
  refine x_pow (by decide) ?_
  repeat walk_at "s1"
  exact k _
/-! a pair is the one that is due -/
def spPair : Sp := fun vs H Q _ => match vs with
  | [v, u] => ∃ (p q : Addr) (x y : Int), v = .ref p ∧ u = .ref q ∧ H p = some (.tup [.int x, .int y]) ∧ H q = some (.tup [.int x, .int y]) ∧ Q (.bl true) H
  | _ => False
def tPair (K : PySem.W.Frag) : TS :=
  (tSeq (tIfS (tOr (tNot (tB (tCB (rIsi K) (tCons (tVar 0) (tCons (tC (.ty "tuple")) tNil))))) (tTest (tOp rNe (tCB (oLen K) (tCons (tVar 0) tNil)) (tC (.int 2))))) (tRet (tC (.bl false))) tNext)
    (tRet (tAndV (tCall spWhole [] E0 (tCons (tOp (rIxT K) (tVar 0) (tC (.int 0))) tNil)) (tAndV (tCall spWhole [] E0 (tCons (tOp (rIxT K) (tVar 0) (tC (.int 1))) tNil)) (tOp (rEqD K) (tVar 0) (tVar 1))))))
theorem pure_pair {K : PySem.W.Frag} {v u : V} {H : Hp} {Q : VK} {E : XK} (h : spPair [v, u] H Q E) : tPair K { nx := fun _ H' => Q .non H', rt := Q } [some v, some u] H := by
  obtain ⟨p, q, x, y, rfl, rfl, hp, hq, k⟩ := h
  unfold tPair
  repeat walk_at "s1"
  refine x_isiT (b := true) hp (by decide +kernel) ?_
  repeat walk_at "s1"
  refine x_F rfl ?_
  repeat walk_at "s1"
  refine x_lenT (st_of hp) ?_
  repeat walk_at "s1"
  refine x_F rfl ?_
  repeat walk_at "s1"
  refine x_ixT (st_of hp) rfl (v := .int x) rfl ?_
  repeat walk_at "s1"
  refine ⟨x, rfl, ?_⟩
  repeat walk_at "s1"
  refine x_T rfl ?_
  repeat walk_at "s1"
  refine x_ixT (st_of hp) rfl (v := .int y) rfl ?_
  repeat walk_at "s1"
  refine ⟨y, rfl, ?_⟩
  repeat walk_at "s1"
  refine x_T rfl ?_
  repeat walk_at "s1"
  refine x_eqP hp hq ?_
  rw [decide_eq_true rfl]
  exact k
/-! the script, whatever is changed behind it -/
def Scr (K : PySem.W.Frag) (H : Hp) (a : Addr) (xs : List V) (N : Addr → Prop) : Prop := (Rd H a (.lst xs) ∧ ¬ N a) ∨ ∀ H', SqL K H' a xs
section
variable {K : PySem.W.Frag} {H H' : Hp} {a : Addr} {xs : List V} {M N : Addr → Prop}
theorem Scr.of (h : SqL K H a xs) : Scr K H a xs M0 := by
  rcases h with h | h
  · exact .inl ⟨h, fun z => z⟩
  · exact .inr fun _ => .inr h
theorem Scr.sq (h : Scr K H a xs N) : SqL K H a xs := by
  rcases h with h | h
  · exact .inl h.1
  · exact h H
theorem Scr.fr (h : Scr K H a xs N) (e : Fr M H H') (m : ∀ b, M b → N b) : Scr K H' a xs N := by
  rcases h with h | h
  · exact .inl ⟨rd_fr e (fun z => h.2 (m _ z)) h.1, h.2⟩
  · exact .inr h
/-- more may change: what was new -/
theorem Scr.grow (h : Scr K H a xs M) (m : ∀ b, N b → M b ∨ H b = none) : Scr K H a xs N := by
  rcases h with h | h
  · refine .inl ⟨h.1, fun z => ?_⟩
    rcases m _ z with z | z
    · exact h.2 z
    · rcases h.1 with q | ⟨o, q⟩ <;> rw [z] at q <;> cases q
  · exact .inr h
end
/-! the methods of a field, called where they answer -/
theorem x_fmE {A : Ad} {H : Hp} {Q : VK} {F : FdA} {fs : FS} {E : XK} {m : Str} {s : Sp} {tl : L2.TA} {σ : L2.St} (R : FieldAt A H F fs) (hm : ((m == ("trees" : Str)) || (m == ("tops" : Str)) || (m == ("sizes" : Str)) || (m == ("homes" : Str)) || (m == ("gone" : Str)) || (m == ("spent" : Str))) = false) (k : tl σ H fun vs H2 => s (.ref F.f :: vs) H2 Q E) :
    ∃ a dx fs, V.ref F.f = .ref a ∧ H a = some (.ins A.CF dx fs) ∧ fs.lookup m = none ∧ tl σ H fun vs H2 => s (.ref F.f :: vs) H2 Q E := by
  obtain ⟨_, _, R, _, _⟩ := R.raw
  simp only [Bool.or_eq_false_iff] at hm
  refine ⟨F.f, F.df, fF F fs.sp, rfl, R.ob, ?_, k⟩
  unfold fF
  rw [lk_past hm.1.1.1.1.1, lk_past hm.1.1.1.1.2, lk_past hm.1.1.1.2, lk_past hm.1.1.2, lk_past hm.1.2, lk_past hm.2]
  rfl
section
variable {K : PySem.W.Frag} {A : Ad} {H H' : Hp} {Q : VK} {E : XK} {F : FdA} {fs : FS} {i k m : Nat} {w : Int}
theorem y_there (o : fs.Ok) {h : Nat} (e : fs.home i = some h) : fs.there i := ⟨by omega, by
  have := o.lt i (FS.all_tree ((FS.home_iff o).1 e)); omega, by
  show fs.gone (Int.toNat (i : Int)) = false
  rw [Int.toNat_natCast]; exact FS.there_iff.2 ⟨h, e⟩⟩
theorem y_weight (hF : FieldAt A H F fs) {h : Nat} (e : fs.home i = some h) (q : Q (.int (wt fs.ws i)) H) : sp_F_weight_of K A [.ref F.f, .int i] H Q E :=
  ⟨F, fs, i, rfl, rfl, hF, fun n => absurd (y_there hF.ok e) n, fun j ej _ => by
    have : i = j := by omega
    subst this; exact q⟩
theorem y_home (hF : FieldAt A H F fs) {h : Nat} (e : fs.home i = some h) (q : Q (.int h) H) : sp_F_heap_of K A [.ref F.f, .int i] H Q E :=
  ⟨F, fs, i, rfl, rfl, hF, fun n => absurd (y_there hF.ok e) n, fun j h' ej _ e' _ _ => by
    have : i = j := by omega
    subst this
    rw [e] at e'
    cases e'
    exact q⟩
theorem y_things (hF : FieldAt A H F fs) (hk : k < fs.ts.length) (q : Q (.int (fs.tree k).size) H) : sp_F_things K A [.ref F.f, .int k] H Q E :=
  ⟨F, fs, k, rfl, rfl, hF, fun n => absurd (by omega) n, fun j ej _ => by
    have : k = j := by omega
    subst this; exact q⟩
theorem y_heap (hF : FieldAt A H F fs) (hz : fs.ts.length < 90000) (q : ∀ H', FieldAt A H' F fs.addHeap → Fr F.own H H' → Q (.int fs.ts.length) H') : sp_F_heap K A [.ref F.f] H Q E := ⟨F, fs, rfl, hF, hz, q⟩
theorem y_put (hF : FieldAt A H F fs) (hk : k < fs.ts.length) (hz : fs.ws.length < 80000) (q : ∀ H', FieldAt A H' F (fs.put k w) → Fr F.own H H' → Q (.int fs.ws.length) H') : sp_F_put K A [.ref F.f, .int k, .int w] H Q E :=
  ⟨F, fs, k, w, rfl, rfl, rfl, hF, hz, fun n => absurd (by omega) n, fun j ej _ => by
    have : k = j := by omega
    subst this; exact q⟩
theorem y_least (hF : FieldAt A H F fs) (hk : k < fs.ts.length) {l r : Tr} (e : fs.tree k = .node i l r) (q : ∀ p, H p = none → Q (.ref p) (upd H p (.tup [.int (wt fs.ws i), .int i]))) : sp_F_least K A [.ref F.f, .int k] H Q E :=
  ⟨F, fs, k, rfl, rfl, hF, fun n => absurd (by omega) n, (fun j ej _ e' => by
    have : k = j := by omega
    subst this; rw [e] at e'; cases e'), fun j i' l' r' ej _ e' => by
    have : k = j := by omega
    subst this; rw [e] at e'; cases e'; exact q⟩
theorem y_take (hF : FieldAt A H F fs) (hk : k < fs.ts.length) (hz : fs.ws.length < 80000) {l r : Tr} (e : fs.tree k = .node i l r) (q : ∀ H' p, FieldAt A H' F (fs.take k) → H p = none → H' p = some (.tup [.int (wt fs.ws i), .int i]) → Fr F.own H H' → Q (.ref p) H') : sp_F_take K A [.ref F.f, .int k] H Q E :=
  ⟨F, fs, k, rfl, rfl, hF, hz, fun n => absurd (by omega) n, (fun j ej _ e' => by
    have : k = j := by omega
    subst this; rw [e] at e'; cases e'), fun j i' l' r' ej _ e' => by
    have : k = j := by omega
    subst this; rw [e] at e'; cases e'; exact q⟩
theorem y_take0 (hF : FieldAt A H F fs) (hk : k < fs.ts.length) (hz : fs.ws.length < 80000) (e : fs.tree k = .nil) (q : E (.ref A.xBA) none H) : sp_F_take K A [.ref F.f, .int k] H Q E :=
  ⟨F, fs, k, rfl, rfl, hF, hz, fun n => absurd (by omega) n, fun j ej _ e' => q, fun j i' l' r' ej _ e' => by
    have : k = j := by omega
    subst this; rw [e] at e'; cases e'⟩
theorem y_pour (hF : FieldAt A H F fs) (hk : k < fs.ts.length) (hm : m < fs.ts.length) (n : k ≠ m) (hz : fs.ws.length < 80000) (q : ∀ H', FieldAt A H' F (fs.pour k m) → Fr F.own H H' → Q .non H') : sp_F_pour K A [.ref F.f, .int k, .int m] H Q E :=
  ⟨F, fs, k, m, rfl, rfl, rfl, hF, hz, fun n => absurd (by omega) n, fun _ _ z => absurd (by omega) n, fun j j' ej ej' _ _ _ => by
    have : k = j := by omega
    subst this
    have : m = j' := by omega
    subst this; exact q⟩
theorem y_sink (hF : FieldAt A H F fs) {h : Nat} (e : fs.home i = some h) (hw : w ≤ wt fs.ws i) (hz : fs.ws.length < 80000) (q : ∀ H', FieldAt A H' F (fs.sink i w) → Fr F.own H H' → Q .non H') : sp_F_sink K A [.ref F.f, .int i, .int w] H Q E :=
  ⟨F, fs, i, w, rfl, rfl, rfl, hF, hz, fun n => absurd (y_there hF.ok e) n, fun j ej _ z => by
    have : i = j := by omega
    subst this; omega, fun j ej _ _ => by
    have : i = j := by omega
    subst this; exact q⟩
theorem y_tree (hF : FieldAt A H F fs) (hk : k < fs.ts.length) (hz : fs.ws.length < 40000) (q : ∀ H' l ps, H l = none → RowsAt H' l (rowsOf fs.ws (fs.tree k)) ps → (∀ p ∈ ps, H p = none) → Fr M0 H H' → Q (.ref l) H') : sp_F_tree K A [.ref F.f, .int k] H Q E :=
  ⟨F, fs, k, rfl, rfl, hF, hz, fun n => absurd (by omega) n, fun j ej _ => by
    have : k = j := by omega
    subst this; exact q⟩
theorem y_work (hF : FieldAt A H F fs) (q : Q (.int fs.sp) H) : sp_F_work K A [.ref F.f] H Q E := ⟨F, fs, rfl, hF, q⟩
end
theorem at2 {f : Nat → V} {p : Nat} (hp : p < 2) : atI [f 0, f 1] (p : Int) = some (f p) := by
  match p, hp with
  | 0, _ => rfl
  | 1, _ => rfl
/-! the least of a heap is the least of its rows -/
section
variable {fs : FS} {k i : Nat} {l r : Tr} {f : Nat → Bool} {ps : List (Addr × Int × Int)}
theorem pair_mem (hps : ps.map (fun p => p.2) = ((List.range fs.ws.length).filter f).map fun j => (wt fs.ws j, (j : Int))) {j : Nat} (hj : j < fs.ws.length) (hf : f j = true) : ∃ q ∈ ps, q.2 = (wt fs.ws j, (j : Int)) := by
  have m : (wt fs.ws j, (j : Int)) ∈ ps.map (fun p => p.2) := by
    rw [hps]
    exact List.mem_map_of_mem (f := fun j => (wt fs.ws j, (j : Int))) (List.mem_filter.2 ⟨List.mem_range.2 hj, hf⟩)
  obtain ⟨q, hq, e⟩ := List.mem_map.1 m
  exact ⟨q, hq, e⟩
theorem mem_pair (hps : ps.map (fun p => p.2) = ((List.range fs.ws.length).filter f).map fun j => (wt fs.ws j, (j : Int))) {p : Addr × Int × Int} (hp : p ∈ ps) : ∃ j, j < fs.ws.length ∧ f j = true ∧ p.2 = (wt fs.ws j, (j : Int)) := by
  have m : p.2 ∈ ps.map (fun p => p.2) := List.mem_map_of_mem hp
  rw [hps] at m
  obtain ⟨j, hj, e⟩ := List.mem_map.1 m
  obtain ⟨h1, h2⟩ := List.mem_filter.1 hj
  exact ⟨j, List.mem_range.1 h1, h2, e.symm⟩
theorem least_min (g : fs.Good) (e : fs.tree k = .node i l r) (hps : ps.map (fun p => p.2) = ((List.range fs.ws.length).filter f).map fun j => (wt fs.ws j, (j : Int)))
    (hf : ∀ j, j < fs.ws.length → (f j = true ↔ fs.home j = some k)) {p : Addr × Int × Int} (hp : p ∈ ps) (hm : ∀ q ∈ ps, ¬ Lex q.2 p.2) : p.2 = (wt fs.ws i, (i : Int)) := by
  obtain ⟨h1, h2, h3⟩ := g.top_least e
  obtain ⟨j, hj, fj, ej⟩ := mem_pair hps hp
  obtain ⟨q, hq, eq⟩ := pair_mem hps h2 ((hf i h2).2 h1)
  have := hm q hq
  rw [eq, ej] at this
  have this : ¬ Les fs.ws i j := fun z => this (les_lex.1 z)
  rcases h3 j ((hf j hj).1 fj) with z | z
  · rw [ej, z]
  · exact absurd z this
theorem pairs_ne (g : fs.Good) (e : fs.tree k = .node i l r) (hps : ps.map (fun p => p.2) = ((List.range fs.ws.length).filter f).map fun j => (wt fs.ws j, (j : Int)))
    (hf : ∀ j, j < fs.ws.length → (f j = true ↔ fs.home j = some k)) : ps ≠ [] := by
  obtain ⟨h1, h2, h3⟩ := g.top_least e
  obtain ⟨q, hq, _⟩ := pair_mem hps h2 ((hf i h2).2 h1)
  intro z; rw [z] at hq; cases hq
end
/-! things that are no field's own; empty trees -/
section
variable {K : PySem.W.Frag} {A : Ad} {H H' : Hp} {Q : VK} {E : XK} {F : FdA} {fs : FS} {i k m : Nat} {w : Int} {p q : Addr}
theorem own_tup (hF : FieldAt A H F fs) {xs : List V} (h : H p = some (.tup xs)) : ¬ F.own p := by
  obtain ⟨_, _, R, _, _⟩ := hF.raw
  rintro (e | e | e | e | e | e)
  · subst e; rw [R.ob] at h; cases h
  · obtain ⟨ys, e⟩ := R.tr.own_lst e
    rw [h] at e; cases e
  · subst e; rw [R.tops] at h; cases h
  · subst e; rw [R.sizes] at h; cases h
  · subst e; rw [R.homes] at h; cases h
  · subst e; rw [R.gone] at h; cases h
theorem ne_own (hF : FieldAt A H F fs) {xs : List V} (e : H p = some (.lst xs)) : F.B.t ≠ p := by
  obtain ⟨_, _, R, _, _⟩ := hF.raw
  exact ne_of R.tr.ob e (by intro z; cases z)
theorem own_new (hF : FieldAt A H F fs) (h : H p = none) : ¬ F.own p := fun m => hF.own_some _ m h
theorem x_eqNil (hp : H p = some (.lst [])) (hq : H q = some (.lst [])) (k : Q (.bl true) H) : rEqD K (.ref p) (.ref q) H Q := ⟨_, _, .lst (sl_of hp) .nil, .lst (sl_of hq) .nil, rfl, rfl, k⟩
theorem x_neNil (hp : H p = some (.lst [])) (hq : H q = some (.lst [])) (k : Q (.bl false) H) : rNeD K (.ref p) (.ref q) H Q := ⟨_, _, .lst (sl_of hp) .nil, .lst (sl_of hq) .nil, rfl, rfl, k⟩
theorem y_tree0 (hF : FieldAt A H F fs) (hk : k < fs.ts.length) (hz : fs.ws.length < 40000) (e : fs.tree k = .nil) (q : ∀ H' l, H l = none → H' l = some (.lst []) → Fr M0 H H' → Q (.ref l) H') : sp_F_tree K A [.ref F.f, .int k] H Q E := by
  refine y_tree hF hk hz fun H' l ps hl hr _ f => ?_
  have hn := hr.len
  have h1 := hr.lst
  rw [e] at hn
  have : ps = [] := List.eq_nil_of_length_eq_zero hn
  rw [this] at h1
  exact q H' l hl h1 f
/-- the field behind a deed stays where it is while new things come -/
theorem field_fr (hF : FieldAt A H F fs) (f : Fr M0 H H') : FieldAt A H' F fs := hF.fr f (fun _ _ z => z) (fun z => z)
end
theorem prs_at {ps : List (Addr × Int × Int)} {i : Nat} {x : V} (h : (prs ps)[i]? = some x) : ∃ p, ps[i]? = some p ∧ x = .ref p.1 := by
  rw [show prs ps = ps.map fun p => V.ref p.1 from rfl, List.getElem?_map] at h
  obtain ⟨p, h1, h2⟩ := Option.map_eq_some_iff.1 h
  exact ⟨p, h1, h2.symm⟩
theorem drop_at {α : Type} {l : List α} {i : Nat} {x : α} (h : l[i]? = some x) : l.drop i = x :: l.drop (i + 1) := by
  obtain ⟨h1, h2⟩ := List.getElem?_eq_some_iff.1 h
  rw [List.drop_eq_getElem_cons h1, h2]
section
variable {K : PySem.W.Frag} {A : Ad} {H H' : Hp} {Q : VK} {E : XK} {F : FdA} {fs : FS} {i k m : Nat} {w : Int} {p q : Addr}
theorem y_sinkG (hF : FieldAt A H F fs) {h : Nat} (e : fs.home i = some h) (hz : fs.ws.length < 80000) (q1 : wt fs.ws i < w → E (.ref A.xHV) none H) (q2 : w ≤ wt fs.ws i → ∀ H', FieldAt A H' F (fs.sink i w) → Fr F.own H H' → Q .non H') : sp_F_sink K A [.ref F.f, .int i, .int w] H Q E :=
  ⟨F, fs, i, w, rfl, rfl, rfl, hF, hz, fun n => absurd (y_there hF.ok e) n, fun j ej _ z => by
    have : i = j := by omega
    subst this; exact q1 z, fun j ej _ z => by
    have : i = j := by omega
    subst this; exact q2 z⟩
end
theorem cut_drop {xs : List V} : cutV xs (some 1) none = xs.drop 1 := by
  unfold cutV
  have e1 : HT.sIx xs.length xs.length none = xs.length := rfl
  have e0 : HT.sIx xs.length 0 (some 1) = min 1 xs.length := by
    simp only [HT.sIx]
    rw [if_neg (by omega)]
    omega
  rw [e0, e1]
  cases xs with
  | nil => rfl
  | cons x xs =>
    have : min 1 (x :: xs).length = 1 := by rw [List.length_cons]; omega
    rw [this]
    simp
section
variable {fs : FS} {k i : Nat} {l r : Tr} {ps : List (Addr × Int × Int)}
theorem least_min2 (g : fs.Good) (e : fs.tree k = .node i l r) (h1 : ∀ p ∈ ps, ∃ j, fs.home j = some k ∧ p.2 = rowP fs.ws j) (h2 : ∀ j, fs.home j = some k → ∃ p ∈ ps, p.2 = rowP fs.ws j)
    {p : Addr × Int × Int} (hp : p ∈ ps) (hm : ∀ q ∈ ps, ¬ Lex q.2 p.2) : p.2 = (wt fs.ws i, (i : Int)) := by
  obtain ⟨t1, t2, t3⟩ := g.top_least e
  obtain ⟨j, hj, ej⟩ := h1 p hp
  obtain ⟨q, hq, eq⟩ := h2 i t1
  have := hm q hq
  rw [eq, ej] at this
  have this : ¬ Les fs.ws i j := fun z => this (les_lex.1 z)
  rcases t3 j hj with z | z
  · rw [ej, z]; rfl
  · exact absurd z this
theorem home_node (o : fs.Ok) {j : Nat} (h : fs.home j = some k) : ∃ i l r, fs.tree k = .node i l r := by
  have m := (FS.home_iff o).1 h
  cases e : fs.tree k with
  | nil => rw [e] at m; cases m
  | node i l r => exact ⟨i, l, r, rfl⟩
end
/-! the methods of a field, called where they may refuse -/
section
variable {K : PySem.W.Frag} {A : Ad} {H H' : Hp} {Q : VK} {E : XK} {F : FdA} {fs : FS} {i k m : Nat} {w : Int} {p q : Addr}
theorem home_not {h : Nat} (hi : fs.home i = none) (e : fs.there i) : False := by
  have := e.2.2
  rw [Int.toNat_natCast, FS.there_iff, hi] at this
  obtain ⟨_, z⟩ := this
  cases z
theorem y_weightG (hF : FieldAt A H F fs) (q1 : fs.home i = none → E (.ref A.xNT) none H) (q2 : ∀ h, fs.home i = some h → Q (.int (wt fs.ws i)) H) : sp_F_weight_of K A [.ref F.f, .int i] H Q E :=
  ⟨F, fs, i, rfl, rfl, hF, fun n => q1 (by
    cases e : fs.home i with
    | none => rfl
    | some h => exact absurd (y_there hF.ok e) n), fun j ej z => by
    have : i = j := by omega
    subst this
    obtain ⟨h, e⟩ := there_home z
    exact q2 h e⟩
theorem y_takeG (hF : FieldAt A H F fs) (hk : k < fs.ts.length) (hz : fs.ws.length < 80000) (q1 : fs.tree k = .nil → E (.ref A.xBA) none H)
    (q2 : ∀ i l r, fs.tree k = .node i l r → ∀ H' p, FieldAt A H' F (fs.take k) → H p = none → H' p = some (.tup [.int (wt fs.ws i), .int i]) → Fr F.own H H' → Q (.ref p) H') : sp_F_take K A [.ref F.f, .int k] H Q E :=
  ⟨F, fs, k, rfl, rfl, hF, hz, fun n => absurd (by omega) n, (fun j ej _ e' => by
    have : k = j := by omega
    subst this; exact q1 e'), fun j i' l' r' ej _ e' => by
    have : k = j := by omega
    subst this; exact q2 i' l' r' e'⟩
theorem y_leastG (hF : FieldAt A H F fs) (hk : k < fs.ts.length) (q1 : fs.tree k = .nil → E (.ref A.xBA) none H)
    (q2 : ∀ i l r, fs.tree k = .node i l r → ∀ p, H p = none → Q (.ref p) (upd H p (.tup [.int (wt fs.ws i), .int i]))) : sp_F_least K A [.ref F.f, .int k] H Q E :=
  ⟨F, fs, k, rfl, rfl, hF, fun n => absurd (by omega) n, (fun j ej _ e' => by
    have : k = j := by omega
    subst this; exact q1 e'), fun j i' l' r' ej _ e' => by
    have : k = j := by omega
    subst this; exact q2 i' l' r' e'⟩
theorem y_pourG (hF : FieldAt A H F fs) (hk : k < fs.ts.length) (hm : m < fs.ts.length) (hz : fs.ws.length < 80000) (q1 : k = m → E (.ref A.xSA) none H) (q2 : k ≠ m → ∀ H', FieldAt A H' F (fs.pour k m) → Fr F.own H H' → Q .non H') : sp_F_pour K A [.ref F.f, .int k, .int m] H Q E :=
  ⟨F, fs, k, m, rfl, rfl, rfl, hF, hz, fun n => absurd (by omega) n, fun _ _ z => q1 (by omega), fun j j' ej ej' _ _ n => by
    have : k = j := by omega
    subst this
    have : m = j' := by omega
    subst this; exact q2 n⟩
theorem y_sinkN (hF : FieldAt A H F fs) (hz : fs.ws.length < 80000) (q0 : fs.home i = none → E (.ref A.xNT) none H) (q1 : ∀ h, fs.home i = some h → wt fs.ws i < w → E (.ref A.xHV) none H) (q2 : ∀ h, fs.home i = some h → w ≤ wt fs.ws i → ∀ H', FieldAt A H' F (fs.sink i w) → Fr F.own H H' → Q .non H') : sp_F_sink K A [.ref F.f, .int i, .int w] H Q E :=
  ⟨F, fs, i, w, rfl, rfl, rfl, hF, hz, fun n => q0 (by
    cases e : fs.home i with
    | none => rfl
    | some h => exact absurd (y_there hF.ok e) n), (fun j ej t z => by
    have : i = j := by omega
    subst this
    obtain ⟨h, e⟩ := there_home t
    exact q1 h e z), fun j ej t z => by
    have : i = j := by omega
    subst this
    obtain ⟨h, e⟩ := there_home t
    exact q2 h e z⟩
/-! == of lists -/
theorem dp_prs {ps : List (Addr × Int × Int)} {l : Addr} (h : H l = some (.lst (prs ps))) (hp : ∀ p ∈ ps, H p.1 = some (.tup [.int p.2.1, .int p.2.2])) : Dp K H (.ref l) (PySem.W.Datum.toD (ps.map fun p => p.2)) := by
  refine Dp.lst (sl_of h) ?_
  clear h
  induction ps with
  | nil => exact .nil
  | cons p ps ih => exact .cons (dp_pair (hp p List.mem_cons_self)) (ih fun q hq => hp q (List.mem_cons_of_mem _ hq))
theorem shaped_ps (vs : List (Int × Int)) : SeqAt.shaped (PySem.W.Datum.toD vs) = true := by
  have hc : ∀ vs : List (Int × Int), PyData.canLayAll0 (vs.map PySem.W.Datum.toD) = true := fun vs => by
    induction vs with
    | nil => rfl
    | cons v vs ih =>
      rw [List.map_cons, PyData.canLayAll0, ih]
      rfl
  refine Bool.and_eq_true_iff.mpr ⟨hc vs, decide_eq_true (Nat.le_trans (PySem.W.Datum.depth_le vs) ?_)⟩
  show (max 0 0 + 1) + 1 ≤ 64
  decide
theorem dp_nil {l : Addr} (h : H l = some (.lst [])) : Dp K H (.ref l) (PySem.W.Datum.toD ([] : List (Int × Int))) := Dp.lst (sl_of h) .nil
theorem x_eqPs {ps : List (Addr × Int × Int)} {l l' : Addr} (h : H l = some (.lst (prs ps))) (hp : ∀ p ∈ ps, H p.1 = some (.tup [.int p.2.1, .int p.2.2])) (h' : H l' = some (.lst [])) (k : Q (.bl (decide (ps = []))) H) : rEqD K (.ref l) (.ref l') H Q :=
  ⟨_, _, dp_prs h hp, dp_nil h', shaped_ps _, rfl, by
    rw [PySem.W.Datum.eqv]
    rw [show decide (ps.map (fun p => p.2) = ([] : List (Int × Int))) = decide (ps = []) from decide_eq_decide.2 (by rw [List.map_eq_nil_iff])]
    exact k⟩
theorem x_neL2 {x y z w : Int} {l l' : Addr} (h : H l = some (.lst [.int x, .int y])) (h' : H l' = some (.lst [.int z, .int w])) (k : Q (.bl (!decide ([x, y] = [z, w]))) H) : rNeD K (.ref l) (.ref l') H Q :=
  ⟨PySem.W.Datum.toD [x, y], PySem.W.Datum.toD [z, w], Dp.lst (sl_of h) (.cons (.int x) (.cons (.int y) .nil)), Dp.lst (sl_of h') (.cons (.int z) (.cons (.int w) .nil)), rfl, rfl, by rw [PySem.W.Datum.eqv]; exact k⟩
end
end G

/-! a tree's rows: what the laws ask of them -/
namespace G
open PySem PySem.Spec PyProof.Rows L2
theorem rows_nodes (ws : List Int) : ∀ t : Tr, (rowsOf ws t).map (fun x => x.i) = t.nodes
  | .nil => rfl
  | .node i l r => by
    show i :: ((rowsOf ws l ++ rowsOf ws r).map fun x => x.i) = i :: (l.nodes ++ r.nodes)
    rw [List.map_append, rows_nodes ws l, rows_nodes ws r]
/-- parts come behind -/
def Lat : List Row → Prop
  | [] => True
  | x :: xs => (∀ j, (x.l = some j ∨ x.r = some j) → j ∈ xs.map fun x => x.i) ∧ Lat xs
theorem Lat.app : ∀ {xs ys : List Row}, Lat xs → Lat ys → Lat (xs ++ ys)
  | [], _, _, h => h
  | x :: xs, ys, h, h' => ⟨fun j e => by
    show j ∈ (xs ++ ys).map (fun x => x.i)
    rw [List.map_append]
    exact List.mem_append_left _ (h.1 j e), Lat.app h.2 h'⟩
theorem rows_lat (ws : List Int) : ∀ t : Tr, Lat (rowsOf ws t)
  | .nil => trivial
  | .node i l r => ⟨fun j e => by
    rw [List.map_append, rows_nodes, rows_nodes]
    rcases e with e | e
    · exact List.mem_append_left _ (Tr.top_mem e)
    · exact List.mem_append_right _ (Tr.top_mem e), (rows_lat ws l).app (rows_lat ws r)⟩
theorem Lat.drop : ∀ {xs : List Row} (k : Nat), Lat xs → Lat (xs.drop k)
  | _, 0, h => h
  | [], _ + 1, h => h
  | _ :: xs, k + 1, h => Lat.drop (xs := xs) k h.2
/-- the run at a place, none being nought -/
def nO (N : Nat → Nat) : Option Nat → Nat
  | none => 0
  | some i => N i
theorem nO_top {S : CS} {t : Tr} (h : Runs S t) : nO S.N t.top = t.run := by
  cases t with
  | nil => rfl
  | node i l r => exact h.1
/-- what a row says of itself -/
structure RowOk (ws : List Int) (N : Nat → Nat) (ids : List Nat) (x : Row) : Prop where
  i : x.i ∈ ids
  w : x.w = wt ws x.i
  l : ∀ j, x.l = some j → j ∈ ids ∧ Les ws x.i j
  r : ∀ j, x.r = some j → j ∈ ids ∧ Les ws x.i j
  n : x.n = N x.i
  nr : x.n = 1 + nO N x.r
  le : nO N x.r ≤ nO N x.l
theorem rows_ok {ws : List Int} {S : CS} : ∀ {t : Tr} {ids : List Nat}, Hord ws t → Lft t → Runs S t → (∀ j ∈ t.nodes, j ∈ ids) → ∀ x ∈ rowsOf ws t, RowOk ws S.N ids x
  | .nil, _, _, _, _, _, _, m => nomatch m
  | .node i l r, ids, ho, lf, ru, hi, x, m => by
    rcases List.mem_cons.1 m with e | m
    · subst e
      have nr := nO_top ru.2.2
      have nl := nO_top ru.2.1
      refine ⟨hi i mem_i, rfl, fun j e => ⟨hi j (mem_l (Tr.top_mem e)), ho.1 j (Tr.top_mem e)⟩, fun j e => ⟨hi j (mem_r (Tr.top_mem e)), ho.2.1 j (Tr.top_mem e)⟩, ru.1.symm, ?_, ?_⟩
      · show 1 + r.run = 1 + nO S.N r.top
        rw [nr]
      · show nO S.N r.top ≤ nO S.N l.top
        rw [nr, nl]; exact lf.1
    · rcases List.mem_append.1 m with m | m
      · exact rows_ok ho.2.2.1 lf.2.1 ru.2.1 (fun j m => hi j (mem_l m)) x m
      · exact rows_ok ho.2.2.2 lf.2.2 ru.2.2 (fun j m => hi j (mem_r m)) x m
/-- a leaning tree's run is no greater than the levels of its size -/
theorem run_size : ∀ {t : Tr}, Lft t → 2 ^ t.run ≤ t.size + 1
  | .nil, _ => Nat.le_refl _
  | .node i l r, h => by
    have h1 := run_size h.2.1
    have h2 := run_size h.2.2
    have h3 : 2 ^ r.run ≤ 2 ^ l.run := Nat.pow_le_pow_right (by decide) h.1
    show 2 ^ (1 + r.run) ≤ (1 + l.size + r.size) + 1
    rw [Nat.add_comm 1, Nat.pow_succ]
    omega
theorem run_lev {t : Tr} (h : Lft t) : t.run ≤ lev t.size := by
  have h1 := run_size h
  have h2 := lev_lt (n := t.size)
  have := (Nat.pow_lt_pow_iff_right (by decide : 1 < 2)).1 (Nat.lt_of_le_of_lt h1 h2)
  omega
/-- joining costs no more than both runs, less one where both stand -/
theorem cnt_le (ws : List Int) : ∀ t u : Tr, cnt ws t u ≤ t.run + u.run
  | .nil, u => by rw [cnt_nil]; exact Nat.zero_le _
  | .node a la ra, .nil => by rw [cnt_nil']; exact Nat.zero_le _
  | .node a la ra, .node b lb rb => by
    by_cases h : Les ws b a
    · rw [cnt_l h]
      have := cnt_le ws rb (.node a la ra)
      show 1 + _ ≤ (1 + ra.run) + (1 + rb.run)
      have e : (Tr.node a la ra).run = 1 + ra.run := rfl
      omega
    · rw [cnt_r h]
      have := cnt_le ws ra (.node b lb rb)
      have e : (Tr.node b lb rb).run = 1 + rb.run := rfl
      show 1 + _ ≤ (1 + ra.run) + (Tr.node b lb rb).run
      omega
termination_by t u => t.size + u.size
decreasing_by
  · simp only [Tr.size]; omega
  · simp only [Tr.size]; omega
/-! the walk in order: the parts that wait, the next one first -/
def ne (t : Tr) : List Tr := match t with
  | .nil => []
  | .node i l r => [.node i l r]
def Nn (ts : List Tr) : Prop := ∀ t ∈ ts, t ≠ .nil
theorem ne_rows {ws : List Int} {t : Tr} : (ne t).flatMap (rowsOf ws) = rowsOf ws t := by
  cases t with
  | nil => rfl
  | node i l r => simp [ne]
theorem ne_nn {t : Tr} : Nn (ne t) := fun u m => by
  cases t with
  | nil => cases m
  | node i l r =>
    have e : u = .node i l r := by simpa [ne] using m
    rw [e]; exact fun z => nomatch z
theorem Nn.app {a b : List Tr} (h : Nn a) (h' : Nn b) : Nn (a ++ b) := fun t m => (List.mem_append.1 m).elim (h t) (h' t)
def waitI (ts : List Tr) : List Int := (ts.reverse).map fun t => ((t.top.getD 0 : Nat) : Int)
theorem wait_cons {t : Tr} {ts : List Tr} : waitI (t :: ts) = waitI ts ++ [((t.top.getD 0 : Nat) : Int)] := by
  unfold waitI
  rw [List.reverse_cons, List.map_append]; rfl
section
variable {K : PySem.W.Frag} {A : Ad} {H H' : Hp} {Q : VK} {E : XK} {p q : Addr}
theorem dp_ints {is : List Int} {l : Addr} (h : H l = some (.lst (is.map V.int))) : Dp K H (.ref l) (PySem.W.Datum.toD is) := by
  refine Dp.lst (sl_of h) ?_
  clear h
  induction is with
  | nil => exact .nil
  | cons i is ih => exact .cons (.int i) ih
theorem shaped_ints (vs : List Int) : SeqAt.shaped (PySem.W.Datum.toD vs) = true := by
  have hc : ∀ vs : List Int, PyData.canLayAll0 (vs.map PySem.W.Datum.toD) = true := fun vs => by
    induction vs with
    | nil => rfl
    | cons v vs ih =>
      rw [List.map_cons, PyData.canLayAll0, ih]
      rfl
  refine Bool.and_eq_true_iff.mpr ⟨hc vs, decide_eq_true (Nat.le_trans (PySem.W.Datum.depth_le vs) ?_)⟩
  show 0 + 1 ≤ 64
  decide
theorem x_eqIs {is js : List Int} {l l' : Addr} (h : H l = some (.lst (is.map V.int))) (h' : H l' = some (.lst (js.map V.int))) (k : Q (.bl (decide (is = js))) H) : rEqD K (.ref l) (.ref l') H Q :=
  ⟨_, _, dp_ints h, dp_ints h', shaped_ints _, shaped_ints _, by rw [PySem.W.Datum.eqv]; exact k⟩
theorem x_neIs {is js : List Int} {l l' : Addr} (h : H l = some (.lst (is.map V.int))) (h' : H l' = some (.lst (js.map V.int))) (k : Q (.bl (!decide (is = js))) H) : rNeD K (.ref l) (.ref l') H Q :=
  ⟨_, _, dp_ints h, dp_ints h', shaped_ints _, shaped_ints _, by rw [PySem.W.Datum.eqv]; exact k⟩
end
theorem row_at {H : Hp} {l : Addr} {rows : List Row} {ps : List Addr} (R : RowsAt H l rows ps) {k : Nat} {x : V} (h : (ps.map V.ref)[k]? = some x) : ∃ p y, x = .ref p ∧ ps[k]? = some p ∧ rows[k]? = some y ∧ H p = some (.tup (rowV y)) := by
  rw [List.getElem?_map] at h
  obtain ⟨p, e1, rfl⟩ := Option.map_eq_some_iff.1 h
  have hk := (List.getElem?_eq_some_iff.1 e1).1
  have hk2 : k < rows.length := by rw [← R.len]; exact hk
  exact ⟨p, rows[k], rfl, e1, List.getElem?_eq_getElem hk2, R.at_ k p _ e1 (List.getElem?_eq_getElem hk2)⟩
/-! the walk in order -/
def spWalked (_ : PySem.W.Frag) : Sp := fun vs H Q _ => match vs with
  | [v] => ∃ (l : Addr) (ws : List Int) (t : Tr) (ps : List Addr), v = .ref l ∧ RowsAt H l (rowsOf ws t) ps ∧ t.size ≤ 40000 ∧ ∀ H', Fr M0 H H' → Q (.bl true) H'
  | _ => False
def tWalked (K : PySem.W.Frag) : TS :=
  (tSeq (tAsg (tLst tNil) (gName 1))
    (tSeq (tIfS (tTest (tOp oGt (tCB (oLen K) (tCons (tVar 0) tNil)) (tC (.int 0)))) (tAsg (tLst (tCons (tOp (rIxT K) (tOp (rIxL K) (tVar 0) (tC (.int 0))) (tC (.int 0))) tNil)) (gName 1)) tNext)
    (tSeq (tFor (iList K (tVar 0)) (gName 2) (tSeq (tIfS (tOr (tTest (tOp (rEqD K) (tVar 1) (tLst tNil))) (tTest (tOp rNe (tBM0 K "list" rPop (tVar 1)) (tOp (rIxT K) (tVar 2) (tC (.int 0)))))) (tRet (tC (.bl false))) tNext)
    (tFor (iList K (tLst (tCons (tOp (rIxT K) (tVar 2) (tC (.int 3))) (tCons (tOp (rIxT K) (tVar 2) (tC (.int 2))) tNil)))) (gName 3) (tIfS (tTest (tOp oNotN (tVar 3) (tC .non))) (tDrop (tBM K "list" rAppend (tVar 1) (tCons (tVar 3) tNil))) tNext))))
    (tRet (tOp (rEqD K) (tVar 1) (tLst tNil))))))
theorem flat_len {ws : List Int} {ts : List Tr} (h : Nn ts) : ts.length ≤ (ts.flatMap (rowsOf ws)).length := by
  induction ts with
  | nil => exact Nat.zero_le _
  | cons t ts ih =>
    have := ih fun u m => h u (List.mem_cons_of_mem _ m)
    rw [List.flatMap_cons, List.length_append, List.length_cons]
    cases t with
    | nil => exact absurd rfl (h .nil List.mem_cons_self)
    | node i l r =>
      have : 1 ≤ (rowsOf ws (.node i l r)).length := by show 1 ≤ (_ :: _).length; rw [List.length_cons]; omega
      omega
theorem pure_walked {K : PySem.W.Frag} {v : V} {H : Hp} {Q : VK} {E : XK} (h : spWalked K [v] H Q E) : tWalked K { nx := fun _ H' => Q .non H', rt := Q } [some v, none, none, none] H := by
  obtain ⟨l, ws, t, ps, rfl, R, hz, q⟩ := h
  have lr : (rowsOf ws t).length = t.size := rows_len t
  have lps : (ps.map V.ref).length = t.size := by rw [List.length_map, R.len, lr]
  unfold tWalked
  repeat walk_at "s1"
  refine ⟨sz_le (by simp), fun w0 hw0 => ?_⟩
  have g0 : Fr M0 H (upd H w0 (.lst [])) := Fr.new hw0
  have h0 : upd H w0 (.lst []) w0 = some (.lst []) := upd_same
  generalize upd H w0 (.lst []) = H0 at g0 h0 ⊢
  iterate 1 walk_at "s1"
  with_reducible refine x_ifS2 (P := fun σ' H' => ∃ w, σ' = [some (.ref l), some (.ref w), none, none] ∧ H w = none ∧ H' w = some (.lst ((waitI (ne t)).map V.int)) ∧ Fr M0 H H') ?_ ?_
  · rintro σ' H1 ⟨w, rfl, hw, h1, g1⟩
    have nlw : l ≠ w := fun z => by
      have := R.lst
      rw [z, hw] at this
      cases this
    with_reducible refine x_seq ?_
    refine x_forL (fun R hR => ?_) (sl_of (g1 _ _ R.lst (fun z => z))) (fun k σ H' => ∃ x2 x3 pend, σ = [some (.ref l), some (.ref w), x2, x3] ∧ Nn pend ∧ pend.flatMap (rowsOf ws) = (rowsOf ws t).drop k ∧ H' w = some (.lst ((waitI pend).map V.int)) ∧ Fr (fun b => b = w) H1 H')
      ⟨none, none, ne t, rfl, ne_nn, ne_rows, h1, Fr.refl⟩ ?_ ?_ ?_
    · repeat walk_at "s1"
      exact hR
    · rintro k σ H' _ ⟨_, _, _, _, _, _, _, f⟩
      exact sl_of (f _ _ (g1 _ _ R.lst (fun z => z)) nlw)
    · rintro k x σ H2 hx ⟨x2, x3, pend, rfl, nn, fl, h2, f2⟩
      obtain ⟨p, y, rfl, e1, e2, hp⟩ := row_at R hx
      have npw : p ≠ w := fun z => by rw [z, hw] at hp; cases hp
      have hp2 : H2 p = some (.tup (rowV y)) := f2 _ _ (g1 _ _ hp (fun z => z)) npw
      rw [drop_at e2] at fl
      obtain ⟨i, a, b, rest, rfl⟩ : ∃ i a b rest, pend = .node i a b :: rest := by
        cases pend with
        | nil => cases fl
        | cons u rest =>
          cases u with
          | nil => exact absurd rfl (nn .nil List.mem_cons_self)
          | node i a b => exact ⟨i, a, b, rest, rfl⟩
      have fl' : (⟨i, wt ws i, a.top, b.top, (Tr.node i a b).run⟩ : Row) :: ((rowsOf ws a ++ rowsOf ws b) ++ rest.flatMap (rowsOf ws)) = y :: (rowsOf ws t).drop (k + 1) := fl
      have ey := (List.cons.inj fl').1
      have er := (List.cons.inj fl').2
      have nrest : Nn rest := fun u m => nn u (List.mem_cons_of_mem _ m)
      have lrest : rest.length ≤ 40000 := by
        have h1 := flat_len (ws := ws) nrest
        have h2 := congrArg List.length er
        rw [List.length_append, List.length_drop] at h2
        omega
      rw [wait_cons] at h2
      repeat walk_at "s1"
      refine ⟨sz_le (by simp), fun w3 hw3 => ?_⟩
      have g3 : Fr M0 H2 (upd H2 w3 (.lst [])) := Fr.new hw3
      refine x_eqIs (js := []) (g3 _ _ h2 (fun z => z)) upd_same ?_
      generalize upd H2 w3 (.lst []) = H3 at g3 ⊢
      have h3 := g3 _ _ h2 (fun z => z)
      have hp3 := g3 _ _ hp2 (fun z => z)
      repeat walk_at "s1"
      refine x_F (decide_eq_false (by simp)) ?_
      repeat walk_at "s1"
      refine x_tyL (sl_of h3) ?_
      have h3' : H3 w = some (.lst ((waitI rest).map V.int ++ [V.int (i : Int)])) := by rw [h3, List.map_append]; rfl
      refine x_pop h3' (v := V.int (i : Int)) (by rw [List.length_append, List.length_singleton, Nat.add_sub_cancel, List.getElem?_append_right (Nat.le_refl _), Nat.sub_self]; rfl) ?_
      rw [List.dropLast_concat]
      have f4 : Fr (fun b => b = w) H3 (upd H3 w (.lst ((waitI rest).map V.int))) := Fr.at rfl
      have h4 : upd H3 w (.lst ((waitI rest).map V.int)) w = some (.lst ((waitI rest).map V.int)) := upd_same
      generalize upd H3 w (.lst ((waitI rest).map V.int)) = H4 at f4 h4 ⊢
      have hp4 := f4 _ _ hp3 npw
      rw [← ey] at hp4
      repeat walk_at "s1"
      refine x_ixT (st_of hp4) rfl (v := .int (i : Int)) rfl ?_
      repeat walk_at "s1"
      refine x_F (by rw [decide_eq_true rfl]; rfl) ?_
      with_reducible refine x_next ?_
      with_reducible refine x_forV ?_
      repeat walk_at "s1"
      refine x_ixT (st_of hp4) rfl (v := oV b.top) rfl ?_
      repeat walk_at "s1"
      refine x_ixT (st_of hp4) rfl (v := oV a.top) rfl ?_
      repeat walk_at "s1"
      refine ⟨sz_le (by simp), fun w5 hw5 => ?_⟩
      have g5 : Fr M0 H4 (upd H4 w5 (.lst [oV b.top, oV a.top])) := Fr.new hw5
      have h5 : upd H4 w5 (.lst [oV b.top, oV a.top]) w5 = some (.lst [oV b.top, oV a.top]) := upd_same
      have n5 : w5 ≠ w := fun z => by rw [z, h4] at hw5; cases hw5
      generalize upd H4 w5 (.lst [oV b.top, oV a.top]) = H5 at g5 h5 ⊢
      let acc : Nat → List Tr := fun j => match j with
        | 0 => rest
        | 1 => ne b ++ rest
        | _ => ne a ++ (ne b ++ rest)
      refine x_iFor (sl_of h5) (fun j σ H' => ∃ x3, σ = [some (.ref l), some (.ref w), some (.ref p), x3] ∧ H' w = some (.lst ((waitI (acc j)).map V.int)) ∧ Fr (fun b => b = w) H5 H') ⟨x3, rfl, g5 _ _ h4 (fun z => z), Fr.refl⟩ ?_ ?_ ?_
      · rintro j σ H' _ ⟨_, _, _, f⟩
        exact sl_of (f _ _ h5 n5)
      · rintro j x σ H6 hx ⟨x3, rfl, h6, f6⟩
        obtain ⟨c, ec, ea⟩ : ∃ c : Tr, x = oV c.top ∧ acc (j + 1) = ne c ++ acc j := by
          match j, hx with
          | 0, hx => exact ⟨b, (Option.some.inj hx).symm, rfl⟩
          | 1, hx => exact ⟨a, (Option.some.inj hx).symm, rfl⟩
        subst ec
        have hj : j < 2 := by
          have := (List.getElem?_eq_some_iff.1 hx).1
          exact this
        cases c with
        | nil =>
          repeat walk_at "s1"
          refine x_F rfl ?_
          with_reducible refine x_next ?_
          exact ⟨_, rfl, by rw [ea]; exact h6, f6⟩
        | node i' l' r' =>
          have la : (acc j).length ≤ 50000 := by
            match j, hj with
            | 0, _ => show rest.length ≤ _; omega
            | 1, _ =>
              show (ne b ++ rest).length ≤ _
              rw [List.length_append]
              have : (ne b).length ≤ 1 := by cases b <;> simp [ne]
              omega
          rw [show oV (Tr.node i' l' r').top = V.int (i' : Int) from rfl]
          repeat walk_at "s1"
          refine x_T rfl ?_
          repeat walk_at "s1"
          refine x_tyL (sl_of h6) ?_
          repeat walk_at "s1"
          refine x_append h6 (by rw [List.length_map]; unfold waitI; rw [List.length_map, List.length_reverse]; omega) ?_
          refine ⟨_, rfl, ?_, f6.trans (Fr.at rfl)⟩
          rw [upd_same, ea]
          show some (HO.lst ((waitI (acc j)).map V.int ++ [V.int (i' : Int)])) = some (.lst ((waitI (.node i' l' r' :: acc j)).map V.int))
          rw [wait_cons, List.map_append]; rfl
      · rintro σ H6 ⟨x3, rfl, h6, f6⟩
        refine ⟨_, _, ne a ++ (ne b ++ rest), rfl, ne_nn.app (ne_nn.app nrest), ?_, h6, f2.trans ((g3.mono fun _ z => z.elim).trans (f4.trans ((g5.mono fun _ z => z.elim).trans f6)))⟩
        rw [List.flatMap_append, List.flatMap_append, ne_rows, ne_rows, ← List.append_assoc]
        exact er
    · rintro σ H2 ⟨x2, x3, pend, rfl, nn, fl, h2, f2⟩
      have e0 : pend = [] := by
        rw [List.drop_eq_nil_of_le (by rw [lps, lr]; exact Nat.le_refl _)] at fl
        have := flat_len (ws := ws) nn
        rw [fl] at this
        exact List.eq_nil_of_length_eq_zero (by simpa using this)
      rw [e0] at h2
      repeat walk_at "s1"
      refine ⟨sz_le (by simp), fun w3 hw3 => ?_⟩
      have g3 : Fr M0 H2 (upd H2 w3 (.lst [])) := Fr.new hw3
      refine x_eqIs (is := []) (js := []) (g3 _ _ h2 (fun z => z)) upd_same ?_
      rw [decide_eq_true rfl]
      exact q _ fun b o hb _ => g3 b o (f2 b o (g1 b o hb (fun z => z)) (fun z => by rw [z, hw] at hb; cases hb)) (fun z => z)
  · intro hd
    repeat walk_at "s1"
    refine x_lenL (sl_of (g0 _ _ R.lst (fun z => z))) ?_
    repeat walk_at "s1"
    refine x_ite (fun c => ?_) (fun c => ?_)
    · cases t with
      | nil => rw [lps] at c; exact absurd c (by decide)
      | node i a b =>
        obtain ⟨p, hp⟩ : ∃ p, ps[0]? = some p := ⟨ps[0]'(by rw [R.len, lr]; show 0 < 1 + a.size + b.size; omega), List.getElem?_eq_getElem _⟩
        have hp1 := R.at_ 0 p _ hp rfl
        repeat walk_at "s1"
        refine x_ixL (sl_of (g0 _ _ R.lst (fun z => z))) rfl (at_map (n := 0) hp) ?_
        repeat walk_at "s1"
        refine x_ixT (st_of (g0 _ _ hp1 (fun z => z))) rfl (v := .int (i : Int)) rfl ?_
        repeat walk_at "s1"
        refine ⟨sz_le (by simp), fun w1 hw1 => ?_⟩
        exact hd _ _ ⟨w1, rfl, g0.free hw1, upd_same, g0.trans (Fr.new hw1)⟩
    · cases t with
      | nil =>
        with_reducible refine x_next ?_
        exact hd _ _ ⟨w0, rfl, hw0, h0, g0⟩
      | node i a b => exact absurd (by rw [lps]; show (0 : Int) < ((1 + a.size + b.size : Nat) : Int); omega) c
/-! the runs, from the last row on -/
def spRuns (_ : PySem.W.Frag) : Sp := fun vs H Q _ => match vs with
  | [v, u] => ∃ (l : Addr) (ws : List Int) (N : Nat → Nat) (rows : List Row) (ps : List Addr) (n : Nat), v = .ref l ∧ u = .int n ∧ RowsAt H l rows ps ∧ (∀ x ∈ rows, RowOk ws N (List.range n) x) ∧ Lat rows ∧ n ≤ 40000 ∧ ∀ H', Fr M0 H H' → Q (.bl true) H'
  | _ => False
def tRuns (K : PySem.W.Frag) : TS :=
  (tSeq (tAsg (tOp rRep (tLst (tCons (tC (.int 0)) tNil)) (tOp oAdd (tVar 1) (tC (.int 1)))) (gName 2))
    (tSeq (tFor (iRev K (tCons (tVar 0) tNil)) (gName 3) (tSeq (tAsg (tVar 1) (gName 4))
    (tSeq (tAsg (tVar 1) (gName 5))
    (tSeq (tIfS (tTest (tOp oNotN (tOp (rIxT K) (tVar 3) (tC (.int 2))) (tC .non))) (tAsg (tOp (rIxT K) (tVar 3) (tC (.int 2))) (gName 4)) tNext)
    (tSeq (tIfS (tTest (tOp oNotN (tOp (rIxT K) (tVar 3) (tC (.int 3))) (tC .non))) (tAsg (tOp (rIxT K) (tVar 3) (tC (.int 3))) (gName 5)) tNext)
    (tSeq (tIfS (tOr (tTest (tOp oGt (tOp (rIxL K) (tVar 2) (tVar 5)) (tOp (rIxL K) (tVar 2) (tVar 4)))) (tTest (tOp rNe (tOp (rIxT K) (tVar 3) (tC (.int 4))) (tOp oAdd (tC (.int 1)) (tOp (rIxL K) (tVar 2) (tVar 5)))))) (tRet (tC (.bl false))) tNext)
    (tAsg (tOp (rIxT K) (tVar 3) (tC (.int 4))) (gSub (tVar 2) (tOp (rIxT K) (tVar 3) (tC (.int 0))) rSetL))))))))
    (tRet (tC (.bl true)))))
theorem rep_tab (n : Nat) : (List.replicate n [V.int 0]).flatten = tab n fun _ => .int 0 := by
  unfold tab
  induction n with
  | zero => rfl
  | succ n ih =>
    rw [List.replicate_succ', List.flatten_append, ih, List.range_succ, List.map_append]
    rfl
theorem pure_runs {K : PySem.W.Frag} {v u : V} {H : Hp} {Q : VK} {E : XK} (h : spRuns K [v, u] H Q E) : tRuns K { nx := fun _ H' => Q .non H', rt := Q } [some v, some u, none, none, none, none] H := by
  obtain ⟨l, ws, N, rows, ps, n, rfl, rfl, R, ok, la, hn, q⟩ := h
  have lps : (ps.map V.ref).length = rows.length := by rw [List.length_map, R.len]
  unfold tRuns
  repeat walk_at "s1"
  refine ⟨sz_le (by simp), fun w0 hw0 => ?_⟩
  have g0 : Fr M0 H (upd H w0 (.lst [V.int 0])) := Fr.new hw0
  have h0 : upd H w0 (.lst [V.int 0]) w0 = some (.lst [V.int 0]) := upd_same
  generalize upd H w0 (.lst [V.int 0]) = H0 at g0 h0 ⊢
  repeat walk_at "s1"
  refine ⟨w0, _, _, rfl, rfl, h0, by omega, by omega, sz_le (by rw [List.length_singleton]; omega), fun r hr => ?_⟩
  rw [show ((n : Int) + 1).toNat = n + 1 by omega, rep_tab]
  have g1 : Fr M0 H0 (upd H0 r (.lst (tab (n + 1) fun _ => .int 0))) := Fr.new hr
  have h1 : upd H0 r (.lst (tab (n + 1) fun _ => .int 0)) r = some (.lst (tab (n + 1) fun _ => .int 0)) := upd_same
  generalize upd H0 r (.lst (tab (n + 1) fun _ => .int 0)) = H1 at g1 h1 ⊢
  have hrH : H r = none := g0.free hr
  have g01 := g0.trans g1
  have nlr : l ≠ r := fun z => by
    have := R.lst
    rw [z, hrH] at this
    cases this
  with_reducible refine x_seq ?_
  refine x_forRev (fun R hR => ?_) (sl_of (g01 _ _ R.lst (fun z => z))) (fun k σ H' => ∃ x3 x4 x5, ∃ a : Nat → Nat, σ = [some (.ref l), some (.int n), some (.ref r), x3, x4, x5] ∧ H' r = some (.lst (tab (n + 1) fun j => .int (a j))) ∧ a n = 0 ∧ (∀ j ∈ (rows.drop (rows.length - k)).map (fun x : Row => x.i), a j = N j) ∧ Fr (fun b => b = r) H1 H')
    ⟨none, none, none, fun _ => 0, rfl, h1, rfl, (fun j m => by rw [Nat.sub_zero, List.drop_length] at m; cases m), Fr.refl⟩ ?_ ?_ ?_
  · repeat walk_at "s1"
    exact hR
  · rintro k σ H' ⟨_, _, _, _, _, _, _, _, f⟩
    exact sl_of (f _ _ (g01 _ _ R.lst (fun z => z)) nlr)
  · rintro k x σ H2 hk hx ⟨x3, x4, x5, a, rfl, h2, an, ha, f2⟩
    rw [lps] at hk hx
    obtain ⟨p, y, rfl, e1, e2, hp⟩ := row_at R hx
    have npr : p ≠ r := fun z => by rw [z, hrH] at hp; cases hp
    have hp2 : H2 p = some (.tup (rowV y)) := f2 _ _ (g01 _ _ hp (fun z => z)) npr
    have oy := ok y (List.mem_of_getElem? e2)
    have ed : rows.drop (rows.length - 1 - k) = y :: rows.drop (rows.length - k) := by
      rw [drop_at e2]; congr 2; omega
    have ly : ∀ j, (y.l = some j ∨ y.r = some j) → j ∈ (rows.drop (rows.length - k)).map fun x : Row => x.i := by
      have := la.drop (rows.length - 1 - k)
      rw [ed] at this
      exact this.1
    have yi : y.i < n := List.mem_range.1 oy.i
    let ix : Option Nat → Nat := fun o => o.getD n
    have ixl : ∀ o, (∀ j, o = some j → j ∈ List.range n) → ix o < n + 1 := fun o h => by
      cases o with
      | none => exact Nat.lt_succ_self n
      | some j => exact Nat.lt_succ_of_lt (List.mem_range.1 (h j rfl))
    have hl1 := ixl y.l fun j e => (oy.l j e).1
    have hr1 := ixl y.r fun j e => (oy.r j e).1
    have al : a (ix y.l) = nO N y.l := by
      cases e : y.l with
      | none => exact an
      | some j => exact ha j (ly j (.inl e))
    have ar : a (ix y.r) = nO N y.r := by
      cases e : y.r with
      | none => exact an
      | some j => exact ha j (ly j (.inr e))
    iterate 6 walk_at "s1"
    with_reducible refine x_seq ?_
    with_reducible refine x_ifS2 (P := fun σ' H' => H' = H2 ∧ σ' = [some (.ref l), some (.int n), some (.ref r), some (.ref p), some (.int (ix y.l)), some (.int n)]) ?_ ?_
    · rintro σ' H' ⟨rfl, rfl⟩
      with_reducible refine x_seq ?_
      with_reducible refine x_ifS2 (P := fun σ' H2 => H2 = H' ∧ σ' = [some (.ref l), some (.int n), some (.ref r), some (.ref p), some (.int (ix y.l)), some (.int (ix y.r))]) ?_ ?_
      · rintro σ' H2 ⟨rfl, rfl⟩
        repeat walk_at "s1"
        refine x_ixL (sl_of h2) rfl (tab_at hr1) ?_
        repeat walk_at "s1"
        refine x_ixL (sl_of h2) rfl (tab_at hl1) ?_
        repeat walk_at "s1"
        refine x_F (decide_eq_false (by rw [al, ar]; have := oy.le; omega)) ?_
        repeat walk_at "s1"
        refine x_ixT (st_of hp2) rfl (v := .int (y.n : Int)) rfl ?_
        repeat walk_at "s1"
        refine x_ixL (sl_of h2) rfl (tab_at hr1) ?_
        repeat walk_at "s1"
        refine x_F (by rw [ar, show ((y.n : Nat) : Int) = 1 + ((nO N y.r : Nat) : Int) by rw [oy.nr]; omega, decide_eq_true rfl]; rfl) ?_
        repeat walk_at "s1"
        refine x_ixT (st_of hp2) rfl (v := .int (y.n : Int)) rfl ?_
        repeat walk_at "s1"
        refine x_ixT (st_of hp2) rfl (v := .int (y.i : Int)) rfl ?_
        refine x_setL h2 (tab_ix (Nat.lt_succ_of_lt yi)) ?_
        refine ⟨_, _, _, fset a y.i y.n, rfl, ?_, (fset_ne (by omega)).trans an, fun j m => ?_, f2.trans (Fr.at rfl)⟩
        · rw [upd_same, tab_set]
          congr 2
          refine tab_ext fun j _ => ?_
          show (if j = y.i then V.int (y.n : Int) else V.int (a j)) = V.int ((if j = y.i then y.n else a j : Nat) : Int)
          split <;> rfl
        · rw [show rows.length - (k + 1) = rows.length - 1 - k by omega, ed, List.map_cons] at m
          by_cases c : j = y.i
          · rw [c, fset_same]; exact oy.n
          · rw [fset_ne c]
            rcases List.mem_cons.1 m with m | m
            · exact absurd m c
            · exact ha j m
      · intro hd
        cases e : y.r with
        | none =>
          repeat walk_at "s1"
          refine x_ixT (st_of hp2) rfl (v := oV y.r) rfl ?_
          rw [e]
          repeat walk_at "s1"
          refine x_F rfl ?_
          with_reducible refine x_next ?_
          exact hd _ _ ⟨rfl, by rw [e]; rfl⟩
        | some j =>
          repeat walk_at "s1"
          refine x_ixT (st_of hp2) rfl (v := oV y.r) rfl ?_
          rw [e, show oV (some j) = V.int (j : Int) from rfl]
          repeat walk_at "s1"
          refine x_T rfl ?_
          repeat walk_at "s1"
          refine x_ixT (st_of hp2) rfl (v := oV y.r) rfl ?_
          exact hd _ _ ⟨rfl, by rw [e]; rfl⟩
    · intro hd
      cases e : y.l with
      | none =>
        repeat walk_at "s1"
        refine x_ixT (st_of hp2) rfl (v := oV y.l) rfl ?_
        rw [e]
        repeat walk_at "s1"
        refine x_F rfl ?_
        with_reducible refine x_next ?_
        exact hd _ _ ⟨rfl, by rw [e]; rfl⟩
      | some j =>
        repeat walk_at "s1"
        refine x_ixT (st_of hp2) rfl (v := oV y.l) rfl ?_
        rw [e, show oV (some j) = V.int (j : Int) from rfl]
        repeat walk_at "s1"
        refine x_T rfl ?_
        repeat walk_at "s1"
        refine x_ixT (st_of hp2) rfl (v := oV y.l) rfl ?_
        exact hd _ _ ⟨rfl, by rw [e]; rfl⟩
  · rintro σ H2 ⟨x3, x4, x5, a, rfl, h2, an, ha, f2⟩
    repeat walk_at "s1"
    exact q _ fun b o hb _ => f2 b o (g01 b o hb (fun z => z)) (fun z => by rw [z, hrH] at hb; cases hb)
section
variable {K : PySem.W.Frag} {σ : L2.St} {H : Hp} {Q : VK} {a b : Addr}
theorem x_leTF {x y z w : Int} (ha : H a = some (.tup [.int x, .int y])) (hb : H b = some (.tup [.int z, .int w])) (lt : z < x ∨ (z = x ∧ w < y)) (k : Q (.bl false) H) : rLeT K (.ref a) (.ref b) H Q := by
  refine ⟨a, b, [x, y], [z, w], rfl, rfl, st_of ha, st_of hb, ?_⟩
  have e : Ob.lexAt (fun j => decide (([x, y] : List Int).getD j 0 = ([z, w] : List Int).getD j 0)) (fun j => decide (([x, y] : List Int).getD j 0 ≤ ([z, w] : List Int).getD j 0)) (decide (([x, y] : List Int).length ≤ ([z, w] : List Int).length)) 0 (min ([x, y] : List Int).length ([z, w] : List Int).length) = false := by
    show (if decide (x = z) = true then (if decide (y = w) = true then true else decide (y ≤ w)) else decide (x ≤ z)) = false
    by_cases c : x = z
    · rw [if_pos (decide_eq_true c), if_neg (by rw [decide_eq_true_eq]; omega)]
      exact decide_eq_false (by omega)
    · rw [if_neg (by rw [decide_eq_true_eq]; exact c)]
      exact decide_eq_false (by omega)
  rw [e]; exact k
/-- a list told by a word whose test may make new things -/
theorem lcv_stepT {D : Addr} {f : Nat → Bool} {v : Nat → V} {i : Nat} {H' : Hp} {tt : TT} {te : TE} {σ2 : L2.St} (hi : i < 60000) (p : PvV H D f v i H')
    (ht : ∀ QB : Bool → Hp → Prop, (∀ H'', Fr M0 H' H'' → QB (f i) H'') → tt σ2 H' QB) (he : f i = true → ∀ H'', Fr M0 H' H'' → ∀ Q : VK, Q (v i) H'' → te σ2 H'' Q) :
    tt σ2 H' fun b H3 => if b = true then te σ2 H3 fun y H4 => ∃ acc, H4 D = some (.lst acc) ∧ acc.length < sizeLine ∧ PvV H D f v (i + 1) (upd H4 D (.lst (acc ++ [y]))) else PvV H D f v (i + 1) H3 := by
  obtain ⟨p1, p2, p3⟩ := p
  refine ht _ fun H'' f2 => ?_
  have p2' := f2 _ _ p2 (fun z => z)
  cases hf : f i with
  | true =>
    show te σ2 H'' _
    refine he hf H'' f2 _ ⟨_, p2', sz_lt (by rw [List.length_map]; have := flt_len f i; omega), p1, ?_, (p3.trans f2).mut p1⟩
    rw [flt_yes hf]; exact upd_same
  | false =>
    show PvV H D f v (i + 1) H''
    exact ⟨p1, by rw [flt_no hf]; exact p2', p3.trans f2⟩
theorem x_lcVT {tl : TE} {j : Nat} {vs : List Nat} {tt : TT} {te : TE} {xs : List V} (f : Nat → Bool) (v : Nat → V) (hv : ∀ R : VK, R (.ref a) H → tl σ H R) (hx : SqL K H a xs) (hn : xs.length ≤ 60000)
    (hw : ∀ x, wipe ((wipe σ vs).set j (some x)) vs = wipe σ vs)
    (ht : ∀ i x H', xs[i]? = some x → Fr M0 H H' → ∀ QB : Bool → Hp → Prop, (∀ H'', Fr M0 H' H'' → QB (f i) H'') → tt ((wipe σ vs).set j (some x)) H' QB)
    (he : ∀ i x H', xs[i]? = some x → Fr M0 H H' → f i = true → ∀ Q : VK, Q (v i) H' → te ((wipe σ vs).set j (some x)) H' Q)
    (k : ∀ D H', H D = none → H' D = some (.lst (((List.range xs.length).filter f).map v)) → Fr M0 H H' → Q (.ref D) H') : tLc (iList K tl) (gName j) tt te vs σ H Q :=
  hv _ ⟨a, rfl, ⟨xs, hx⟩, fun D hD => lc_list (xs := xs) (PvV H D f v) ⟨hD, upd_same, Fr.new hD⟩ (fun i H' _ p => sql_fr p.2.2 (fun z => z) hx) (fun i x H' hi p =>
    ⟨hw _, lcv_stepT (by have := (List.getElem?_eq_some_iff.mp hi).1; omega) p (ht i x H' hi p.2.2) (fun hf H'' f2 => he i x H'' hi (p.2.2.trans f2) hf)⟩) fun H' p => k D H' p.1 p.2.1 p.2.2⟩
end
/-! == of rows -/
section
variable {K : PySem.W.Frag} {H : Hp} {Q : VK}
def oD : Option Nat → PyData
  | none => .none
  | some k => .int k
def rowD (x : G.Row) : PyData := .tuple [.int x.i, .int x.w, oD x.l, oD x.r, .int x.n]
theorem dp_o {o : Option Nat} : Dp K H (oV o) (oD o) := by
  cases o with
  | none => exact .non
  | some k => exact .int _
theorem dp_row {p : Addr} {x : G.Row} (h : H p = some (.tup (rowV x))) : Dp K H (.ref p) (rowD x) := Dp.tup (st_of h) (.cons (.int _) (.cons (.int _) (.cons dp_o (.cons dp_o (.cons (.int _) .nil)))))
theorem dp_rows : ∀ {rows : List G.Row} {ps : List Addr}, ps.length = rows.length → (∀ (k : Nat) (p : Addr) (x : G.Row), ps[k]? = some p → rows[k]? = some x → H p = some (.tup (rowV x))) → DpAll K H (ps.map V.ref) (rows.map rowD)
  | [], [], _, _ => .nil
  | [], _ :: _, h, _ => nomatch h
  | _ :: _, [], h, _ => nomatch h
  | x :: rows, p :: ps, h, ha => .cons (dp_row (ha 0 p x rfl rfl)) (dp_rows (Nat.succ.inj h) fun k q y e1 e2 => ha (k + 1) q y e1 e2)
theorem lay_rows : ∀ rows : List G.Row, PyData.canLayAll0 (rows.map rowD) = true
  | [] => rfl
  | x :: rows => by
    rw [List.map_cons, PyData.canLayAll0, lay_rows rows, Bool.and_true]
    obtain ⟨i, w, l, r, n⟩ := x
    cases l <;> cases r <;> rfl
theorem depth_rows : ∀ rows : List G.Row, PyData.depthAll (rows.map rowD) ≤ 1
  | [] => Nat.zero_le _
  | x :: rows => by
    rw [List.map_cons, PyData.depthAll]
    have := depth_rows rows
    have h2 : (rowD x).depth ≤ 1 := by
      obtain ⟨i, w, l, r, n⟩ := x
      cases l <;> cases r <;> exact Nat.le_refl 1
    exact Nat.max_le.2 ⟨h2, this⟩
theorem shaped_rows (rows : List G.Row) : SeqAt.shaped (.list (rows.map rowD)) = true := by
  refine Bool.and_eq_true_iff.mpr ⟨lay_rows rows, decide_eq_true ?_⟩
  have := depth_rows rows
  show PyData.depthAll (rows.map rowD) + 1 ≤ 64
  omega
theorem x_eqRows {rows : List G.Row} {l l' : Addr} {ps qs : List Addr} (h : RowsAt H l rows ps) (h' : RowsAt H l' rows qs) (k : Q (.bl true) H) : rEqD K (.ref l) (.ref l') H Q :=
  ⟨_, _, .lst (sl_of h.lst) (dp_rows h.len h.at_), .lst (sl_of h'.lst) (dp_rows h'.len h'.at_), shaped_rows rows, shaped_rows rows, by
    rw [SeqAt.eqv_refl (.list (rows.map rowD)) (lay_rows rows)]; exact k⟩
end
/-- two rising lists of the same numbers are one -/
theorem rise_uniq : ∀ {a b : List Int}, a.Pairwise (· ≤ ·) → b.Pairwise (· ≤ ·) → a.Perm b → a = b
  | [], b, _, _, h => (List.Perm.eq_nil h.symm).symm
  | x :: a, [], _, _, h => absurd h.length_eq (by simp)
  | x :: a, y :: b, ha, hb, h => by
    obtain ⟨a1, a2⟩ := List.pairwise_cons.1 ha
    obtain ⟨b1, b2⟩ := List.pairwise_cons.1 hb
    have h1 : y ≤ x := by
      rcases List.mem_cons.1 (h.mem_iff.1 (List.mem_cons_self (a := x) (l := a))) with e | m
      · omega
      · exact b1 x m
    have h2 : x ≤ y := by
      rcases List.mem_cons.1 (h.mem_iff.2 (List.mem_cons_self (a := y) (l := b))) with e | m
      · omega
      · exact a1 y m
    have e : x = y := by omega
    subst e
    rw [rise_uniq a2 b2 h.cons_inv]
theorem rows_fr {H H' : Hp} {l : Addr} {rows : List G.Row} {ps : List Addr} (R : RowsAt H l rows ps) (f : Fr M0 H H') : RowsAt H' l rows ps := ⟨f _ _ R.lst (fun z => z), R.len, fun k p x e1 e2 => f _ _ (R.at_ k p x e1 e2) (fun z => z)⟩
section
variable {K : PySem.W.Frag} {σ : L2.St} {H : Hp} {Q : VK} {a : Addr}
theorem x_lstRg {te : TE} (k : te σ H fun x H1 => ∃ n, x = .int n ∧ RgOk 0 n ∧ ∀ q, H1 q = none → Q (.ref q) (upd H1 q (.lst (rgV 0 n)))) : tLstRg (tRg1 te) σ H Q := k
theorem rg_eq (n : Nat) : rgV 0 (n : Int) = ((List.range n).map fun i => ((i : Nat) : Int)).map V.int := by
  unfold rgV
  rw [show ((n : Int) - 0).toNat = n by omega, List.map_map]
  refine List.map_congr_left fun i _ => ?_
  show V.int (0 + (i : Int)) = V.int (i : Int)
  rw [Int.zero_add]
theorem range_rise (n : Nat) : ((List.range n).map fun i => ((i : Nat) : Int)).Pairwise (· ≤ ·) := by
  rw [List.pairwise_map]
  exact List.pairwise_lt_range.imp fun h => by omega
theorem range_getD {α β : Type} (l : List α) (d : α) (f : α → β) : (List.range l.length).map (fun j => f (l.getD j d)) = l.map f := by
  refine List.ext_getElem? fun j => ?_
  rw [List.getElem?_map, List.getElem?_map]
  by_cases h : j < l.length
  · rw [List.getElem?_range h, List.getElem?_eq_getElem h, Option.map_some, Option.map_some, List.getD_eq_getElem?_getD, List.getElem?_eq_getElem h]; rfl
  · rw [List.getElem?_eq_none (by rw [List.length_range]; omega), List.getElem?_eq_none (by omega)]; rfl
end
end G

/-! how much work a deed may be -/
namespace G
theorem lev_mono {a b : Nat} (h : a ≤ b) : lev a ≤ lev b := by
  have h1 := lev_le (n := a)
  have h2 := lev_lt (n := b)
  have := (Nat.pow_lt_pow_iff_right (by decide : 1 < 2)).1 (show 2 ^ lev a < 2 ^ (lev b + 1) by omega)
  omega
/-- both stand: one less than both runs -/
theorem cnt_le1 (ws : List Int) : ∀ t u : Tr, t ≠ .nil → u ≠ .nil → cnt ws t u + 1 ≤ t.run + u.run
  | .nil, u, h, _ => absurd rfl h
  | .node a la ra, .nil, _, h => absurd rfl h
  | .node a la ra, .node b lb rb, _, _ => by
    by_cases h : Les ws b a
    · rw [cnt_l h]
      show 1 + _ + 1 ≤ (1 + ra.run) + (1 + rb.run)
      by_cases e : rb = .nil
      · subst e; rw [cnt_nil]; omega
      · have := cnt_le1 ws rb (.node a la ra) e (fun z => nomatch z)
        have e : (Tr.node a la ra).run = 1 + ra.run := rfl
        omega
    · rw [cnt_r h]
      show 1 + _ + 1 ≤ (1 + ra.run) + (1 + rb.run)
      by_cases e : ra = .nil
      · subst e; rw [cnt_nil]; omega
      · have := cnt_le1 ws ra (.node b lb rb) e (fun z => nomatch z)
        have e : (Tr.node b lb rb).run = 1 + rb.run := rfl
        omega
termination_by t u => t.size + u.size
decreasing_by
  · simp only [Tr.size]; omega
  · simp only [Tr.size]; omega
theorem side1_run {f : Frm} {s : Tr} : (side1 f s).run = 1 + min f.2.2.run s.run := by
  unfold side1
  split
  · rw [side_run, Nat.min_comm]
  · rw [side_run]
theorem fill_size : ∀ (c : List Frm) (s : Tr), s.size ≤ (fill c s).size := fun c s => by
  rw [← Tr.nodes_len, ← Tr.nodes_len, (fill_perm (c := c) (s := s)).length_eq, List.length_append]
  omega
/-- looks, going up -/
theorem rise_looks : ∀ {c : List Frm} {s s' : Tr} {k : Nat}, Lft (fill c s) → s'.run = k → k < s.run → (rise c s.run s').2 + k ≤ lev (fill c s).size
  | [], s, s', k, h, _, hk => by
    have := run_lev (t := s) h
    show 0 + k ≤ lev s.size
    omega
  | f :: c, s, s', k, h, e, hk => by
    have hp := lft_fill (c := c) (s := put1 f s) h
    obtain ⟨p1, p2, p3⟩ := lft_put1.1 hp
    have er : (put1 f s).run = 1 + min f.2.2.run s.run := by
      obtain ⟨i, b, t⟩ := f
      cases b with
      | true =>
        have p1 : t.run ≤ s.run := p1
        show 1 + t.run = 1 + min t.run s.run
        omega
      | false =>
        have p1 : s.run ≤ t.run := p1
        show 1 + s.run = 1 + min t.run s.run
        omega
    unfold rise
    split
    · rename_i ne
      rw [side1_run, e, ← put1_run, er] at ne
      have hs : (side1 f s').run = k + 1 := by rw [side1_run, e]; omega
      have := rise_looks (c := c) (s := put1 f s) (s' := side1 f s') (k := k + 1) h hs (by rw [er]; omega)
      rw [put1_run] at this
      show (rise c (oldRun f s.run) (side1 f s')).2 + 1 + k ≤ lev (fill c (put1 f s)).size
      omega
    · have h1 := run_lev p2
      have h2 : lev s.size ≤ lev (fill (f :: c) s).size := lev_mono (fill_size _ _)
      show 1 + k ≤ _
      omega
theorem FS.put_work {fs : FS} (g : fs.Good) {k : Nat} {w : Int} : (fs.put k w).sp ≤ lev (fs.tree k).size := by
  show cnt (fs.ws ++ [w]) (fs.tree k) (.node fs.ws.length .nil .nil) ≤ _
  by_cases e : fs.tree k = .nil
  · rw [e, cnt_nil]; exact Nat.zero_le _
  · have h1 := cnt_le1 (fs.ws ++ [w]) (fs.tree k) (.node fs.ws.length .nil .nil) e (fun z => nomatch z)
    have h2 := run_lev (g.lft k)
    have h3 : (Tr.node fs.ws.length .nil .nil).run = 1 := rfl
    omega
theorem FS.take_work {fs : FS} (g : fs.Good) {k i : Nat} {l r : Tr} (e : fs.tree k = .node i l r) : (fs.take k).sp ≤ 2 * lev (fs.tree k).size := by
  have lf := g.lft k
  rw [FS.take_eq e]
  rw [e] at lf ⊢
  show cnt fs.ws l r ≤ 2 * lev (1 + l.size + r.size)
  have h1 := cnt_le fs.ws l r
  have h2 := run_lev lf.2.1
  have h3 := run_lev lf.2.2
  have h4 : lev l.size ≤ lev (1 + l.size + r.size) := lev_mono (by omega)
  have h5 : lev r.size ≤ lev (1 + l.size + r.size) := lev_mono (by omega)
  omega
theorem FS.pour_work {fs : FS} (g : fs.Good) {k m : Nat} : (fs.pour k m).sp ≤ lev (fs.tree k).size + lev (fs.tree m).size := by
  show cnt fs.ws (fs.tree k) (fs.tree m) ≤ _
  have h1 := cnt_le fs.ws (fs.tree k) (fs.tree m)
  have h2 := run_lev (g.lft k)
  have h3 := run_lev (g.lft m)
  omega
theorem FS.sink_work {fs : FS} (g : fs.Good) {i h : Nat} {w : Int} (e : fs.home i = some h) : (fs.sink i w).sp ≤ 3 * lev (fs.tree h).size := by
  have key : ∀ fs', SinkTo fs i w fs' → fs'.sp ≤ 3 * lev (fs.tree h).size := fun fs' s => by
    cases s with
    | top => exact Nat.zero_le _
    | stay => exact Nat.zero_le _
    | @move h' f c s hh e' ht l =>
      have hm : i ∈ (fs.tree h').nodes := by rw [e']; exact (fill_perm.mem_iff).2 (List.mem_append_left _ (Tr.top_mem ht))
      have eh : h' = h := by
        have := FS.home_of g.ok hm
        rw [e] at this; exact (Option.some.inj this).symm
      subst eh
      have lf := g.lft h'
      rw [e'] at lf ⊢
      have hs : 0 < s.run := by
        cases s with
        | nil => cases ht
        | node j a b => show 0 < 1 + b.run; omega
      have h1 := rise_looks (s' := .nil) (k := 0) lf rfl hs
      have h2 := cnt_le (fs.ws.set i w) (rise (f :: c) s.run .nil).1 s
      have h3 := run_lev (lft_rise (s' := .nil) lf trivial)
      have h4 := run_lev (lft_fill lf)
      have h5 : lev s.size ≤ lev (fill (f :: c) s).size := lev_mono (fill_size _ _)
      have h6 : lev (rise (f :: c) s.run .nil).1.size ≤ lev (fill (f :: c) s).size := by
        refine lev_mono ?_
        rw [← Tr.nodes_len, ← Tr.nodes_len, (rise_perm (c := f :: c) (old := s.run) (s := .nil)).length_eq, (fill_perm (c := f :: c) (s := s)).length_eq, List.length_append, List.length_append]
        exact Nat.add_le_add_right (Nat.zero_le _) _
      show (rise (f :: c) s.run .nil).2 + cnt (fs.ws.set i w) (rise (f :: c) s.run .nil).1 s ≤ _
      omega
  exact key _ (FS.sink_to e)
section
open PySem PySem.Spec PyProof.Rows L2
/-- range(n), n told by a call -/
theorem x_forR1F {σ : L2.St} {H : Hp} {D : Ends} {j : Nat} {tb : TS} {tl : TA} (n : Nat) (hv : ∀ R : List V → Hp → Prop, (∀ H1, Fr M0 H H1 → R [.int n] H1) → tl σ H R) (hn : n ≤ 1000000) (P : Nat → L2.St → Hp → Prop) (h0 : ∀ H1, Fr M0 H H1 → P 0 σ H1)
    (hs : ∀ i σ H, i < n → P i σ H → tb { D with nx := P (i + 1), ct := P (i + 1), bk := D.nx } (σ.set j (some (.int i))) H) (hd : ∀ σ H, P n σ H → D.nx σ H) : tFor (iRng1 tl) (gName j) tb D σ H :=
  hv _ fun H1 f => ⟨n, rfl, by omega, by omega, for_range (lo := 0) (n := n) P (h0 H1 f) (fun i σ H hi p => by
    have e0 : (0 : Int) + (i : Int) = (i : Int) := Int.zero_add _
    show tb { D with nx := P (i + 1), ct := P (i + 1), bk := D.nx } (σ.set j (some (.int ((0 : Int) + (i : Int))))) H
    rw [e0]
    exact hs i σ H hi p) hd⟩
end
section
open PySem PySem.Spec PyProof.Rows L2
/-- heaps made in a row, their numbers told -/
theorem x_lcHeaps {K : PySem.W.Frag} {A : Ad} {σ : L2.St} {H : Hp} {Q : VK} {F : FdA} {fs0 : FS} {j n : Nat} {tl : TA} {te : TE} {vs : List Nat} (hF : FieldAt A H F fs0) (g0 : fs0.Good) (t0 : fs0.ts.length = 0) (hv : ∀ R : List V → Hp → Prop, R [.int n] H → tl σ H R) (hn : n ≤ 60000)
    (hw : ∀ x, wipe ((wipe σ vs).set j (some x)) vs = wipe σ vs) (he : ∀ i H' (Q : VK), (∀ fs, FieldAt A H' F fs → sp_F_heap K A [.ref F.f] H' Q E0 → te ((wipe σ vs).set j (some (.int (i : Nat)))) H' Q))
    (k : ∀ D H' fs, H D = none → H' D = some (.lst (((List.range n).map fun i => ((i : Nat) : Int)).map V.int)) → FieldAt A H' F fs → fs.Good → fs.ts.length = n → fs.ws = fs0.ws → fs.sp = fs0.sp → Fr F.own H H' → Q (.ref D) H') : tLc (iRng1 tl) (gName j) tYes te vs σ H Q :=
  hv _ ⟨n, rfl, by omega, by omega, fun D hD => lc_range (lo := 0) (n := n) (fun i H' => ∃ fs, FieldAt A H' F fs ∧ fs.Good ∧ fs.ts.length = i ∧ fs.ws = fs0.ws ∧ fs.sp = fs0.sp ∧ H' D = some (.lst (((List.range i).map fun i => ((i : Nat) : Int)).map V.int)) ∧ Fr F.own H H')
    ⟨fs0, field_fr hF (Fr.new hD), g0, t0, rfl, rfl, upd_same, Fr.new hD⟩ (fun i H' hi ⟨fs, hF', g, et, ew, es, hl, f⟩ => by
      have e0 : (0 : Int) + (i : Int) = (i : Int) := Int.zero_add _
      rw [e0]
      refine ⟨hw _, ?_⟩
      show te _ H' _
      have nD := own_new hF hD
      refine he i H' _ fs hF' (y_heap hF' (by omega) fun H4 hF4 f4 => ?_)
      have h4 := f4 _ _ hl nD
      refine ⟨_, h4, sz_lt (by rw [List.length_map, List.length_map, List.length_range]; omega), fs.addHeap, hF4.fr (M := fun b => b = D) (Fr.at rfl) (fun x m e => nD (by rw [← e]; exact m)) (ne_own hF4 h4), g.addHeap, ?_, ew, es, ?_, (f.trans f4).mut hD⟩
      · show (fs.ts ++ [Tr.nil]).length = i + 1
        rw [List.length_append, et]; rfl
      · rw [upd_same, et, List.range_succ, List.map_append, List.map_append]; rfl) fun H' ⟨fs, hF', g, et, ew, es, hl, f⟩ => k D H' fs hD hl hF' g et ew es f⟩
end
end G

namespace Sk11
open PySem PySem.Spec L2 G
open PyProof.Rows hiding Fr cnt
def ExcFacts_k11 (_ : PySem.W.Frag) (_ : Ad) : Prop := True
abbrev kI (i : Nat) : Key := .inl (i : Int)
def note (ws : List Int) (S : CS) (i : Nat) : List V := [.int (wt ws i), oV (S.L i), oV (S.R i), .int (S.N i)]
abbrev dct (ks : List Nat) (ad : Nat → Addr) : List (Key × V) := ks.map fun i => (kI i, V.ref (ad i))
/-- the law's notes: the dict at d, its keys, where the note of each thing stands -/
structure Nts (H : Hp) (d : Addr) (ks : List Nat) (ad : Nat → Addr) (ws : List Int) (S : CS) : Prop where
  dict : H d = some (.dK (dct ks ad))
  at_ : ∀ i ∈ ks, H (ad i) = some (.lst (note ws S i))
  nd : ks.Nodup
  inj : ∀ i ∈ ks, ∀ j ∈ ks, ad i = ad j → i = j
  len : ks.length ≤ 1000
def NM (ks : List Nat) (ad : Nat → Addr) (b : Addr) : Prop := ∃ i ∈ ks, b = ad i
/-- a thing stands at one place at the most, and U tells under which -/
def UI (S : CS) (U : Nat → Option Nat) (ks : List Nat) : Prop := ∀ k ∈ ks, ∀ x, (S.L k = some x ∨ S.R k = some x) → U x = some k
/-- a heap's tree, as the notes have it -/
structure Fit (S : CS) (ks : List Nat) (t : Tr) : Prop where
  sh : Shape S t
  ru : Runs S t
  nd : t.nodes.Nodup
  sub : ∀ j ∈ t.nodes, j ∈ ks
/-- what a thing that sinks makes of its heap's tree -/
def sunkT (ws : List Int) (i : Nat) (t : Tr) : List Frm → Tr → Tr × Nat
  | [], _ => (t, 0)
  | f :: c, s => if Les ws f.1 i then (t, 0) else (mrg ws (rise (f :: c) s.run .nil).1 s, (rise (f :: c) s.run .nil).2 + cnt ws (rise (f :: c) s.run .nil).1 s)
def sp_l_cell (K : PySem.W.Frag) (_ : Ad) : Sp := fun vs H Q _ => match vs with
  | [v, u] => ∃ (a : Addr) (ns : List Int) (k : Nat), v = .ref a ∧ u = .int k ∧ SqL K H a (ns.map V.int) ∧ Q (.int (ns.getD k 0)) H
  | _ => False
def sp_l_weight (_ : PySem.W.Frag) (_ : Ad) : Sp := fun vs H Q _ => match vs with
  | [v, u] => ∃ (c k : Int), v = .int c ∧ u = .int k ∧ ∀ w, Q (.int w) H
  | _ => False
def sp_l_noted (_ : PySem.W.Frag) (_ : Ad) : Sp := fun vs H Q _ => match vs with
  | [v, u] => ∃ (d l : Addr) (ks : List Nat) (ad : Nat → Addr) (ws : List Int) (S : CS) (rows : List G.Row) (ps : List Addr), v = .ref d ∧ u = .ref l ∧ Nts H d ks ad ws S ∧ RowsAt H l rows ps ∧
    (ks ++ rows.map fun x => x.i).Nodup ∧ (ks ++ rows.map fun x => x.i).length ≤ 1000 ∧ (∀ x ∈ rows, x.w = wt ws x.i ∧ x.l = S.L x.i ∧ x.r = S.R x.i ∧ x.n = S.N x.i) ∧
    ∀ H' ad', Nts H' d (ks ++ rows.map fun x => x.i) ad' ws S → (∀ b, NM (ks ++ rows.map fun x => x.i) ad' b → NM ks ad b ∨ H b = none) → G.Fr (fun b => b = d) H H' → Q .non H'
  | _ => False
def sp_l_run (_ : PySem.W.Frag) (_ : Ad) : Sp := fun vs H Q _ => match vs with
  | [v, u] => ∃ (d : Addr) (ks : List Nat) (ad : Nat → Addr) (ws : List Int) (S : CS) (o : Option Nat), v = .ref d ∧ u = oV o ∧ Nts H d ks ad ws S ∧ (∀ j, o = some j → j ∈ ks) ∧ Q (.int (S.run o)) H
  | _ => False
def sp_l_sided (_ : PySem.W.Frag) (_ : Ad) : Sp := fun vs H Q _ => match vs with
  | [v, u] => ∃ (d : Addr) (ks : List Nat) (ad : Nat → Addr) (ws : List Int) (S : CS) (i : Nat), v = .ref d ∧ u = .int i ∧ Nts H d ks ad ws S ∧ i ∈ ks ∧ (∀ j, S.L i = some j → j ∈ ks ∧ j ≠ i) ∧ (∀ j, S.R i = some j → j ∈ ks ∧ j ≠ i) ∧
    ∀ H', Nts H' d ks ad ws (S.sided i) → G.Fr (NM ks ad) H H' → Q .non H'
  | _ => False
def sp_l_joined (_ : PySem.W.Frag) (_ : Ad) : Sp := fun vs H Q _ => match vs with
  | [v, u, y] => ∃ (d : Addr) (ks : List Nat) (ad : Nat → Addr) (ws : List Int) (S : CS) (t r : Tr), v = .ref d ∧ u = oV t.top ∧ y = oV r.top ∧ Nts H d ks ad ws S ∧ Fit S ks t ∧ Fit S ks r ∧ (t.nodes ++ r.nodes).Nodup ∧
    ∀ H' S' p, Nts H' d ks ad ws S' → Fit S' ks (mrg ws t r) → H p = none → H' p = some (.tup [oV (mrg ws t r).top, .int (cnt ws t r)]) → G.Fr (NM ks ad) H H' → Q (.ref p) H'
  | _ => False
def sp_l_above (_ : PySem.W.Frag) (_ : Ad) : Sp := fun vs H Q _ => match vs with
  | [v, u] => ∃ (d : Addr) (ks : List Nat) (ad : Nat → Addr) (ws : List Int) (S : CS) (x : Nat), v = .ref d ∧ u = .int x ∧ Nts H d ks ad ws S ∧
    ∀ o : Option Nat, (∀ k, o = some k → k ∈ ks ∧ (S.L k = some x ∨ S.R k = some x)) → (o = none → ∀ k ∈ ks, S.L k ≠ some x ∧ S.R k ≠ some x) → Q (oV o) H
  | _ => False
def sp_l_sunk (_ : PySem.W.Frag) (_ : Ad) : Sp := fun vs H Q _ => match vs with
  | [v, u, y, z] => ∃ (d : Addr) (ks : List Nat) (ad : Nat → Addr) (ws : List Int) (S : CS) (t : Tr) (c : List Frm) (s : Tr) (i : Nat) (w : Int), v = .ref d ∧ u = oV t.top ∧ y = .int i ∧ z = .int w ∧ Nts H d ks ad ws S ∧ Fit S ks t ∧ Upp S t none ∧ UI S S.U ks ∧
    locate t i = some (c, s) ∧ i < ws.length ∧
    ∀ H' S' p, Nts H' d ks ad (ws.set i w) S' → Fit S' ks (sunkT (ws.set i w) i t c s).1 → H p = none → H' p = some (.tup [oV (sunkT (ws.set i w) i t c s).1.top, .int (sunkT (ws.set i w) i t c s).2]) → G.Fr (NM ks ad) H H' → Q (.ref p) H'
  | _ => False
def sp_l_told (_ : PySem.W.Frag) (_ : Ad) : Sp := fun vs H Q _ => match vs with
  | [v, u] => ∃ (d : Addr) (ks : List Nat) (ad : Nat → Addr) (ws : List Int) (S : CS) (t : Tr), v = .ref d ∧ u = oV t.top ∧ Nts H d ks ad ws S ∧ Fit S ks t ∧
    ∀ H' l ps, RowsAt H' l (rowsOf ws t) ps → G.Fr M0 H H' → Q (.ref l) H'
  | _ => False
def sp_l_top (_ : PySem.W.Frag) (_ : Ad) : Sp := fun vs H Q _ => match vs with
  | [v] => ∃ (l : Addr) (ws : List Int) (t : Tr) (ps : List Addr), v = .ref l ∧ RowsAt H l (rowsOf ws t) ps ∧ t.size ≤ 1000 ∧ ∀ H', G.Fr M0 H H' → Q (oV t.top) H'
  | _ => False
/-- does the deed leave the other heap empty? -/
def Empties (fs : FS) (h0 : Nat) (c : Int) : Prop := c % 4 = 2 ∨ (fs.tree h0 = .nil ∧ c % 4 ≠ 0)
def sp_l_due (_ : PySem.W.Frag) (A : Ad) : Sp := fun vs H Q _ => match vs with
  | [v, u, y, z, x, e] => ∃ (F : FdA) (fs : FS) (lh d lr l0 l1 : Addr) (h0 h1 : Nat) (ks : List Nat) (ad : Nat → Addr) (S : CS) (ps0 ps1 : List Addr) (c m : Int), v = .ref F.f ∧ u = .ref lh ∧ y = .ref d ∧ z = .ref lr ∧ x = .int c ∧ e = .int m ∧
    FieldAt A H F fs ∧ fs.Good ∧ fs.ws.length ≤ 500 ∧ h0 < fs.ts.length ∧ h1 < fs.ts.length ∧ h0 ≠ h1 ∧ H lh = some (.lst [.int h0, .int h1]) ∧ H lr = some (.lst [.ref l0, .ref l1]) ∧ RowsAt H l0 (rowsOf fs.ws (fs.tree h0)) ps0 ∧ RowsAt H l1 (rowsOf fs.ws (fs.tree h1)) ps1 ∧
    Nts H d ks ad fs.ws S ∧ Fit S ks (fs.tree h0) ∧ Fit S ks (fs.tree h1) ∧ Upp S (fs.tree h0) none ∧ UI S S.U ks ∧ (∀ k ∈ ks, k < fs.ws.length) ∧ ks.length ≤ 900 ∧
    ¬ F.own d ∧ (∀ b, NM ks ad b → ¬ F.own b) ∧ (∀ b, (b = lh ∨ b = lr ∨ b = l0 ∨ b = l1) → ¬ F.own b) ∧
    ∀ H' fs' ks' ad' S' p, FieldAt A H' F fs' → fs'.Good → fs'.ts.length = fs.ts.length → fs'.ws.length ≤ 501 → Nts H' d ks' ad' fs'.ws S' → Fit S' ks' (fs'.tree h0) → H p = none → H' p = some (.tup [oV (fs'.tree h0).top, .int fs'.sp]) →
      (Empties fs h0 c → fs'.tree h1 = .nil) → (¬ Empties fs h0 c → fs'.tree h1 = fs.tree h1 ∧ rowsOf fs'.ws (fs.tree h1) = rowsOf fs.ws (fs.tree h1)) → G.Fr (fun b => F.own b ∨ b = d ∨ NM ks ad b) H H' → Q (.ref p) H'
  | _ => False
def sp_l_done (_ : PySem.W.Frag) (A : Ad) : Sp := fun vs H Q _ => match vs with
  | [v, u, y, z, x, e] => ∃ (F : FdA) (fs : FS) (h o : Nat) (k m n : Int), v = .ref F.f ∧ u = .int h ∧ y = .int o ∧ z = .int k ∧ x = .int m ∧ e = .int n ∧ FieldAt A H F fs ∧ fs.Good ∧ fs.ws.length ≤ 500 ∧ h < fs.ts.length ∧ o < fs.ts.length ∧ h ≠ o ∧
    ∀ H' fs', FieldAt A H' F fs' → fs'.Good → fs'.ts.length = fs.ts.length → fs'.ws.length ≤ fs.ws.length + 1 → G.Fr F.own H H' → Q .non H'
  | _ => False
def sp_law (K : PySem.W.Frag) (_ : Ad) : Sp := spLaw K
def t_l_cell (K : PySem.W.Frag) (A : Ad) (E : XK) : TS :=
  (tSeq (tIfS (tTest (tOp oLt (tVar 1) (tCB (oLen K) (tCons (tVar 0) tNil)))) (tRet (tOp (rIxL K) (tVar 0) (tVar 1))) tNext)
    (tRet (tC (.int 0))))
def t_l_weight (K : PySem.W.Frag) (A : Ad) (E : XK) : TS :=
  (tSeq (tIfS (tTest (tOp rEq (tOp oMod (tVar 0) (tC (.int 4))) (tC (.int 0)))) (tRet (tOp oSub (tOp oMod (tOp oDiv (tVar 0) (tC (.int 4))) (tC (.int 9))) (tC (.int 4)))) tNext)
    (tSeq (tIfS (tTest (tOp rEq (tOp oMod (tVar 0) (tC (.int 4))) (tC (.int 1)))) (tRet (tOp oSub (tOp oMod (tOp oDiv (tVar 0) (tC (.int 4))) (tC (.int 2001))) (tC (.int 1000)))) tNext)
    (tSeq (tIfS (tTest (tOp rEq (tOp oMod (tVar 0) (tC (.int 4))) (tC (.int 2)))) (tRet (tOp oMod (tOp oDiv (tVar 0) (tC (.int 4))) (tC (.int 3)))) tNext)
    (tRet (tUn oNeg (tVar 1))))))
def t_l_noted (K : PySem.W.Frag) (A : Ad) (E : XK) : TS :=
  (tFor (iList K (tVar 1)) (gName 2) (sDPut (tVar 0) (tOp (rIxT K) (tVar 2) (tC (.int 0))) (tLst (tCons (tOp (rIxT K) (tVar 2) (tC (.int 1))) (tCons (tOp (rIxT K) (tVar 2) (tC (.int 2))) (tCons (tOp (rIxT K) (tVar 2) (tC (.int 3))) (tCons (tOp (rIxT K) (tVar 2) (tC (.int 4))) tNil)))))))
def t_l_run (K : PySem.W.Frag) (A : Ad) (E : XK) : TS :=
  (tSeq (tIfS (tTest (tOp oIsN (tVar 1) (tC .non))) (tRet (tC (.int 0))) tNext)
    (tRet (tOp (rIxL K) (tDGet (tVar 0) (tVar 1)) (tC (.int 3)))))
def t_l_sided (K : PySem.W.Frag) (A : Ad) (E : XK) : TS :=
  (tSeq (tAsg (tDGet (tVar 0) (tVar 1)) (gName 2))
    (tSeq (tIfS (tTest (tOp oGt (tCall (sp_l_run K A) [] E0 (tCons (tVar 0) (tCons (tOp (rIxL K) (tVar 2) (tC (.int 2))) tNil))) (tCall (sp_l_run K A) [] E0 (tCons (tVar 0) (tCons (tOp (rIxL K) (tVar 2) (tC (.int 1))) tNil))))) (tSeq (tAsg (tOp (rIxL K) (tVar 2) (tC (.int 1))) (gName 3))
    (tSeq (tAsg (tOp (rIxL K) (tVar 2) (tC (.int 2))) (gSub (tVar 2) (tC (.int 1)) rSetL))
    (tAsg (tVar 3) (gSub (tVar 2) (tC (.int 2)) rSetL)))) tNext)
    (tAsg (tOp oAdd (tC (.int 1)) (tCall (sp_l_run K A) [] E0 (tCons (tVar 0) (tCons (tOp (rIxL K) (tVar 2) (tC (.int 2))) tNil)))) (gSub (tVar 2) (tC (.int 3)) rSetL))))
def t_l_joined (K : PySem.W.Frag) (A : Ad) (E : XK) : TS :=
  (tSeq (tAsg (tLst tNil) (gName 3))
    (tSeq (tWhile (tAnd (tTest (tOp oNotN (tVar 1) (tC .non))) (tTest (tOp oNotN (tVar 2) (tC .non)))) (tIfS (tTest (tOp (rLtT K) (tTup (tCons (tOp (rIxL K) (tDGet (tVar 0) (tVar 2)) (tC (.int 0))) (tCons (tVar 2) tNil))) (tTup (tCons (tOp (rIxL K) (tDGet (tVar 0) (tVar 1)) (tC (.int 0))) (tCons (tVar 1) tNil))))) (tSeq (tDrop (tBM K "list" rAppend (tVar 3) (tCons (tVar 2) tNil)))
    (tAsg (tOp (rIxL K) (tDGet (tVar 0) (tVar 2)) (tC (.int 2))) (gName 2))) (tSeq (tDrop (tBM K "list" rAppend (tVar 3) (tCons (tVar 1) tNil)))
    (tAsg (tOp (rIxL K) (tDGet (tVar 0) (tVar 1)) (tC (.int 2))) (gName 1)))))
    (tSeq (tAsg (tVar 1) (gName 4))
    (tSeq (tIfS (tTest (tOp oIsN (tVar 4) (tC .non))) (tAsg (tVar 2) (gName 4)) tNext)
    (tSeq (tFor (iRng1 (tCons (tCB (oLen K) (tCons (tVar 3) tNil)) tNil)) (gName 5) (tSeq (tAsg (tOp (rIxL K) (tVar 3) (tOp oSub (tOp oSub (tCB (oLen K) (tCons (tVar 3) tNil)) (tC (.int 1))) (tVar 5))) (gName 6))
    (tSeq (tAsg (tVar 4) (gSub (tDGet (tVar 0) (tVar 6)) (tC (.int 2)) rSetL))
    (tSeq (tDrop (tCall (sp_l_sided K A) [] E0 (tCons (tVar 0) (tCons (tVar 6) tNil))))
    (tAsg (tVar 6) (gName 4))))))
    (tRet (tTup (tCons (tVar 4) (tCons (tCB (oLen K) (tCons (tVar 3) tNil)) tNil)))))))))
def t_l_above (K : PySem.W.Frag) (A : Ad) (E : XK) : TS :=
  (tSeq (tLock (tFor (iKeys (tVar 0)) (gName 2) (tIfS (tOr (tTest (tOp rEq (tOp (rIxL K) (tDGet (tVar 0) (tVar 2)) (tC (.int 1))) (tVar 1))) (tTest (tOp rEq (tOp (rIxL K) (tDGet (tVar 0) (tVar 2)) (tC (.int 2))) (tVar 1)))) (tRet (tVar 2)) tNext)))
    (tRet (tC .non)))
def t_l_sunk (K : PySem.W.Frag) (A : Ad) (E : XK) : TS :=
  (tSeq (tAsg (tVar 3) (gSub (tDGet (tVar 0) (tVar 2)) (tC (.int 0)) rSetL))
    (tSeq (tAsg (tCall (sp_l_above K A) [] E0 (tCons (tVar 0) (tCons (tVar 2) tNil))) (gName 4))
    (tSeq (tIfS (tOr (tTest (tOp oIsN (tVar 4) (tC .non))) (tTest (tOp (rLtT K) (tTup (tCons (tOp (rIxL K) (tDGet (tVar 0) (tVar 4)) (tC (.int 0))) (tCons (tVar 4) tNil))) (tTup (tCons (tVar 3) (tCons (tVar 2) tNil)))))) (tRet (tTup (tCons (tVar 1) (tCons (tC (.int 0)) tNil)))) tNext)
    (tSeq (tAsg (tC (.int 1)) (gName 5))
    (tSeq (tIfS (tTest (tOp rEq (tOp (rIxL K) (tDGet (tVar 0) (tVar 4)) (tC (.int 2))) (tVar 2))) (tAsg (tC (.int 2)) (gName 5)) tNext)
    (tSeq (tAsg (tC .non) (gSub (tDGet (tVar 0) (tVar 4)) (tVar 5) rSetL))
    (tSeq (tAsg (tC (.int 0)) (gName 6))
    (tSeq (tAsg (tC (.bl true)) (gName 7))
    (tSeq (tWhile (tAnd (tTest (tOp oNotN (tVar 4) (tC .non))) (tB (tVar 7))) (tSeq (tAsg (tOp (rIxL K) (tDGet (tVar 0) (tVar 4)) (tC (.int 3))) (gName 8))
    (tSeq (tDrop (tCall (sp_l_sided K A) [] E0 (tCons (tVar 0) (tCons (tVar 4) tNil))))
    (tSeq (tAsg (tOp oAdd (tVar 6) (tC (.int 1))) (gName 6))
    (tSeq (tAsg (tOp rNe (tOp (rIxL K) (tDGet (tVar 0) (tVar 4)) (tC (.int 3))) (tVar 8)) (gName 7))
    (tAsg (tCall (sp_l_above K A) [] E0 (tCons (tVar 0) (tCons (tVar 4) tNil))) (gName 4)))))))
    (tSeq (tAsg (tCall (sp_l_joined K A) [] E0 (tCons (tVar 0) (tCons (tVar 1) (tCons (tVar 2) tNil)))) (gName 9))
    (tRet (tTup (tCons (tOp (rIxT K) (tVar 9) (tC (.int 0))) (tCons (tOp oAdd (tVar 6) (tOp (rIxT K) (tVar 9) (tC (.int 1)))) tNil))))))))))))))
def t_l_told (K : PySem.W.Frag) (A : Ad) (E : XK) : TS :=
  (tSeq (tAsg (tLst tNil) (gName 2))
    (tSeq (tAsg (tLst (tCons (tVar 1) tNil)) (gName 3))
    (tSeq (tWhile (tTest (tOp (rNeD K) (tVar 3) (tLst tNil))) (tSeq (tAsg (tBM0 K "list" rPop (tVar 3)) (gName 4))
    (tIfS (tTest (tOp oNotN (tVar 4) (tC .non))) (tSeq (tAsg (tDGet (tVar 0) (tVar 4)) (gName 5))
    (tSeq (tDrop (tBM K "list" rAppend (tVar 2) (tCons (tTup (tCons (tVar 4) (tCons (tOp (rIxL K) (tVar 5) (tC (.int 0))) (tCons (tOp (rIxL K) (tVar 5) (tC (.int 1))) (tCons (tOp (rIxL K) (tVar 5) (tC (.int 2))) (tCons (tOp (rIxL K) (tVar 5) (tC (.int 3))) tNil)))))) tNil)))
    (tSeq (tDrop (tBM K "list" rAppend (tVar 3) (tCons (tOp (rIxL K) (tVar 5) (tC (.int 2))) tNil)))
    (tDrop (tBM K "list" rAppend (tVar 3) (tCons (tOp (rIxL K) (tVar 5) (tC (.int 1))) tNil)))))) tNext)))
    (tRet (tVar 2)))))
def t_l_top (K : PySem.W.Frag) (A : Ad) (E : XK) : TS :=
  (tSeq (tIfS (tTest (tOp (rEqD K) (tVar 0) (tLst tNil))) (tRet (tC .non)) tNext)
    (tRet (tOp (rIxT K) (tOp (rIxL K) (tVar 0) (tC (.int 0))) (tC (.int 0)))))
def t_l_due (K : PySem.W.Frag) (A : Ad) (E : XK) : TS :=
  (tSeq (tAsg (tCall (sp_l_top K A) [] E0 (tCons (tOp (rIxL K) (tVar 3) (tC (.int 0))) tNil)) (gName 6))
    (tSeq (tIfS (tTest (tOp rEq (tOp oMod (tVar 4) (tC (.int 4))) (tC (.int 0)))) (tSeq (tAsg (tCall (sp_l_weight K A) [] E0 (tCons (tVar 5) (tCons (tOp oMod (tVar 5) (tC (.int 50))) tNil))) (gName 7))
    (tSeq (tAsg (tMeth A.CF "put" (sp_F_put K A) [] E0 (tVar 0) (tCons (tOp (rIxL K) (tVar 1) (tC (.int 0))) (tCons (tVar 7) tNil))) (gName 8))
    (tSeq (sDPut (tVar 2) (tVar 8) (tLst (tCons (tVar 7) (tCons (tC .non) (tCons (tC .non) (tCons (tC (.int 1)) tNil))))))
    (tRet (tCall (sp_l_joined K A) [] E0 (tCons (tVar 2) (tCons (tVar 6) (tCons (tVar 8) tNil)))))))) tNext)
    (tSeq (tIfS (tAnd (tTest (tOp rEq (tOp oMod (tVar 4) (tC (.int 4))) (tC (.int 1)))) (tTest (tOp oNotN (tVar 6) (tC .non)))) (tSeq (tDrop (tMeth A.CF "take" (sp_F_take K A) [] E0 (tVar 0) (tCons (tOp (rIxL K) (tVar 1) (tC (.int 0))) tNil)))
    (tRet (tCall (sp_l_joined K A) [] E0 (tCons (tVar 2) (tCons (tOp (rIxL K) (tDGet (tVar 2) (tVar 6)) (tC (.int 1))) (tCons (tOp (rIxL K) (tDGet (tVar 2) (tVar 6)) (tC (.int 2))) tNil)))))) tNext)
    (tSeq (tIfS (tOr (tTest (tOp rEq (tOp oMod (tVar 4) (tC (.int 4))) (tC (.int 2)))) (tTest (tOp oIsN (tVar 6) (tC .non)))) (tSeq (tDrop (tMeth A.CF "pour" (sp_F_pour K A) [] E0 (tVar 0) (tCons (tOp (rIxL K) (tVar 1) (tC (.int 0))) (tCons (tOp (rIxL K) (tVar 1) (tC (.int 1))) tNil))))
    (tRet (tCall (sp_l_joined K A) [] E0 (tCons (tVar 2) (tCons (tVar 6) (tCons (tCall (sp_l_top K A) [] E0 (tCons (tOp (rIxL K) (tVar 3) (tC (.int 1))) tNil)) tNil)))))) tNext)
    (tSeq (tAsg (tOp (rIxT K) (tOp (rIxL K) (tOp (rIxL K) (tVar 3) (tC (.int 0))) (tOp oMod (tVar 5) (tCB (oLen K) (tCons (tOp (rIxL K) (tVar 3) (tC (.int 0))) tNil)))) (tC (.int 0))) (gName 8))
    (tSeq (tAsg (tOp oDiv (tVar 5) (tCB (oLen K) (tCons (tOp (rIxL K) (tVar 3) (tC (.int 0))) tNil))) (gName 9))
    (tSeq (tAsg (tOp oSub (tOp (rIxL K) (tDGet (tVar 2) (tVar 8)) (tC (.int 0))) (tOp oMul (tOp oMod (tOp oDiv (tVar 9) (tC (.int 2))) (tC (.int 60))) (tOp oAdd (tC (.int 1)) (tOp oMul (tOp oMod (tVar 9) (tC (.int 2))) (tC (.int 997)))))) (gName 7))
    (tSeq (tDrop (tMeth A.CF "sink" (sp_F_sink K A) [] E0 (tVar 0) (tCons (tVar 8) (tCons (tVar 7) tNil))))
    (tRet (tCall (sp_l_sunk K A) [] E0 (tCons (tVar 2) (tCons (tVar 6) (tCons (tVar 8) (tCons (tVar 7) tNil))))))))))))))
def t_l_done (K : PySem.W.Frag) (A : Ad) (E : XK) : TS :=
  (tSeq (tAsg (tMeth A.CF "tree" (sp_F_tree K A) [] E0 (tVar 0) (tCons (tVar 1) tNil)) (gName 6))
    (tIfS (tAnd (tTest (tOp rEq (tVar 3) (tC (.int 8)))) (tTest (tOp (rNeD K) (tVar 6) (tLst tNil)))) (tDrop (tMeth A.CF "take" (sp_F_take K A) [] E0 (tVar 0) (tCons (tVar 1) tNil))) (tIfS (tAnd (tTest (tOp rEq (tVar 3) (tC (.int 7)))) (tTest (tOp (rNeD K) (tVar 6) (tLst tNil)))) (tSeq (tAsg (tOp (rIxL K) (tVar 6) (tOp oMod (tVar 4) (tCB (oLen K) (tCons (tVar 6) tNil)))) (gName 7))
    (tDrop (tMeth A.CF "sink" (sp_F_sink K A) [] E0 (tVar 0) (tCons (tOp (rIxT K) (tVar 7) (tC (.int 0))) (tCons (tOp oSub (tOp (rIxT K) (tVar 7) (tC (.int 1))) (tOp oMod (tOp oDiv (tVar 4) (tCB (oLen K) (tCons (tVar 6) tNil))) (tC (.int 40)))) tNil))))) (tIfS (tAnd (tTest (tOp rEq (tVar 3) (tC (.int 6)))) (tTest (tOp rEq (tOp oMod (tVar 4) (tC (.int 4))) (tC (.int 0))))) (tDrop (tMeth A.CF "pour" (sp_F_pour K A) [] E0 (tVar 0) (tCons (tVar 1) (tCons (tVar 2) tNil)))) (tDrop (tMeth A.CF "put" (sp_F_put K A) [] E0 (tVar 0) (tCons (tVar 1) (tCons (tCall (sp_l_weight K A) [] E0 (tCons (tVar 4) (tCons (tVar 5) tNil))) tNil))))))))
def t_law (K : PySem.W.Frag) (A : Ad) (E : XK) : TS :=
  (tSeq (tAsg (tMake A.CF (sp_F_init K A) [] E0 tNil) (gName 1))
    (tSeq (tAsg (tCall (sp_l_cell K A) [] E0 (tCons (tVar 0) (tCons (tC (.int 0)) tNil))) (gName 2))
    (tSeq (tAsg (tOp oMod (tCall (sp_l_cell K A) [] E0 (tCons (tVar 0) (tCons (tC (.int 2)) tNil))) (tC (.int 5))) (gName 3))
    (tSeq (tIfS (tTest (tOp rEq (tOp oMod (tOp oDiv (tCall (sp_l_cell K A) [] E0 (tCons (tVar 0) (tCons (tC (.int 2)) tNil))) (tC (.int 5))) (tC (.int 4))) (tC (.int 1)))) (tAsg (tOp oMod (tOp oDiv (tCall (sp_l_cell K A) [] E0 (tCons (tVar 0) (tCons (tC (.int 2)) tNil))) (tC (.int 20))) (tC (.int 99))) (gName 3)) tNext)
    (tSeq (tIfS (tTest (tOp (rNeD K) (tLc (iRng1 (tCons (tOp oAdd (tVar 3) (tC (.int 2))) tNil)) (gName 4) tYes (tMeth A.CF "heap" (sp_F_heap K A) [] E0 (tVar 1) tNil) [4]) (tLstRg (tRg1 (tOp oAdd (tVar 3) (tC (.int 2))))))) (tRet (tC (.bl false))) tNext)
    (tSeq (tAsg (tLst (tCons (tVar 3) (tCons (tOp oAdd (tVar 3) (tC (.int 1))) tNil))) (gName 5))
    (tSeq (tIfS (tTest (tOp rEq (tOp oMod (tOp oDiv (tVar 2) (tC (.int 4))) (tC (.int 2))) (tC (.int 1)))) (tAsg (tLst (tCons (tOp oAdd (tVar 3) (tC (.int 1))) (tCons (tVar 3) tNil))) (gName 5)) tNext)
    (tSeq (tFor (iRng2 (tCons (tC (.int 3)) (tCons (tCB oMin2 (tCons (tC (.int 290)) (tCons (tCB (oLen K) (tCons (tVar 0) tNil)) tNil))) tNil))) (gName 4) (tSeq (tAsg (tOp oMod (tOp (rIxL K) (tVar 0) (tVar 4)) (tC (.int 2))) (gName 6))
    (tDrop (tCall (sp_l_done K A) [] E0 (tCons (tVar 1) (tCons (tOp (rIxL K) (tVar 5) (tVar 6)) (tCons (tOp (rIxL K) (tVar 5) (tOp oSub (tC (.int 1)) (tVar 6))) (tCons (tOp oMod (tOp oDiv (tOp (rIxL K) (tVar 0) (tVar 4)) (tC (.int 2))) (tC (.int 9))) (tCons (tOp oDiv (tOp (rIxL K) (tVar 0) (tVar 4)) (tC (.int 18))) (tCons (tVar 4) tNil))))))))))
    (tSeq (tAsg (tLst (tCons (tMeth A.CF "tree" (sp_F_tree K A) [] E0 (tVar 1) (tCons (tOp (rIxL K) (tVar 5) (tC (.int 0))) tNil)) (tCons (tMeth A.CF "tree" (sp_F_tree K A) [] E0 (tVar 1) (tCons (tOp (rIxL K) (tVar 5) (tC (.int 1))) tNil)) tNil))) (gName 7))
    (tSeq (tAsg tDNewK (gName 8))
    (tSeq (tDrop (tCall (sp_l_noted K A) [] E0 (tCons (tVar 8) (tCons (tOp (rIxL K) (tVar 7) (tC (.int 0))) tNil))))
    (tSeq (tDrop (tCall (sp_l_noted K A) [] E0 (tCons (tVar 8) (tCons (tOp (rIxL K) (tVar 7) (tC (.int 1))) tNil))))
    (tSeq (tAsg (tCall (sp_l_due K A) [] E0 (tCons (tVar 1) (tCons (tVar 5) (tCons (tVar 8) (tCons (tVar 7) (tCons (tVar 2) (tCons (tCall (sp_l_cell K A) [] E0 (tCons (tVar 0) (tCons (tC (.int 1)) tNil))) tNil))))))) (gName 9))
    (tSeq (tIfS (tOr (tTest (tOp rNe (tMeth A.CF "work" (sp_F_work K A) [] E0 (tVar 1) tNil) (tOp (rIxT K) (tVar 9) (tC (.int 1))))) (tTest (tOp (rNeD K) (tMeth A.CF "tree" (sp_F_tree K A) [] E0 (tVar 1) (tCons (tOp (rIxL K) (tVar 5) (tC (.int 0))) tNil)) (tCall (sp_l_told K A) [] E0 (tCons (tVar 8) (tCons (tOp (rIxT K) (tVar 9) (tC (.int 0))) tNil)))))) (tRet (tC (.bl false))) tNext)
    (tSeq (tIfS (tOr (tTest (tOp rEq (tOp oMod (tVar 2) (tC (.int 4))) (tC (.int 2)))) (tAnd (tTest (tOp (rEqD K) (tOp (rIxL K) (tVar 7) (tC (.int 0))) (tLst tNil))) (tTest (tOp rNe (tOp oMod (tVar 2) (tC (.int 4))) (tC (.int 0)))))) (tRet (tOp (rEqD K) (tMeth A.CF "tree" (sp_F_tree K A) [] E0 (tVar 1) (tCons (tOp (rIxL K) (tVar 5) (tC (.int 1))) tNil)) (tLst tNil))) tNext)
    (tRet (tOp (rEqD K) (tMeth A.CF "tree" (sp_F_tree K A) [] E0 (tVar 1) (tCons (tOp (rIxL K) (tVar 5) (tC (.int 1))) tNil)) (tOp (rIxL K) (tVar 7) (tC (.int 1))))))))))))))))))))
section
variable {K : PySem.W.Frag} {A : Ad} {H H' : Hp} {Q : VK} {E : XK} {v0 v1 v2 v3 v4 v5 : V}
/-! ### the notes -/
section
variable {d : Addr} {ks : List Nat} {ad : Nat → Addr} {ws ws' : List Int} {S S' : CS} {i : Nat}
theorem kI_inj {i j : Nat} (h : kI i = kI j) : i = j := by
  have h : (Sum.inl (i : Int) : Int ⊕ Str) = Sum.inl (j : Int) := h
  have := Sum.inl.inj h
  omega
theorem valV_dct : ∀ {ks : List Nat}, i ∈ ks → valV (dct ks ad) (kI i) = some (V.ref (ad i))
  | [], h => nomatch h
  | k :: ks, h => by
    show valV ((kI k, V.ref (ad k)) :: dct ks ad) (kI i) = _
    by_cases e : k = i
    · subst e; exact valV_pos (p := (kI k, V.ref (ad k))) rfl
    · rw [valV_neg (fun z => e (kI_inj z))]
      exact valV_dct ((List.mem_cons.1 h).resolve_left fun z => e z.symm)
theorem valV_dct_none : ∀ {ks : List Nat}, i ∉ ks → valV (dct ks ad) (kI i) = none
  | [], _ => rfl
  | k :: ks, h => by
    show valV ((kI k, V.ref (ad k)) :: dct ks ad) (kI i) = _
    rw [valV_neg (fun z => h (by rw [← kI_inj z]; exact List.mem_cons_self))]
    exact valV_dct_none fun z => h (List.mem_cons_of_mem _ z)
theorem note_eq {a b : Option Nat} {n : Nat} (hl : S'.L i = a) (hr : S'.R i = b) (hn : S'.N i = n) : [V.int (wt ws i), oV a, oV b, V.int (n : Int)] = note ws S' i := by unfold note; rw [hl, hr, hn]
theorem note_congr (hl : S'.L i = S.L i) (hr : S'.R i = S.R i) (hn : S'.N i = S.N i) : note ws S' i = note ws S i := by unfold note; rw [hl, hr, hn]
theorem Nts.get (N : Nts H d ks ad ws S) (hi : i ∈ ks) : DGet H d (.int i) (some (.ref (ad i))) := .inl ⟨_, kI i, .inl N.dict, rfl, (valV_dct hi).symm⟩
theorem Nts.sq (N : Nts H d ks ad ws S) (hi : i ∈ ks) : SqL K H (ad i) (note ws S i) := sl_of (N.at_ i hi)
theorem Nts.ne (N : Nts H d ks ad ws S) (hi : i ∈ ks) : d ≠ ad i := ne_of N.dict (N.at_ i hi) (by intro z; cases z)
theorem Nts.fr {M : Addr → Prop} (N : Nts H d ks ad ws S) (f : G.Fr M H H') (hd : ¬ M d) (hm : ∀ i ∈ ks, ¬ M (ad i)) : Nts H' d ks ad ws S := ⟨f _ _ N.dict hd, fun i hi => f _ _ (N.at_ i hi) (hm i hi), N.nd, N.inj, N.len⟩
theorem Nts.fr0 (N : Nts H d ks ad ws S) (f : G.Fr M0 H H') : Nts H' d ks ad ws S := N.fr f (fun z => z) (fun _ _ z => z)
theorem Nts.nn (N : Nts H d ks ad ws S) {b : Addr} (h : H b = none) : ¬ NM ks ad b := fun ⟨i, hi, e⟩ => by
  have := N.at_ i hi
  rw [← e, h] at this; cases this
theorem Nts.set (N : Nts H d ks ad ws S) (hi : i ∈ ks) {xs : List V} (e : xs = note ws' S' i) (ho : ∀ j ∈ ks, j ≠ i → note ws' S' j = note ws S j) : Nts (upd H (ad i) (.lst xs)) d ks ad ws' S' := by
  refine ⟨by rw [upd_ne (N.ne hi)]; exact N.dict, fun j hj => ?_, N.nd, N.inj, N.len⟩
  by_cases c : j = i
  · subst c; rw [upd_same, e]
  · rw [upd_ne (fun z => c (N.inj j hj i hi z)), ho j hj c]; exact N.at_ j hj
theorem Nts.at_fr (N : Nts H d ks ad ws S) (hi : i ∈ ks) {xs : List V} : G.Fr (NM ks ad) H (upd H (ad i) (.lst xs)) := Fr.at ⟨i, hi, rfl⟩
theorem Nts.ghost (N : Nts H d ks ad ws S) (hl : S'.L = S.L) (hr : S'.R = S.R) (hn : S'.N = S.N) : Nts H d ks ad ws S' := ⟨N.dict, fun i hi => by
  have : note ws S' i = note ws S i := by unfold note; rw [hl, hr, hn]
  rw [this]; exact N.at_ i hi, N.nd, N.inj, N.len⟩
end
theorem x_ltT {a b : Addr} {x y z w : Int} (ha : H a = some (.tup [.int x, .int y])) (hb : H b = some (.tup [.int z, .int w])) (k : Q (.bl (decide (Lex (x, y) (z, w)))) H) : rLtT K (.ref a) (.ref b) H Q := by
  refine ⟨a, b, [x, y], [z, w], rfl, rfl, st_of ha, st_of hb, ?_⟩
  have e : HT.lexLt [x, y] [z, w] = decide (Lex (x, y) (z, w)) := by
    unfold Lex
    simp only [HT.lexLt]
    by_cases c : x = z <;> by_cases c2 : y = w <;> simp [c, c2] <;> omega
  rw [e]; exact k
theorem lex_les {ws : List Int} {i j : Nat} : Lex (wt ws i, (i : Int)) (wt ws j, (j : Int)) ↔ Les ws i j := by
  unfold Lex Les
  show wt ws i < wt ws j ∨ (wt ws i = wt ws j ∧ (i : Int) < (j : Int)) ↔ _
  omega
theorem upd_back {a : Addr} {o x : HO} (h : H a = some o) : upd (upd H a x) a o = H := by
  funext b
  by_cases c : b = a
  · subst c; rw [upd_same, h]
  · rw [upd_ne c, upd_ne c]
theorem Nts.add {d b : Addr} {ks : List Nat} {ad : Nat → Addr} {ws ws' : List Int} {S S' : CS} {i : Nat} (N : Nts H d ks ad ws S) (hi : i ∉ ks) (hb : H b = none) {xs : List V} (e : xs = note ws' S' i) (ho : ∀ j ∈ ks, note ws' S' j = note ws S j) (hl : ks.length < 1000) :
    Nts (upd (upd H b (.lst xs)) d (.dK (putK (dct ks ad) (kI i) (V.ref b)))) d (ks ++ [i]) (fun j => if j = i then b else ad j) ws' S' := by
  have nj : ∀ j ∈ ks, j ≠ i := fun j hj z => hi (by rw [← z]; exact hj)
  have db : d ≠ b := ne_of_none N.dict hb
  have ne : ∀ j ∈ ks, ad j ≠ b := fun j hj => ne_of_none (N.at_ j hj) hb
  refine ⟨?_, fun j hj => ?_, ?_, fun j hj k hk => ?_, by rw [List.length_append, List.length_singleton]; omega⟩
  · rw [upd_same, putK_new _ (valV_dct_none hi)]
    show some (HO.dK (dct ks ad ++ [(kI i, V.ref b)])) = some (.dK ((ks ++ [i]).map fun j => (kI j, V.ref (if j = i then b else ad j))))
    rw [List.map_append, List.map_congr_left (g := fun j => (kI j, V.ref (ad j))) (fun j hj => by rw [if_neg (nj j hj)])]
    show _ = some (HO.dK (dct ks ad ++ [(kI i, V.ref (if i = i then b else ad i))]))
    rw [if_pos rfl]
  · rcases List.mem_append.1 hj with hj | hj
    · rw [if_neg (nj j hj), upd_ne (fun z => N.ne hj z.symm), upd_ne (ne j hj), N.at_ j hj, ho j hj]
    · have c : j = i := by simpa using hj
      subst c
      rw [if_pos rfl, upd_ne db.symm, upd_same, e]
  · exact List.nodup_append.2 ⟨N.nd, by simp, fun a ha c hc => by
      have : c = i := by simpa using hc
      rw [this]; exact nj a ha⟩
  · have hj' : j ∈ ks ∨ j = i := (List.mem_append.1 hj).imp id fun z => by simpa using z
    have hk' : k ∈ ks ∨ k = i := (List.mem_append.1 hk).imp id fun z => by simpa using z
    rcases hj' with hj | hj <;> rcases hk' with hk | hk
    · rw [if_neg (nj j hj), if_neg (nj k hk)]; exact N.inj j hj k hk
    · rw [if_neg (nj j hj), if_pos hk]; exact fun z => absurd z (ne j hj)
    · rw [if_pos hj, if_neg (nj k hk)]; exact fun z => absurd z.symm (ne k hk)
    · exact fun _ => by rw [hj, hk]
theorem Nts.add_nm {H0 : Hp} {b : Addr} {ks : List Nat} {ad : Nat → Addr} {i : Nat} (hb : H b = none) {x : Addr} (h : NM (ks ++ [i]) (fun j => if j = i then b else ad j) x) : NM ks ad x ∨ H x = none := by
  obtain ⟨j, hj, e⟩ := h
  have e : x = if j = i then b else ad j := e
  by_cases c : j = i
  · right
    rw [if_pos c] at e
    rw [e]; exact hb
  · left
    rw [if_neg c] at e
    exact ⟨j, (List.mem_append.1 hj).resolve_right (by simpa using c), e⟩
theorem pure_l_cell (_ : Ok K A) (h : sp_l_cell K A [v0, v1] H Q E) : t_l_cell K A E { nx := fun _ H' => Q .non H', rt := Q } [some v0, some v1] H := by
  obtain ⟨a, ns, k, rfl, rfl, hS, q⟩ := h
  have hl : (ns.map V.int).length = ns.length := List.length_map ..
  unfold t_l_cell
  repeat walk_at "s1"
  refine x_lenL hS ?_
  repeat walk_at "s1"
  rw [hl]
  refine x_ite (fun hk => ?_) (fun hk => ?_)
  · have hk' : k < ns.length := by omega
    repeat walk_at "s1"
    refine x_ixL hS rfl (at_map (List.getElem?_eq_getElem hk')) ?_
    rw [List.getD_eq_getElem?_getD, List.getElem?_eq_getElem hk'] at q
    exact q
  · repeat walk_at "s1"
    rw [List.getD_eq_getElem?_getD, List.getElem?_eq_none (by omega)] at q
    exact q
theorem pure_l_weight (_ : Ok K A) (h : sp_l_weight K A [v0, v1] H Q E) : t_l_weight K A E { nx := fun _ H' => Q .non H', rt := Q } [some v0, some v1] H := by
  obtain ⟨c, k0, rfl, rfl, k⟩ := h
  unfold t_l_weight
  repeat walk_at "s1"
  refine x_mod (by decide) ?_
  repeat walk_at "s1"
  refine x_ite (fun _ => ?_) (fun _ => ?_)
  · repeat walk_at "s1"
    refine x_div (by decide) ?_
    repeat walk_at "s1"
    refine x_mod (by decide) ?_
    repeat walk_at "s1"
    exact k _
  repeat walk_at "s1"
  refine x_mod (by decide) ?_
  repeat walk_at "s1"
  refine x_ite (fun _ => ?_) (fun _ => ?_)
  · repeat walk_at "s1"
    refine x_div (by decide) ?_
    repeat walk_at "s1"
    refine x_mod (by decide) ?_
    repeat walk_at "s1"
    exact k _
  repeat walk_at "s1"
  refine x_mod (by decide) ?_
  repeat walk_at "s1"
  refine x_ite (fun _ => ?_) (fun _ => ?_)
  · repeat walk_at "s1"
    refine x_div (by decide) ?_
    repeat walk_at "s1"
    refine x_mod (by decide) ?_
    exact k _
  repeat walk_at "s1"
  exact k _
theorem take_snoc {α : Type} {l : List α} {i : Nat} {x : α} (h : l[i]? = some x) : l.take (i + 1) = l.take i ++ [x] := by
  rw [List.take_add_one, h]; rfl
theorem pure_l_noted (_ : Ok K A) (h : sp_l_noted K A [v0, v1] H Q E) : t_l_noted K A E { nx := fun _ H' => Q .non H', rt := Q } [some v0, some v1, none] H := by
  obtain ⟨d, l, ks, ad, ws, S, rows, ps, rfl, rfl, N, R, nd, hl, hr, k⟩ := h
  have nld : l ≠ d := ne_of R.lst N.dict (by intro z; cases z)
  have hmap : ∀ {i : Nat} {y : G.Row}, rows[i]? = some y → (rows.take (i + 1)).map (fun x : G.Row => x.i) = (rows.take i).map (fun x : G.Row => x.i) ++ [y.i] := fun h => by rw [take_snoc h, List.map_append]; rfl
  unfold t_l_noted
  refine x_forL (a := l) (xs := ps.map V.ref) (fun R hR => ?_) (sl_of R.lst) (fun i σ H' => ∃ ad' x2, σ = [some (.ref d), some (.ref l), x2] ∧ Nts H' d (ks ++ (rows.take i).map fun x => x.i) ad' ws S ∧ (∀ b, NM (ks ++ (rows.take i).map fun x => x.i) ad' b → NM ks ad b ∨ H b = none) ∧ G.Fr (fun b => b = d) H H')
    ⟨ad, none, rfl, by rw [List.take_zero, List.map_nil, List.append_nil]; exact N, (fun b hb => .inl (by rw [List.take_zero, List.map_nil, List.append_nil] at hb; exact hb)), G.Fr.refl⟩ ?_ ?_ ?_
  · repeat walk_at "s1"
    exact hR
  · rintro i σ H' _ ⟨_, _, _, _, _, f⟩
    exact sl_of (f _ _ R.lst nld)
  · rintro i x σ H' hx ⟨ad', x2, rfl, N', nm, f⟩
    obtain ⟨p, y, rfl, _, hy, hp⟩ := row_at R hx
    have ypos := (List.getElem?_eq_some_iff.1 hy).1
    have hp' : H' p = some (.tup (rowV y)) := f _ _ hp (ne_of hp N.dict (by intro z; cases z))
    have sp := st_of (K := K) hp'
    obtain ⟨e1, e2, e3, e4⟩ := hr y (List.mem_of_getElem? hy)
    have nd2 := nd
    rw [← List.take_append_drop (i + 1) rows, List.map_append, hmap hy, ← List.append_assoc, ← List.append_assoc] at nd2
    have ni : y.i ∉ ks ++ (rows.take i).map fun x => x.i := fun m => (List.nodup_append.1 (List.nodup_append.1 nd2).1).2.2 y.i m y.i (by simp) rfl
    have ll : (ks ++ (rows.take i).map fun x : G.Row => x.i).length < 1000 := by
      rw [List.length_append, List.length_map] at hl
      rw [List.length_append, List.length_map, List.length_take]
      omega
    repeat walk_at "s1"
    refine x_ixT sp rfl (v := .int y.w) rfl ?_
    repeat walk_at "s1"
    refine x_ixT sp rfl (v := oV y.l) rfl ?_
    repeat walk_at "s1"
    refine x_ixT sp rfl (v := oV y.r) rfl ?_
    repeat walk_at "s1"
    refine x_ixT sp rfl (v := .int (y.n : Int)) rfl ?_
    repeat walk_at "s1"
    refine ⟨sz_le (by simp), fun b hb => ?_⟩
    have sp2 := st_of (K := K) ((Fr.new hb : G.Fr M0 H' (upd H' b (.lst [.int y.w, oV y.l, oV y.r, .int (y.n : Int)]))) _ _ hp' (fun z => z))
    repeat walk_at "s1"
    refine x_ixT sp2 rfl (v := .int (y.i : Int)) rfl ?_
    have N2 := N'.add ni hb (xs := [.int y.w, oV y.l, oV y.r, .int y.n]) (ws' := ws) (S' := S) (by unfold note; rw [e1, e2, e3, e4]) (fun _ _ => rfl) ll
    refine ⟨d, _, rfl, DPut.k (k := kI y.i) (v := V.ref b) (by rw [upd_ne (ne_of_none N'.dict hb)]; exact N'.dict) ?_, ?_⟩
    · refine sz_lt ?_
      rw [List.length_map]; omega
    · refine ⟨_, _, rfl, by rw [hmap hy, ← List.append_assoc]; exact N2, fun c hc => ?_, f.trans ((Fr.new (M := M0) hb).mono (fun _ z => z.elim) |>.trans (Fr.at rfl))⟩
      rw [hmap hy, ← List.append_assoc] at hc
      rcases Nts.add_nm (H0 := H) hb hc with z | z
      · exact nm c z
      · refine .inr ?_
        cases c0 : H c with
        | none => rfl
        | some o =>
          by_cases cd : c = d
          · rw [cd, N'.dict] at z; cases z
          · rw [f _ _ c0 cd] at z; cases z
  · rintro σ H' ⟨ad', x2, rfl, N', nm, f⟩
    rw [List.take_of_length_le (by rw [List.length_map, R.len]; exact Nat.le_refl _)] at N' nm
    repeat walk_at "s1"
    exact k H' ad' N' nm f
theorem pure_l_run (_ : Ok K A) (h : sp_l_run K A [v0, v1] H Q E) : t_l_run K A E { nx := fun _ H' => Q .non H', rt := Q } [some v0, some v1] H := by
  obtain ⟨d, ks, ad, ws, S, o, rfl, rfl, N, ho, k⟩ := h
  unfold t_l_run
  repeat walk_at "s1"
  rw [dec_oV]
  cases o with
  | none =>
    refine x_T rfl ?_
    repeat walk_at "s1"
    exact k
  | some i =>
    have hi := ho i rfl
    refine x_F rfl ?_
    repeat walk_at "s1"
    refine ⟨d, _, rfl, N.get hi, ?_⟩
    repeat walk_at "s1"
    refine x_ixL (N.sq hi) rfl (v := .int (S.N i)) rfl ?_
    exact k
theorem pure_l_sided (_ : Ok K A) (h : sp_l_sided K A [v0, v1] H Q E) : t_l_sided K A E { nx := fun _ H' => Q .non H', rt := Q } [some v0, some v1, none, none] H := by
  obtain ⟨d, ks, ad, ws, S, i, rfl, rfl, N, hi, hL, hR, k⟩ := h
  have nj : ∀ (S1 S2 : CS), (∀ j, j ≠ i → S1.L j = S2.L j ∧ S1.R j = S2.R j ∧ S1.N j = S2.N j) → ∀ j ∈ ks, j ≠ i → note ws S1 j = note ws S2 j := fun S1 S2 h j _ n => by
    obtain ⟨h1, h2, h3⟩ := h j n
    unfold note; rw [h1, h2, h3]
  unfold t_l_sided
  repeat walk_at "s1"
  refine ⟨d, _, rfl, N.get hi, ?_⟩
  repeat walk_at "s1"
  refine x_ixL (N.sq hi) rfl (v := oV (S.R i)) rfl ?_
  repeat walk_at "s1"
  refine ⟨d, ks, ad, ws, S, S.R i, rfl, rfl, N, fun j e => (hR j e).1, ?_⟩
  repeat walk_at "s1"
  refine x_ixL (N.sq hi) rfl (v := oV (S.L i)) rfl ?_
  repeat walk_at "s1"
  refine ⟨d, ks, ad, ws, S, S.L i, rfl, rfl, N, fun j e => (hL j e).1, ?_⟩
  repeat walk_at "s1"
  refine x_ite (fun c => ?_) (fun c => ?_)
  · have c' : S.run (S.L i) < S.run (S.R i) := by omega
    have es : S.sided i = { S with L := fset S.L i (S.R i), R := fset S.R i (S.L i), N := fset S.N i (1 + S.run (S.L i)) } := if_pos c'
    repeat walk_at "s1"
    refine x_ixL (N.sq hi) rfl (v := oV (S.L i)) rfl ?_
    repeat walk_at "s1"
    refine x_ixL (N.sq hi) rfl (v := oV (S.R i)) rfl ?_
    repeat walk_at "s1"
    refine x_setL (N.at_ i hi) (n := 1) rfl ?_
    have N1 : Nts (upd H (ad i) (.lst ((note ws S i).set 1 (oV (S.R i))))) d ks ad ws { S with L := fset S.L i (S.R i) } :=
      N.set hi (note_eq (a := S.R i) (b := S.R i) (n := S.N i) fset_same rfl rfl) (nj _ _ fun j n => ⟨fset_ne n, rfl, rfl⟩)
    have f1 : G.Fr (NM ks ad) H _ := N.at_fr hi (xs := (note ws S i).set 1 (oV (S.R i)))
    generalize upd H (ad i) (.lst ((note ws S i).set 1 (oV (S.R i)))) = H1 at N1 f1 ⊢
    repeat walk_at "s1"
    refine x_setL (N1.at_ i hi) (n := 2) rfl ?_
    have N2 : Nts (upd H1 (ad i) (.lst ((note ws { S with L := fset S.L i (S.R i) } i).set 2 (oV (S.L i))))) d ks ad ws { S with L := fset S.L i (S.R i), R := fset S.R i (S.L i) } :=
      N1.set hi (note_eq (S' := { S with L := fset S.L i (S.R i), R := fset S.R i (S.L i) }) (a := fset S.L i (S.R i) i) (b := S.L i) (n := S.N i) rfl fset_same rfl) (nj _ _ fun j n => ⟨rfl, fset_ne n, rfl⟩)
    have f2 : G.Fr (NM ks ad) H1 _ := N1.at_fr hi (xs := (note ws { S with L := fset S.L i (S.R i) } i).set 2 (oV (S.L i)))
    generalize upd H1 (ad i) (.lst ((note ws { S with L := fset S.L i (S.R i) } i).set 2 (oV (S.L i)))) = H2 at N2 f2 ⊢
    repeat walk_at "s1"
    refine x_ixL (N2.sq hi) rfl (v := oV (S.L i)) (by rw [show note ws { S with L := fset S.L i (S.R i), R := fset S.R i (S.L i) } i = [.int (wt ws i), oV (S.R i), oV (S.L i), .int (S.N i)] from (note_eq fset_same fset_same rfl).symm]; rfl) ?_
    repeat walk_at "s1"
    refine ⟨d, ks, ad, ws, _, S.L i, rfl, rfl, N2, fun j e => (hL j e).1, ?_⟩
    repeat walk_at "s1"
    rw [show (1 : Int) + (((CS.run { S with L := fset S.L i (S.R i), R := fset S.R i (S.L i) } (S.L i)) : Nat) : Int) = ((1 + S.run (S.L i) : Nat) : Int) from (by rw [show CS.run { S with L := fset S.L i (S.R i), R := fset S.R i (S.L i) } (S.L i) = S.run (S.L i) from by cases S.L i <;> rfl]; omega)]
    refine x_setL (N2.at_ i hi) (n := 3) rfl ?_
    refine k _ ?_ ((f1.trans f2).trans (N2.at_fr hi))
    rw [es]
    exact N2.set hi (note_eq (a := fset S.L i (S.R i) i) (b := fset S.R i (S.L i) i) (n := 1 + S.run (S.L i)) rfl rfl fset_same) (nj _ _ fun j n => ⟨rfl, rfl, fset_ne n⟩)
  · have c' : ¬ S.run (S.L i) < S.run (S.R i) := by omega
    have es : S.sided i = { S with N := fset S.N i (1 + S.run (S.R i)) } := if_neg c'
    repeat walk_at "s1"
    refine x_ixL (N.sq hi) rfl (v := oV (S.R i)) rfl ?_
    repeat walk_at "s1"
    refine ⟨d, ks, ad, ws, S, S.R i, rfl, rfl, N, fun j e => (hR j e).1, ?_⟩
    repeat walk_at "s1"
    rw [show (1 : Int) + ((S.run (S.R i) : Nat) : Int) = ((1 + S.run (S.R i) : Nat) : Int) by omega]
    refine x_setL (N.at_ i hi) (n := 3) rfl ?_
    refine k _ ?_ (N.at_fr hi)
    rw [es]
    exact N.set hi (note_eq (a := S.L i) (b := S.R i) (n := 1 + S.run (S.R i)) rfl rfl fset_same) (nj _ _ fun j n => ⟨rfl, rfl, fset_ne n⟩)
/-! ### joining, with no change of sides between the two -/
theorem mrg_comm {ws : List Int} {t u : Tr} (h : ∀ i ∈ t.nodes, i ∉ u.nodes) : mrg ws t u = mrg ws u t := by
  cases t with
  | nil => rw [mrg_nil, mrg_nil']
  | node a la ra =>
    cases u with
    | nil => rw [mrg_nil, mrg_nil']
    | node b lb rb =>
      have nab : b ≠ a := fun e => h a mem_i (by rw [← e]; exact mem_i)
      by_cases l : Les ws b a
      · rw [mrg_l l, mrg_r l.asymm]
      · rw [mrg_r l, mrg_l (Les.conn l nab)]
theorem cnt_comm {ws : List Int} {t u : Tr} (h : ∀ i ∈ t.nodes, i ∉ u.nodes) : cnt ws t u = cnt ws u t := by
  cases t with
  | nil => rw [G.cnt_nil, G.cnt_nil']
  | node a la ra =>
    cases u with
    | nil => rw [G.cnt_nil, G.cnt_nil']
    | node b lb rb =>
      have nab : b ≠ a := fun e => h a mem_i (by rw [← e]; exact mem_i)
      by_cases l : Les ws b a
      · rw [cnt_l l, cnt_r l.asymm]
      · rw [cnt_r l, cnt_l (Les.conn l nab)]
theorem J1swap {ws : List Int} {S : CS} {T1 T2 : Tr} {c : List (Nat × Tr)} {t u : Tr} (J : J1 ws S T1 T2 c t u) (nd : (T1.nodes ++ T2.nodes).Nodup) : J1 ws S T1 T2 c u t := by
  have n1 := (List.nodup_append.1 (J.pm.nodup_iff.2 nd)).2.1
  have ne : ∀ i ∈ u.nodes, i ∉ t.nodes := fun i m m' => (List.nodup_append.1 n1).2.2 i m' i m rfl
  exact ⟨by rw [mrg_comm ne]; exact J.eq, by rw [cnt_comm ne]; exact J.len, J.ok, J.su, J.ru, J.st, J.rt, (List.Perm.append_left _ List.perm_append_comm).trans J.pm⟩
theorem nodup_len : ∀ {l ks : List Nat}, l.Nodup → (∀ x ∈ l, x ∈ ks) → l.length ≤ ks.length
  | [], _, _, _ => Nat.zero_le _
  | x :: l, ks, nd, h => by
    have hx := h x List.mem_cons_self
    obtain ⟨n1, n2⟩ := List.nodup_cons.1 nd
    have := nodup_len (l := l) (ks := ks.erase x) n2 fun y hy => (List.mem_erase_of_ne (fun e => n1 (by rw [← e]; exact hy))).2 (h y (List.mem_cons_of_mem _ hy))
    rw [List.length_erase_of_mem hx] at this
    have : 0 < ks.length := List.length_pos_of_mem hx
    rw [List.length_cons]; omega
theorem Fit.size {S : CS} {ks : List Nat} {t : Tr} (F : Fit S ks t) : t.size ≤ ks.length := by
  rw [← Tr.nodes_len]; exact nodup_len F.nd F.sub
theorem Nts.back {d p : Addr} {ks : List Nat} {ad : Nat → Addr} {ws : List Int} {S : CS} (N : Nts H' d ks ad ws S) (f : G.Fr (NM ks ad) H H') (h : H' p = none) : H p = none := by
  cases c : H p with
  | none => rfl
  | some o =>
    by_cases m : NM ks ad p
    · exact absurd m (N.nn h)
    · rw [f _ _ c m] at h; cases h
theorem pure_l_joined (T : Ok K A) (h : sp_l_joined K A [v0, v1, v2] H Q E) : t_l_joined K A E { nx := fun _ H' => Q .non H', rt := Q } [some v0, some v1, some v2, none, none, none, none] H := by
  obtain ⟨d, ks, ad, ws, S, T1, T2, rfl, rfl, rfl, N, F1, F2, nd, k⟩ := h
  have sub : ∀ {c : List (Nat × Tr)} {t u : Tr}, J1 ws S T1 T2 c t u → ∀ j ∈ cnodes c ++ (t.nodes ++ u.nodes), j ∈ ks := fun J j m => by
    rcases List.mem_append.1 ((J.pm.mem_iff).1 m) with m | m
    · exact F1.sub j m
    · exact F2.sub j m
  have clen : ∀ {c : List (Nat × Tr)} {t u : Tr}, J1 ws S T1 T2 c t u → c.length ≤ 1000 := fun {c t u} J => by
    have h1 : c.length ≤ (cnodes c).length := cnodes_len c
    have h2 := nodup_len (J.pm.nodup_iff.2 nd) (sub J)
    rw [List.length_append] at h2
    have := N.len
    omega
  unfold t_l_joined
  repeat walk_at "s1"
  refine ⟨sz_le (by simp), fun pl hpl => ?_⟩
  repeat walk_at "s1"
  refine x_while (fun m σ' H' => ∃ c t u, σ' = [some (.ref d), some (oV t.top), some (oV u.top), some (.ref pl), none, none, none] ∧ J1 ws S T1 T2 c t u ∧ H' pl = some (.lst (c.map fun p => V.int p.1)) ∧ G.Fr M0 H H' ∧ m = t.size + u.size)
    _ ⟨[], T1, T2, rfl, J1.start F1.sh F1.ru F2.sh F2.ru, upd_same, Fr.new hpl, rfl⟩ ?_
  rintro m σ' H1 ⟨c, t, u, rfl, J, hp1, f1, rfl⟩
  have N1 := N.fr0 f1
  -- behind the loop
  have rest : (t = .nil ∨ u = .nil) → (tSeq (tAsg (tVar 1) (gName 4))
    (tSeq (tIfS (tTest (tOp oIsN (tVar 4) (tC .non))) (tAsg (tVar 2) (gName 4)) tNext)
    (tSeq (tFor (iRng1 (tCons (tCB (oLen K) (tCons (tVar 3) tNil)) tNil)) (gName 5) (tSeq (tAsg (tOp (rIxL K) (tVar 3) (tOp oSub (tOp oSub (tCB (oLen K) (tCons (tVar 3) tNil)) (tC (.int 1))) (tVar 5))) (gName 6))
    (tSeq (tAsg (tVar 4) (gSub (tDGet (tVar 0) (tVar 6)) (tC (.int 2)) rSetL))
    (tSeq (tDrop (tCall (sp_l_sided K A) [] E0 (tCons (tVar 0) (tCons (tVar 6) tNil))))
    (tAsg (tVar 6) (gName 4))))))
    (tRet (tTup (tCons (tVar 4) (tCons (tCB (oLen K) (tCons (tVar 3) tNil)) tNil))))))) { nx := fun _ H' => Q .non H', rt := Q } [some (.ref d), some (oV t.top), some (oV u.top), some (.ref pl), none, none, none] H1 := by
    intro hnil
    obtain ⟨J0, hc⟩ := J.done nd hnil
    have topn : ∀ {S' : CS} {c' : List (Nat × Tr)} {t' : Tr}, J2 S S' (mrg ws T1 T2) c' t' → ∀ i ∈ cnodes c' ++ t'.nodes, i ∈ ks := fun J i m => by
      have z := (J.pm.mem_iff).1 m
      rw [mrg_mem] at z
      rcases z with z | z
      · exact F1.sub i z
      · exact F2.sub i z
    have lmap : (c.map fun p => V.int ((p.1 : Nat) : Int)).length = c.length := List.length_map ..
    have npl : ¬ NM ks ad pl := fun ⟨i, hi, e⟩ => by
      have := N1.at_ i hi
      rw [← e, hp1] at this
      have := List.length_map (as := c) (fun p => V.int ((p.1 : Nat) : Int))
      have z := N.at_ i hi
      rw [← e, hpl] at z; cases z
    have loop : (tSeq (tFor (iRng1 (tCons (tCB (oLen K) (tCons (tVar 3) tNil)) tNil)) (gName 5) (tSeq (tAsg (tOp (rIxL K) (tVar 3) (tOp oSub (tOp oSub (tCB (oLen K) (tCons (tVar 3) tNil)) (tC (.int 1))) (tVar 5))) (gName 6))
    (tSeq (tAsg (tVar 4) (gSub (tDGet (tVar 0) (tVar 6)) (tC (.int 2)) rSetL))
    (tSeq (tDrop (tCall (sp_l_sided K A) [] E0 (tCons (tVar 0) (tCons (tVar 6) tNil))))
    (tAsg (tVar 6) (gName 4))))))
    (tRet (tTup (tCons (tVar 4) (tCons (tCB (oLen K) (tCons (tVar 3) tNil)) tNil))))) { nx := fun _ H' => Q .non H', rt := Q } [some (.ref d), some (oV t.top), some (oV u.top), some (.ref pl), some (oV (mrg ws t u).top), none, none] H1 := by
      with_reducible refine x_seq ?_
      refine x_forR1 c.length (fun R hR => ?_) (by have := clen J; omega)
        (fun i σ' H' => ∃ S' t' x5 x6, σ' = [some (.ref d), some (oV t.top), some (oV u.top), some (.ref pl), some (oV t'.top), x5, x6] ∧ J2 S S' (mrg ws T1 T2) (c.take (c.length - i)) t' ∧ Nts H' d ks ad ws S' ∧ H' pl = some (.lst (c.map fun p => V.int p.1)) ∧ G.Fr (NM ks ad) H H')
        ⟨S, mrg ws t u, none, none, rfl, by rw [Nat.sub_zero, List.take_length]; exact J0, N1, hp1, f1.mono fun _ z => z.elim⟩ ?_ ?_
      · repeat walk_at "s1"
        refine x_lenL (sl_of hp1) ?_
        rw [lmap]; exact hR
      · rintro i σ' H' hi ⟨S', t', x5, x6, rfl, J, N', hp', f'⟩
        have hj : c.length - 1 - i < c.length := by omega
        have ej : c.length - i = (c.length - 1 - i) + 1 := by omega
        rw [ej, take_last hj] at J
        have hq : c[c.length - 1 - i]? = some c[c.length - 1 - i] := List.getElem?_eq_getElem hj
        generalize c[c.length - 1 - i] = q at J hq
        obtain ⟨j, l⟩ := q
        have bd := topn J
        have jn : j ∈ ks := bd j (by rw [cnodes_snoc]; simp)
        have jl : S'.L j = l.top := (J.ok (j, l) (by simp)).1
        have nd2 := J.nd
        rw [cnodes_snoc, List.append_assoc] at nd2
        obtain ⟨_, n2, _⟩ := List.nodup_append.1 nd2
        obtain ⟨n3, _, n4⟩ := List.nodup_append.1 n2
        have Jn := J.step
        repeat walk_at "s1"
        refine x_lenL (sl_of hp') ?_
        repeat walk_at "s1"
        refine x_ixL (sl_of hp') rfl (v := .int (j : Int)) ?_ ?_
        · rw [lmap, show (c.length : Int) - 1 - (i : Int) = ((c.length - 1 - i : Nat) : Int) by omega]
          exact atI_nat (by rw [List.getElem?_map, hq]; rfl)
        repeat walk_at "s1"
        refine ⟨d, _, rfl, N'.get jn, ?_⟩
        repeat walk_at "s1"
        refine x_setL (N'.at_ j jn) (n := 2) rfl ?_
        have N2 : Nts (upd H' (ad j) (.lst ((note ws S' j).set 2 (oV t'.top)))) d ks ad ws { S' with R := fset S'.R j t'.top, U := oset S'.U t'.top (some j) } :=
          N'.set jn (note_eq (S' := { S' with R := fset S'.R j t'.top, U := oset S'.U t'.top (some j) }) (a := S'.L j) (b := t'.top) (n := S'.N j) rfl fset_same rfl) fun z _ nz => note_congr rfl (fset_ne nz) rfl
        have f2 : G.Fr (NM ks ad) H' _ := N'.at_fr jn (xs := (note ws S' j).set 2 (oV t'.top))
        have hp2 := f2 _ _ hp' npl
        generalize upd H' (ad j) (.lst ((note ws S' j).set 2 (oV t'.top))) = H2 at N2 f2 hp2 ⊢
        repeat walk_at "s1"
        refine ⟨d, ks, ad, ws, _, j, rfl, rfl, N2, jn, fun z e => ?_, fun z e => ?_, fun H3 N3 f3 => ?_⟩
        · have m := Tr.top_mem (jl.symm.trans e)
          exact ⟨bd z (by rw [cnodes_snoc]; simp [m]), fun c => (List.nodup_cons.1 n3).1 (by rw [← c]; exact m)⟩
        · have e' : fset S'.R j t'.top j = some z := e
          rw [fset_same] at e'
          have m := Tr.top_mem e'
          exact ⟨bd z (List.mem_append_right _ m), fun c => n4 j List.mem_cons_self j (by rw [← c]; exact m) rfl⟩
        repeat walk_at "s1"
        refine ⟨_, side j l t', some (.int i), some (.int j), ?_, ?_, N3, f3 _ _ hp2 npl, (f'.trans f2).trans f3⟩
        · rw [side_top]; rfl
        · have e2 : c.length - (i + 1) = c.length - 1 - i := by omega
          rw [e2]; exact Jn
      · rintro σ' H' ⟨S', t', x5, x6, rfl, J, N', hp', f'⟩
        rw [Nat.sub_self] at J
        have et : t' = mrg ws T1 T2 := J.eq
        have Jd := J.done
        repeat walk_at "s1"
        refine x_lenL (sl_of hp') ?_
        repeat walk_at "s1"
        refine ⟨sz_le (by simp), fun p hp => ?_⟩
        have fp : G.Fr M0 H' (upd H' p (.tup [oV t'.top, .int (c.map fun p => V.int ((p.1 : Nat) : Int)).length])) := Fr.new hp
        refine k _ { S' with U := oset S'.U t'.top none } p ((N'.fr0 fp).ghost rfl rfl rfl) ⟨Jd.sh, Jd.ru, ?_, fun j m => ?_⟩ (N'.back f' hp) (by rw [upd_same, ← et, ← hc, lmap]) (f'.trans (fp.mono fun _ z => z.elim))
        · exact (mrg_perm ws T1 T2).nodup_iff.2 nd
        · rw [mrg_mem] at m
          rcases m with m | m
          · exact F1.sub j m
          · exact F2.sub j m
    repeat walk_at "s1"
    rw [dec_oV]
    cases e : t.top with
    | none =>
      have et : t = .nil := Tr.top_none e
      refine x_T rfl ?_
      rw [et, mrg_nil] at loop
      with_reducible refine x_asg ?_
      refine x_var rfl ?_
      exact loop
    | some z =>
      have eu : u = .nil := by
        rcases hnil with h | h
        · rw [h] at e; cases e
        · exact h
      refine x_F rfl (x_next ?_)
      rw [eu, mrg_nil', e] at loop
      rw [eu]
      exact loop
  repeat walk_at "s1"
  rw [dec_oV]
  cases t with
  | nil =>
    refine x_F rfl (x_F rfl ?_)
    exact rest (.inl rfl)
  | node a la ra =>
    refine x_T rfl ?_
    repeat walk_at "s1"
    rw [dec_oV]
    cases u with
    | nil =>
      refine x_F rfl ?_
      exact rest (.inr rfl)
    | node b lb rb =>
      refine x_T rfl ⟨_, fun _ _ z => z, ?_⟩
      have an : a ∈ ks := sub J a (List.mem_append_right _ (List.mem_append_left _ mem_i))
      have bn : b ∈ ks := sub J b (List.mem_append_right _ (List.mem_append_right _ mem_i))
      rw [show oV (Tr.node a la ra).top = V.int (a : Int) from rfl, show oV (Tr.node b lb rb).top = V.int (b : Int) from rfl]
      repeat walk_at "s1"
      refine ⟨d, _, rfl, N1.get bn, ?_⟩
      repeat walk_at "s1"
      refine x_ixL (N1.sq bn) rfl (v := .int (wt ws b)) rfl ?_
      repeat walk_at "s1"
      refine ⟨sz_le (by simp), fun p1 hq1 => ?_⟩
      have g1 : G.Fr M0 H1 (upd H1 p1 (.tup [.int (wt ws b), .int b])) := Fr.new hq1
      have t1 : upd H1 p1 (.tup [.int (wt ws b), .int b]) p1 = some (.tup [.int (wt ws b), .int b]) := upd_same
      generalize upd H1 p1 (.tup [.int (wt ws b), .int b]) = H2 at g1 t1 ⊢
      have N2 := N1.fr0 g1
      repeat walk_at "s1"
      refine ⟨d, _, rfl, N2.get an, ?_⟩
      repeat walk_at "s1"
      refine x_ixL (N2.sq an) rfl (v := .int (wt ws a)) rfl ?_
      repeat walk_at "s1"
      refine ⟨sz_le (by simp), fun p2 hq2 => ?_⟩
      have g2 : G.Fr M0 H2 (upd H2 p2 (.tup [.int (wt ws a), .int a])) := Fr.new hq2
      refine x_ltT (g2 _ _ t1 (fun z => z)) upd_same ?_
      have N3 := N2.fr0 g2
      have hp3 := g2 _ _ (g1 _ _ hp1 (fun z => z)) (fun z => z)
      have f3 := (f1.trans g1).trans g2
      generalize upd H2 p2 (.tup [.int (wt ws a), .int a]) = H3 at N3 hp3 f3 ⊢
      have cl := clen J
      have f4 : ∀ {xs : List V}, G.Fr M0 H (upd H3 pl (.lst xs)) := f3.mut hpl
      repeat walk_at "s1"
      by_cases l : Les ws b a
      · refine x_T (decide_eq_true (lex_les.2 l)) ?_
        repeat walk_at "s1"
        refine x_tyL (sl_of hp3) ?_
        repeat walk_at "s1"
        refine x_append hp3 (by rw [List.length_map]; omega) ?_
        repeat walk_at "s1"
        refine ⟨d, _, rfl, (N.fr0 f4).get bn, ?_⟩
        repeat walk_at "s1"
        refine x_ixL ((N.fr0 f4).sq bn) rfl (v := oV (S.R b)) rfl ?_
        have eR : S.R b = rb.top := J.su.2.1
        rw [eR]
        refine ⟨_, ?_, c ++ [(b, lb)], .node a la ra, rb, rfl, J1swap (J.left l) nd, ?_, f4, rfl⟩
        · show _ < _ + (1 + lb.size + rb.size); omega
        · rw [upd_same, List.map_append]; rfl
      · refine x_F (decide_eq_false fun z => l (lex_les.1 z)) ?_
        repeat walk_at "s1"
        refine x_tyL (sl_of hp3) ?_
        repeat walk_at "s1"
        refine x_append hp3 (by rw [List.length_map]; omega) ?_
        repeat walk_at "s1"
        refine ⟨d, _, rfl, (N.fr0 f4).get an, ?_⟩
        repeat walk_at "s1"
        refine x_ixL ((N.fr0 f4).sq an) rfl (v := oV (S.R a)) rfl ?_
        have eR : S.R a = ra.top := J.st.2.1
        rw [eR]
        refine ⟨_, ?_, c ++ [(a, la)], ra, .node b lb rb, rfl, J.right l, ?_, f4, rfl⟩
        · show _ < (1 + la.size + ra.size) + _; omega
        · rw [upd_same, List.map_append]; rfl
/-! ### rows, rows of parts, against the empty list -/
theorem x_eqRowsNil {rows : List G.Row} {l l' : Addr} {ps : List Addr} (R : RowsAt H l rows ps) (h' : H l' = some (.lst [])) (k : Q (.bl rows.isEmpty) H) : rEqD K (.ref l) (.ref l') H Q :=
  ⟨_, .list [], .lst (sl_of R.lst) (dp_rows R.len R.at_), .lst (sl_of h') .nil, shaped_rows rows, rfl, by
    have e : PyData.eqv (.list (rows.map rowD)) (.list []) = rows.isEmpty := by cases rows <;> rfl
    rw [e]; exact k⟩
theorem x_neRowsNil {rows : List G.Row} {l l' : Addr} {ps : List Addr} (R : RowsAt H l rows ps) (h' : H l' = some (.lst [])) (k : Q (.bl (!rows.isEmpty)) H) : rNeD K (.ref l) (.ref l') H Q :=
  ⟨_, .list [], .lst (sl_of R.lst) (dp_rows R.len R.at_), .lst (sl_of h') .nil, shaped_rows rows, rfl, by
    have e : PyData.eqv (.list (rows.map rowD)) (.list []) = rows.isEmpty := by cases rows <;> rfl
    rw [e]; exact k⟩
theorem dp_os : ∀ os : List (Option Nat), DpAll K H (os.map oV) (os.map oD)
  | [] => .nil
  | _ :: os => .cons dp_o (dp_os os)
theorem lay_os : ∀ os : List (Option Nat), PyData.canLayAll0 (os.map oD) = true
  | [] => rfl
  | o :: os => by
    rw [List.map_cons, PyData.canLayAll0, lay_os os]
    cases o <;> rfl
theorem depth_os : ∀ os : List (Option Nat), PyData.depthAll (os.map oD) ≤ 0
  | [] => Nat.le_refl _
  | o :: os => by
    rw [List.map_cons, PyData.depthAll]
    have := depth_os os
    have h2 : (oD o).depth ≤ 0 := by cases o <;> exact Nat.le_refl _
    exact Nat.max_le.2 ⟨h2, this⟩
theorem x_neOs {os : List (Option Nat)} {l l' : Addr} (h : H l = some (.lst (os.map oV))) (h' : H l' = some (.lst [])) (k : Q (.bl (!os.isEmpty)) H) : rNeD K (.ref l) (.ref l') H Q :=
  ⟨.list (os.map oD), .list [], .lst (sl_of h) (dp_os os), .lst (sl_of h') .nil, Bool.and_eq_true_iff.mpr ⟨lay_os os, decide_eq_true (by have := depth_os os; show PyData.depthAll (os.map oD) + 1 ≤ 64; omega)⟩, rfl, by
    have e : PyData.eqv (.list (os.map oD)) (.list []) = os.isEmpty := by cases os <;> rfl
    rw [e]; exact k⟩
theorem pure_l_top (_ : Ok K A) (h : sp_l_top K A [v0] H Q E) : t_l_top K A E { nx := fun _ H' => Q .non H', rt := Q } [some v0] H := by
  obtain ⟨l, ws, t, ps, rfl, R, hz, k⟩ := h
  unfold t_l_top
  repeat walk_at "s1"
  refine ⟨sz_le (by simp), fun l2 hl2 => ?_⟩
  have f2 : G.Fr M0 H (upd H l2 (.lst [])) := Fr.new hl2
  refine x_eqRowsNil (rows_fr R f2) upd_same ?_
  have R2 := rows_fr R f2
  generalize upd H l2 (.lst []) = H2 at f2 R2 ⊢
  repeat walk_at "s1"
  cases t with
  | nil =>
    refine x_T rfl ?_
    repeat walk_at "s1"
    exact k _ f2
  | node i l r =>
    refine x_F rfl ?_
    repeat walk_at "s1"
    have hl := R2.len
    match ps, hl, R2 with
    | p :: ps, _, R2 =>
      refine x_ixL (sl_of R2.lst) rfl (v := .ref p) (atI_nat (j := 0) rfl) ?_
      repeat walk_at "s1"
      refine x_ixT (st_of (R2.at_ 0 p ⟨i, wt ws i, l.top, r.top, (Tr.node i l r).run⟩ rfl rfl)) rfl (v := .int (i : Int)) rfl ?_
      exact k _ f2
/-! ### a walk over a dict's keys -/
theorem for_keys {d : Addr} {o : Obj} {kvs : List (Key × V)} {g : TG} {tb : TS} {D : Ends} {σ : L2.St} {H : Hp} (Pv : Nat → L2.St → Hp → Prop) (h0 : Pv 0 σ H) (hl : ∀ i σ H, Pv i σ H → H d = some (.frz o (.dK kvs)))
    (hs : ∀ i k v σ H, kvs[i]? = some (k, v) → Pv i σ H → g (kV k) σ H fun σ2 H2 => tb { D with nx := Pv (i + 1), ct := Pv (i + 1), bk := D.nx } σ2 H2) (hd : ∀ σ H, Pv kvs.length σ H → D.nx σ H) :
    ∃ W : Nat → Nat → L2.St → Hp → Prop, (∃ m, W 0 m σ H) ∧ ∀ i m σ H, W i m σ H →
      ((Itk d o kvs).stop i H ∧ D.nx σ H) ∨ ((Itk d o kvs).go i H ∧ ∃ N : L2.St → Hp → Prop, (∀ σ' H', N σ' H' → ∃ m', m' < m ∧ W (i + 1) m' σ' H') ∧ ∀ x H', (Itk d o kvs).yld i H x H' → g x σ H' fun σ2 H2 => tb { D with nx := N, ct := N, bk := D.nx } σ2 H2) := by
  refine ⟨fun i m σ H => m = kvs.length - i ∧ i ≤ kvs.length ∧ Pv i σ H, ⟨kvs.length, by simp, Nat.zero_le _, h0⟩, ?_⟩
  rintro i m σ H ⟨rfl, hi, p⟩
  have q := hl i σ H p
  by_cases hlt : i < kvs.length
  · refine .inr ⟨⟨q, hlt⟩, Pv (i + 1), fun σ' H' p' => ⟨kvs.length - (i + 1), by omega, rfl, hlt, p'⟩, fun x H' y => ?_⟩
    obtain ⟨e, k, v, e2, e3⟩ := y
    subst e e3
    exact hs i k v σ _ e2 p
  · have e : i = kvs.length := by omega
    subst e
    exact .inl ⟨⟨q, Nat.le_refl _⟩, hd σ H p⟩
theorem x_forKeys {j : Nat} {tb : TS} {td : TE} {D : Ends} {σ : L2.St} {d : Addr} {o : Obj} {kvs : List (Key × V)} (hv : ∀ R : VK, R (.ref d) H → td σ H R) (h : H d = some (.frz o (.dK kvs))) (P : Nat → L2.St → Hp → Prop) (h0 : P 0 σ H) (hl : ∀ i σ H, P i σ H → H d = some (.frz o (.dK kvs)))
    (hs : ∀ i k v σ H, kvs[i]? = some (k, v) → P i σ H → tb { D with nx := P (i + 1), ct := P (i + 1), bk := D.nx } (σ.set j (some (kV k))) H) (hd : ∀ σ H, P kvs.length σ H → D.nx σ H) : tFor (iKeys td) (gName j) tb D σ H :=
  hv _ ⟨d, o, rfl, .inl ⟨kvs, h, for_keys P h0 hl hs hd⟩⟩
theorem pure_l_above (_ : Ok K A) (h : sp_l_above K A [v0, v1] H Q E) : t_l_above K A E { nx := fun _ H' => Q .non H', rt := Q } [some v0, some v1, none] H := by
  obtain ⟨d, ks, ad, ws, S, x, rfl, rfl, N, k⟩ := h
  unfold t_l_above
  with_reducible refine x_seq ?_
  refine ⟨d, .dK (dct ks ad), N.dict, trivial, fun od => ?_⟩
  have hd0 : upd H d (.frz od (.dK (dct ks ad))) d = some (.frz od (.dK (dct ks ad))) := upd_same
  have hn0 : ∀ i ∈ ks, upd H d (.frz od (.dK (dct ks ad))) (ad i) = some (.lst (note ws S i)) := fun i hi => by rw [upd_ne (fun z => N.ne hi z.symm)]; exact N.at_ i hi
  have back : upd (upd H d (.frz od (.dK (dct ks ad)))) d (.dK (dct ks ad)) = H := upd_back N.dict
  generalize upd H d (.frz od (.dK (dct ks ad))) = H0 at hd0 hn0 back ⊢
  have hget : ∀ i ∈ ks, DGet H0 d (.int i) (some (.ref (ad i))) := fun i hi => .inl ⟨_, kI i, .inr ⟨od, hd0⟩, rfl, (valV_dct hi).symm⟩
  refine x_forKeys (d := d) (o := od) (kvs := dct ks ad) (fun R hR => ?_) hd0 (fun i σ' H' => H' = H0 ∧ ∃ x2, σ' = [some (.ref d), some (.int x), x2] ∧ ∀ z ∈ ks.take i, S.L z ≠ some x ∧ S.R z ≠ some x) ⟨rfl, none, rfl, fun _ m => by simp at m⟩ (fun i σ H' p => by rw [p.1]; exact hd0) ?_ ?_
  · repeat walk_at "s1"
    exact hR
  · rintro i key v σ' H' hx ⟨rfl, x2, rfl, hno⟩
    rw [List.getElem?_map] at hx
    obtain ⟨z, ez, e2⟩ := Option.map_eq_some_iff.1 hx
    cases e2
    have hz := List.mem_of_getElem? ez
    rw [show kV (kI z) = V.int (z : Int) from rfl]
    repeat walk_at "s1"
    refine ⟨d, _, rfl, hget z hz, ?_⟩
    repeat walk_at "s1"
    refine x_ixL (sl_of (hn0 z hz)) rfl (v := oV (S.L z)) rfl ?_
    repeat walk_at "s1"
    refine x_eq scal_oV ?_
    repeat walk_at "s1"
    have found : (S.L z = some x ∨ S.R z = some x) → H' d = some (.frz od (.dK (dct ks ad))) ∧ Q (.int z) (upd H' d (.dK (dct ks ad))) := fun o => ⟨hd0, by
      rw [back]
      exact k (some z) (fun k e => by cases e; exact ⟨hz, o⟩) (fun e => nomatch e)⟩
    by_cases cL : S.L z = some x
    · refine x_T (decide_eq_true (by rw [cL]; rfl)) (x_T rfl ?_)
      repeat walk_at "s1"
      exact found (.inl cL)
    · refine x_F (decide_eq_false fun e => cL (oV_eq.1 e)) ?_
      repeat walk_at "s1"
      refine ⟨d, _, rfl, hget z hz, ?_⟩
      repeat walk_at "s1"
      refine x_ixL (sl_of (hn0 z hz)) rfl (v := oV (S.R z)) rfl ?_
      repeat walk_at "s1"
      refine x_eq scal_oV ?_
      repeat walk_at "s1"
      by_cases cR : S.R z = some x
      · refine x_T (decide_eq_true (by rw [cR]; rfl)) ?_
        repeat walk_at "s1"
        exact found (.inr cR)
      · refine x_F (decide_eq_false fun e => cR (oV_eq.1 e)) ?_
        with_reducible refine x_next ?_
        refine ⟨rfl, _, rfl, fun y my => ?_⟩
        rw [take_snoc ez] at my
        rcases List.mem_append.1 my with my | my
        · exact hno y my
        · have : y = z := by simpa using my
          rw [this]; exact ⟨cL, cR⟩
  · rintro σ' H' ⟨rfl, x2, rfl, hno⟩
    refine ⟨hd0, ?_⟩
    rw [back]
    repeat walk_at "s1"
    rw [show (dct ks ad).length = ks.length from List.length_map .., List.take_length] at hno
    exact k none (fun k e => nomatch e) fun _ => hno
theorem pure_l_told (_ : Ok K A) (h : sp_l_told K A [v0, v1] H Q E) : t_l_told K A E { nx := fun _ H' => Q .non H', rt := Q } [some v0, some v1, none, none, none, none] H := by
  obtain ⟨d, ks, ad, ws, S, T0, rfl, rfl, N, F, k⟩ := h
  have hz : T0.size ≤ 1000 := Nat.le_trans F.size N.len
  unfold t_l_told
  repeat walk_at "s1"
  refine ⟨sz_le (by simp), fun rl hrl => ?_⟩
  repeat walk_at "s1"
  refine ⟨sz_le (by simp), fun wl hwl => ?_⟩
  have nrw : rl ≠ wl := ne_of_none upd_same hwl
  have hwl0 : H wl = none := by rw [upd_ne nrw.symm] at hwl; exact hwl
  have fr0 : G.Fr M0 H (upd (upd H rl (.lst [])) wl (.lst [oV T0.top])) := (Fr.new hrl).mut hwl0
  repeat walk_at "s1"
  refine x_while (fun m σ' H' => ∃ ts done ps x4 x5, σ' = [some (.ref d), some (oV T0.top), some (.ref rl), some (.ref wl), x4, x5] ∧ rowsOf ws T0 = done ++ ts.flatMap (rowsOf ws) ∧ RowsAt H' rl done ps ∧ (∀ p ∈ ps, H p = none) ∧
    H' wl = some (.lst ((ts.reverse.map Tr.top).map oV)) ∧ (∀ t ∈ ts, Shape S t ∧ Runs S t ∧ ∀ j ∈ t.nodes, j ∈ ks) ∧ G.Fr M0 H H' ∧ m = msum ts ∧ m ≤ 2001)
    (msum [T0]) ⟨[T0], [], [], none, none, rfl, by simp, ⟨by rw [upd_ne nrw, upd_same]; rfl, rfl, fun k p x h _ => by simp at h⟩, fun p h => by simp at h, upd_same, fun t h => by simp at h; subst h; exact ⟨F.sh, F.ru, F.sub⟩, fr0, rfl, by show 2 * T0.size + 1 + 0 ≤ 2001; omega⟩ ?_
  rintro m σ' H0 ⟨ts, done, ps, x4, x5, rfl, er, ra0, hps, hw0, hts, fr00, rfl, hm⟩
  repeat walk_at "s1"
  refine ⟨sz_le (by simp), fun l3 hl3 => ?_⟩
  have f3 : G.Fr M0 H0 (upd H0 l3 (.lst [])) := Fr.new hl3
  refine x_neOs (f3 _ _ hw0 (fun z => z)) upd_same ?_
  have ra := rows_fr ra0 f3
  have hw := f3 _ _ hw0 (fun z => z)
  have fr := fr00.trans f3
  generalize upd H0 l3 (.lst []) = H' at ra hw fr ⊢
  clear ra0 hw0 fr00 f3 hl3
  repeat walk_at "s1"
  cases ts with
  | nil =>
    refine x_F (by simp) ?_
    repeat walk_at "s1"
    have e : rowsOf ws T0 = done := by rw [er]; simp
    exact k H' rl ps (by rw [e]; exact ra) fr
  | cons t ts =>
    refine x_T (by simp) ⟨_, fun _ _ z => z, ?_⟩
    obtain ⟨s1, s2, s3⟩ := hts t List.mem_cons_self
    have ew : ((t :: ts).reverse.map Tr.top).map oV = (ts.reverse.map Tr.top).map oV ++ [oV t.top] := by rw [List.reverse_cons, List.map_append, List.map_append]; rfl
    rw [ew] at hw
    repeat walk_at "s1"
    refine x_tyL (sl_of hw) ?_
    refine x_pop hw (v := oV t.top) ?_ ?_
    · rw [List.length_append, List.length_singleton, Nat.add_sub_cancel, List.getElem?_concat_length]
    rw [List.dropLast_concat]
    have fr1 : G.Fr M0 H (upd H' wl (.lst ((ts.reverse.map Tr.top).map oV))) := fr.mut hwl0
    have ff : G.Fr (fun a => a = wl) H' (upd H' wl (.lst ((ts.reverse.map Tr.top).map oV))) := Fr.at rfl
    have ra1 : RowsAt (upd H' wl (.lst ((ts.reverse.map Tr.top).map oV))) rl done ps := rowsAt_fr ra ff (fun a e => by subst e; exact ⟨_, hw⟩) nrw
    have hm' : msum (t :: ts) = 2 * t.size + 1 + msum ts := rfl
    repeat walk_at "s1"
    rw [dec_oV]
    cases t with
    | nil =>
      refine x_F rfl ?_
      repeat walk_at "s1"
      refine ⟨msum ts, by omega, ts, done, ps, some .non, x5, rfl, ?_, ra1, hps, upd_same, fun t h => hts t (List.mem_cons_of_mem _ h), fr1, rfl, by omega⟩
      rw [er]; rfl
    | node i l r =>
      have inn : i ∈ ks := s3 i mem_i
      generalize hH1 : upd H' wl (.lst ((ts.reverse.map Tr.top).map oV)) = H1 at fr1 ff ra1 ⊢
      have hw1 : H1 wl = some (.lst ((ts.reverse.map Tr.top).map oV)) := by rw [← hH1]; exact upd_same
      have N1 := N.fr0 fr1
      have eL : S.L i = l.top := s1.1
      have eR : S.R i = r.top := s1.2.1
      have eN : S.N i = (Tr.node i l r).run := s2.1
      refine x_T rfl ?_
      rw [show oV (Tr.node i l r).top = V.int (i : Int) from rfl]
      repeat walk_at "s1"
      refine ⟨d, _, rfl, N1.get inn, ?_⟩
      repeat walk_at "s1"
      refine x_tyL (sl_of ra1.lst) ?_
      repeat walk_at "s1"
      refine x_ixL (N1.sq inn) rfl (v := .int (wt ws i)) rfl ?_
      repeat walk_at "s1"
      refine x_ixL (N1.sq inn) rfl (v := oV (S.L i)) rfl ?_
      repeat walk_at "s1"
      refine x_ixL (N1.sq inn) rfl (v := oV (S.R i)) rfl ?_
      repeat walk_at "s1"
      refine x_ixL (N1.sq inn) rfl (v := .int (S.N i)) rfl ?_
      repeat walk_at "s1"
      refine ⟨sz_le (by simp), fun p hp => ?_⟩
      have npr : rl ≠ p := ne_of_none ra1.lst hp
      have npw : wl ≠ p := ne_of_none hw1 hp
      have hp0 := Fr.free fr1 hp
      have dl : done.length ≤ T0.size := by
        have := congrArg List.length er
        rw [rows_len, List.length_append] at this; omega
      repeat walk_at "s1"
      refine x_append (by rw [upd_ne npr]; exact ra1.lst) (by rw [List.length_map, ra1.len]; omega) ?_
      generalize hH2 : upd (upd H1 p (.tup [V.int i, .int (wt ws i), oV (S.L i), oV (S.R i), .int (S.N i)])) rl (.lst (ps.map V.ref ++ [.ref p])) = H2
      have fr2 : G.Fr M0 H H2 := by rw [← hH2]; exact (fr1.trans (Fr.new hp)).mut hrl
      have f12 : G.Fr (fun a => a = rl) H1 H2 := by rw [← hH2]; exact (Fr.new hp).trans (Fr.at rfl)
      have ra2 : RowsAt H2 rl (done ++ [⟨i, wt ws i, l.top, r.top, (Tr.node i l r).run⟩]) (ps ++ [p]) := by
        refine rowsAt_more ra1 ?_ ?_ f12 fun a e => by subst e; exact ⟨_, ra1.lst⟩
        · rw [← hH2, upd_ne npr.symm, upd_same, eL, eR, eN]; rfl
        · rw [← hH2, upd_same, List.map_append]; rfl
      have hw2 : H2 wl = some (.lst ((ts.reverse.map Tr.top).map oV)) := f12 _ _ hw1 nrw.symm
      have N2 := N.fr0 fr2
      have sl : ts.length < 90000 := by have := msum_len ts; omega
      repeat walk_at "s1"
      refine x_tyL (sl_of hw2) ?_
      repeat walk_at "s1"
      refine x_ixL (N2.sq inn) rfl (v := oV (S.R i)) rfl ?_
      repeat walk_at "s1"
      refine x_append hw2 (by simp; omega) ?_
      have f23 : G.Fr (fun a => a = wl) H2 (upd H2 wl (.lst ((ts.reverse.map Tr.top).map oV ++ [oV (S.R i)]))) := Fr.at rfl
      have hw3 : upd H2 wl (.lst ((ts.reverse.map Tr.top).map oV ++ [oV (S.R i)])) wl = some (.lst ((ts.reverse.map Tr.top).map oV ++ [oV (S.R i)])) := upd_same
      have fr3 : G.Fr M0 H (upd H2 wl (.lst ((ts.reverse.map Tr.top).map oV ++ [oV (S.R i)]))) := fr2.mut hwl0
      have ra3 := rowsAt_fr ra2 f23 (fun a e => by subst e; exact ⟨_, hw2⟩) nrw
      generalize upd H2 wl (.lst ((ts.reverse.map Tr.top).map oV ++ [oV (S.R i)])) = H3 at f23 hw3 fr3 ra3 ⊢
      have N3 := N.fr0 fr3
      repeat walk_at "s1"
      refine x_tyL (sl_of hw3) ?_
      repeat walk_at "s1"
      refine x_ixL (N3.sq inn) rfl (v := oV (S.L i)) rfl ?_
      repeat walk_at "s1"
      refine x_append hw3 (by simp; omega) ?_
      have f34 : G.Fr (fun a => a = wl) H3 (upd H3 wl (.lst ((ts.reverse.map Tr.top).map oV ++ [oV (S.R i)] ++ [oV (S.L i)]))) := Fr.at rfl
      refine ⟨msum (l :: r :: ts), ?_, l :: r :: ts, done ++ [⟨i, wt ws i, l.top, r.top, (Tr.node i l r).run⟩], ps ++ [p], some (.int i), some (.ref (ad i)), rfl, ?_, rowsAt_fr ra3 f34 (fun a e => by subst e; exact ⟨_, hw3⟩) nrw, ?_, ?_, ?_, fr3.mut hwl0, rfl, ?_⟩
      · show 2 * l.size + 1 + (2 * r.size + 1 + msum ts) < 2 * (1 + l.size + r.size) + 1 + msum ts; omega
      · rw [er]
        show done ++ ((⟨i, wt ws i, l.top, r.top, (Tr.node i l r).run⟩ :: (rowsOf ws l ++ rowsOf ws r)) ++ ts.flatMap (rowsOf ws)) = (done ++ [_]) ++ (rowsOf ws l ++ (rowsOf ws r ++ ts.flatMap (rowsOf ws)))
        simp
      · intro q hq
        rcases List.mem_append.1 hq with m | m
        · exact hps q m
        · rw [List.mem_singleton.1 m]; exact hp0
      · rw [upd_same, eL, eR]; simp
      · intro t ht
        rcases List.mem_cons.1 ht with e | ht
        · subst e; exact ⟨s1.2.2.2.2.1, s2.2.1, fun j m => s3 j (mem_l m)⟩
        rcases List.mem_cons.1 ht with e | ht
        · subst e; exact ⟨s1.2.2.2.2.2, s2.2.2, fun j m => s3 j (mem_r m)⟩
        · exact hts t (List.mem_cons_of_mem _ ht)
      · have : msum (l :: r :: ts) = 2 * l.size + 1 + (2 * r.size + 1 + msum ts) := rfl
        have h2 : (Tr.node i l r).size = 1 + l.size + r.size := rfl
        omega
/-! ### a thing sinks -/
theorem rise_top : ∀ (c : List Frm) (old : Nat) (s : Tr), (rise c old s).1.top = (fill c s).top
  | [], _, _ => rfl
  | f :: c, old, s => by
    have e : (fill c (side1 f s)).top = (fill (f :: c) s).top := fill_top (c := c) (by rw [side1_top, put1_top])
    rw [rise]
    split
    · show (rise c (oldRun f old) (side1 f s)).1.top = _
      rw [rise_top c, e]
    · exact e
theorem UI.sided {S : CS} {U : Nat → Option Nat} {ks : List Nat} {i : Nat} (h : UI S U ks) : UI (S.sided i) U ks := fun k hk x o => by
  refine h k hk x ?_
  by_cases c : k = i
  · subst c
    unfold CS.sided at o
    split at o
    · have o' : fset S.L k (S.R k) k = some x ∨ fset S.R k (S.L k) k = some x := o
      rw [fset_same, fset_same] at o'
      exact o'.symm
    · exact o
  · rw [sided_L c, sided_R c] at o; exact o
theorem UI.cut {S : CS} {U : Nat → Option Nat} {ks : List Nat} {f : Frm} {i : Nat} (h : UI S U ks) : UI (S.cut f i) U ks := fun k hk x o => by
  refine h k hk x ?_
  unfold CS.cut at o
  split at o
  · have o' : fset S.L f.1 none k = some x ∨ S.R k = some x := o
    by_cases c : k = f.1
    · rw [c, fset_same] at o'
      rcases o' with z | z
      · cases z
      · rw [c]; exact .inr z
    · rw [fset_ne c] at o'; exact o'
  · have o' : S.L k = some x ∨ fset S.R f.1 none k = some x := o
    by_cases c : k = f.1
    · rw [c, fset_same] at o'
      rcases o' with z | z
      · rw [c]; exact .inl z
      · cases z
    · rw [fset_ne c] at o'; exact o'
theorem above_some {S : CS} {U : Nat → Option Nat} {ks : List Nat} {x u : Nat} {o : Option Nat} (ui : UI S U ks) (hu : u ∈ ks) (e : S.L u = some x ∨ S.R u = some x) (h1 : ∀ k, o = some k → k ∈ ks ∧ (S.L k = some x ∨ S.R k = some x)) (h2 : o = none → ∀ k ∈ ks, S.L k ≠ some x ∧ S.R k ≠ some x) : o = some u := by
  cases o with
  | none =>
    obtain ⟨a, b⟩ := h2 rfl u hu
    rcases e with e | e
    · exact absurd e a
    · exact absurd e b
  | some k =>
    obtain ⟨m, c⟩ := h1 k rfl
    have a := ui k m x c
    have b := ui u hu x e
    rw [a] at b; exact b
theorem above_none {S : CS} {U : Nat → Option Nat} {ks : List Nat} {x : Nat} {o : Option Nat} (ui : UI S U ks) (hu : U x = none) (h1 : ∀ k, o = some k → k ∈ ks ∧ (S.L k = some x ∨ S.R k = some x)) : o = none := by
  cases o with
  | none => rfl
  | some k =>
    obtain ⟨m, c⟩ := h1 k rfl
    have a := ui k m x c
    rw [hu] at a; cases a
theorem edge_of {S : CS} {f : Frm} {c : List Frm} {s : Tr} {i : Nat} (hi : s.top = some i) (h : Shape S (fill (f :: c) s)) : S.L f.1 = some i ∨ S.R f.1 = some i := by
  obtain ⟨_, _, _, _, p5⟩ := put1_shape (fill_shape (c := c) (s := put1 f s) h)
  split at p5
  · exact .inl (p5.1.trans hi)
  · exact .inr (p5.2.trans hi)
theorem pure_l_sunk (T : Ok K A) (h : sp_l_sunk K A [v0, v1, v2, v3] H Q E) : t_l_sunk K A E { nx := fun _ H' => Q .non H', rt := Q } [some v0, some v1, some v2, some v3, none, none, none, none, none, none] H := by
  obtain ⟨d, ks, ad, ws, S, t, c, s, i, w, rfl, rfl, rfl, rfl, N, Ft, up, ui, hloc, hil, k⟩ := h
  obtain ⟨efill, hi⟩ := locate_some hloc
  have ht : ∀ j ∈ t.nodes, j ∈ ks := Ft.sub
  have pm := fill_perm (c := c) (s := s)
  rw [efill] at pm
  have him : i ∈ t.nodes := (pm.mem_iff).2 (List.mem_append_left _ (Tr.top_mem hi))
  have hik := ht i him
  obtain ⟨ws', ews⟩ : ∃ ws', ws' = ws.set i w := ⟨_, rfl⟩
  have wti : wt ws' i = w := by rw [ews]; exact wt_set hil
  have wtn : ∀ j, j ≠ i → wt ws' j = wt ws j := fun j n => by rw [ews]; exact wt_set_ne n
  rw [← ews] at k
  unfold t_l_sunk
  repeat walk_at "s1"
  refine ⟨d, _, rfl, N.get hik, ?_⟩
  repeat walk_at "s1"
  refine x_setL (N.at_ i hik) (n := 0) rfl ?_
  have N1 : Nts (upd H (ad i) (.lst ((note ws S i).set 0 (.int w)))) d ks ad ws' S := N.set hik (by unfold note; rw [wti]; rfl) fun j _ n => by unfold note; rw [wtn j n]
  have f1 : G.Fr (NM ks ad) H _ := N.at_fr hik (xs := (note ws S i).set 0 (.int w))
  generalize upd H (ad i) (.lst ((note ws S i).set 0 (.int w))) = H1 at N1 f1 ⊢
  repeat walk_at "s1"
  refine ⟨d, ks, ad, ws', S, i, rfl, rfl, N1, fun o o1 o2 => ?_⟩
  -- nothing is to be done
  have stay : ∀ {H2 : Hp}, (sunkT ws' i t c s) = (t, 0) → Nts H2 d ks ad ws' S → G.Fr (NM ks ad) H H2 → ∀ p, H2 p = none → Q (.ref p) (upd H2 p (.tup [oV t.top, .int 0])) := fun e N2 f2 p hp => by
    have fp : G.Fr M0 _ _ := Fr.new hp (o := .tup [oV t.top, .int 0])
    refine k _ S p (N2.fr0 fp) (by rw [e]; exact Ft) (N2.back f2 hp) (by rw [e]; exact upd_same) (f2.trans (fp.mono fun _ z => z.elim))
  cases c with
  | nil =>
    have et : t = s := efill.symm
    have oN : o = none := above_none ui (up i (by rw [et]; exact hi)) o1
    subst oN
    repeat walk_at "s1"
    refine x_T rfl (x_T rfl ?_)
    repeat walk_at "s1"
    exact ⟨sz_le (by simp), stay rfl N1 f1⟩
  | cons f c =>
    have sh := Ft.sh
    rw [← efill] at sh
    have eS := edge_of hi sh
    have fm : f.1 ∈ knodes (f :: c) := List.mem_append_left _ List.mem_cons_self
    have kk : ∀ j ∈ knodes (f :: c), j ∈ ks := fun j m => ht j ((pm.mem_iff).2 (List.mem_append_right _ m))
    have sk : ∀ j ∈ s.nodes, j ∈ ks := fun j m => ht j ((pm.mem_iff).2 (List.mem_append_left _ m))
    have fk := kk _ fm
    have oN : o = some f.1 := above_some ui fk eS o1 o2
    subst oN
    have ndt := Ft.nd
    have nd' : (s.nodes ++ knodes (f :: c)).Nodup := pm.nodup_iff.1 ndt
    have dis : ∀ j ∈ s.nodes, j ∉ knodes (f :: c) := fun j m m' => (List.nodup_append.1 nd').2.2 j m j m' rfl
    have nfi : ∀ j ∈ knodes (f :: c), j ≠ i := fun j m e => dis i (Tr.top_mem hi) (by rw [← e]; exact m)
    rw [show oV (some f.1) = V.int (f.1 : Int) from rfl]
    repeat walk_at "s1"
    refine x_F rfl ?_
    repeat walk_at "s1"
    refine ⟨d, _, rfl, N1.get fk, ?_⟩
    repeat walk_at "s1"
    refine x_ixL (N1.sq fk) rfl (v := .int (wt ws' f.1)) rfl ?_
    repeat walk_at "s1"
    refine ⟨sz_le (by simp), fun p1 hq1 => ?_⟩
    have g1 : G.Fr M0 H1 (upd H1 p1 (.tup [.int (wt ws' f.1), .int f.1])) := Fr.new hq1
    have t1 : upd H1 p1 (.tup [.int (wt ws' f.1), .int f.1]) p1 = some (.tup [.int (wt ws' f.1), .int f.1]) := upd_same
    generalize upd H1 p1 (.tup [.int (wt ws' f.1), .int f.1]) = H2 at g1 t1 ⊢
    repeat walk_at "s1"
    refine ⟨sz_le (by simp), fun p2 hq2 => ?_⟩
    have g2 : G.Fr M0 H2 (upd H2 p2 (.tup [.int w, .int i])) := Fr.new hq2
    refine x_ltT (g2 _ _ t1 (fun z => z)) upd_same ?_
    have N3 := (N1.fr0 g1).fr0 g2
    have f3 : G.Fr (NM ks ad) H (upd H2 p2 (.tup [.int w, .int i])) := f1.trans ((g1.trans g2).mono fun _ z => z.elim)
    generalize upd H2 p2 (.tup [.int w, .int i]) = H3 at N3 f3 ⊢
    repeat walk_at "s1"
    rw [← wti]
    by_cases les : Les ws' f.1 i
    · refine x_T (decide_eq_true (lex_les.2 les)) ?_
      repeat walk_at "s1"
      exact ⟨sz_le (by simp), stay (by show (if _ then _ else _) = _; rw [if_pos les]) N3 f3⟩
    refine x_F (decide_eq_false fun z => les (lex_les.1 z)) ?_
    have esunk : sunkT ws' i t (f :: c) s = (mrg ws' (rise (f :: c) s.run .nil).1 s, (rise (f :: c) s.run .nil).2 + cnt ws' (rise (f :: c) s.run .nil).1 s) := by show (if _ then _ else _) = _; rw [if_neg les]
    rw [esunk] at k
    clear stay
    have upt : Upp S (fill (f :: c) s) none := by rw [efill]; exact up
    have rut : Runs S (fill (f :: c) s) := by rw [efill]; exact Ft.ru
    obtain ⟨R0, q1, q2, q3, q4⟩ := cut_ok hi sh rut upt (by rw [efill]; exact ndt)
    have eU : (S.cut f i).U = fset S.U i none := by unfold CS.cut; split <;> rfl
    have p5 := (put1_shape (fill_shape (c := c) (s := put1 f s) sh)).2.2.2.2
    -- from the loop on
    have loop : ∀ (H4 : Hp) (pl : Nat), Nts H4 d ks ad ws' (S.cut f i) → G.Fr (NM ks ad) H H4 → (tSeq (tAsg (tC (.int 0)) (gName 6))
    (tSeq (tAsg (tC (.bl true)) (gName 7))
    (tSeq (tWhile (tAnd (tTest (tOp oNotN (tVar 4) (tC .non))) (tB (tVar 7))) (tSeq (tAsg (tOp (rIxL K) (tDGet (tVar 0) (tVar 4)) (tC (.int 3))) (gName 8))
    (tSeq (tDrop (tCall (sp_l_sided K A) [] E0 (tCons (tVar 0) (tCons (tVar 4) tNil))))
    (tSeq (tAsg (tOp oAdd (tVar 6) (tC (.int 1))) (gName 6))
    (tSeq (tAsg (tOp rNe (tOp (rIxL K) (tDGet (tVar 0) (tVar 4)) (tC (.int 3))) (tVar 8)) (gName 7))
    (tAsg (tCall (sp_l_above K A) [] E0 (tCons (tVar 0) (tCons (tVar 4) tNil))) (gName 4)))))))
    (tSeq (tAsg (tCall (sp_l_joined K A) [] E0 (tCons (tVar 0) (tCons (tVar 1) (tCons (tVar 2) tNil)))) (gName 9))
    (tRet (tTup (tCons (tOp (rIxT K) (tVar 9) (tC (.int 0))) (tCons (tOp oAdd (tVar 6) (tOp (rIxT K) (tVar 9) (tC (.int 1)))) tNil)))))))) { nx := fun _ H' => Q .non H', rt := Q } [some (.ref d), some (oV t.top), some (.int i), some (.int (wt ws' i)), some (.int f.1), some (.int pl), none, none, none, none] H4 := by
      intro H4 pl N4 f4
      repeat walk_at "s1"
      -- the end
      have fin : ∀ {S' : CS} {H' : Hp} {x4 x7 x8 : Option V}, Nts H' d ks ad ws' S' → G.Fr (NM ks ad) H H' → Out (S.cut f i) S' (knodes (f :: c)) → S'.U = (S.cut f i).U → Shape S' (rise (f :: c) s.run .nil).1 → Runs S' (rise (f :: c) s.run .nil).1 →
        (tSeq (tAsg (tCall (sp_l_joined K A) [] E0 (tCons (tVar 0) (tCons (tVar 1) (tCons (tVar 2) tNil)))) (gName 9))
    (tRet (tTup (tCons (tOp (rIxT K) (tVar 9) (tC (.int 0))) (tCons (tOp oAdd (tVar 6) (tOp (rIxT K) (tVar 9) (tC (.int 1)))) tNil))))) { nx := fun _ H' => Q .non H', rt := Q } [some (.ref d), some (oV t.top), some (.int i), some (.int (wt ws' i)), x4, some (.int pl), some (.int ((rise (f :: c) s.run .nil).2 : Nat)), x7, x8, none] H' := by
        intro S' H' x4 x7 x8 N' f' o u a b
        have rp := rise_perm (c := f :: c) (old := s.run) (s := .nil)
        have rn : ∀ j ∈ (rise (f :: c) s.run .nil).1.nodes, j ∈ knodes (f :: c) := fun j m => (rp.mem_iff).1 m
        have ndk := (List.nodup_append.1 nd').2.1
        have nds := (List.nodup_append.1 nd').1
        repeat walk_at "s1"
        refine ⟨d, ks, ad, ws', S', (rise (f :: c) s.run .nil).1, s, rfl, ?_, by rw [hi]; rfl, N', ⟨a, b, rp.nodup_iff.2 ndk, fun j m => kk j (rn j m)⟩,
          ⟨shape_fr (fun j m => o.l j (dis j m)) (fun j m => o.r j (dis j m)) (fun j _ => by rw [u]) q1, runs_fr (fun j m => o.n j (dis j m)) q2, nds, sk⟩, ?_, fun H5 S5 p5 N5 F5 h5 t5 f5 => ?_⟩
        · rw [rise_top, ← efill]
          congr 1
          have e1 : (fill (f :: c) s).top = (fill (f :: c) .nil).top := fill_top (c := c) (s := put1 f s) (s' := put1 f .nil) (by rw [put1_top, put1_top])
          exact e1
        · exact List.nodup_append.2 ⟨rp.nodup_iff.2 ndk, nds, fun x m y m' e => dis y m' (by rw [← e]; exact rn x m)⟩
        repeat walk_at "s1"
        refine x_ixT (st_of t5) rfl (v := oV (mrg ws' (rise (f :: c) s.run .nil).1 s).top) rfl ?_
        repeat walk_at "s1"
        refine x_ixT (st_of t5) rfl (v := .int (cnt ws' (rise (f :: c) s.run .nil).1 s : Nat)) rfl ?_
        repeat walk_at "s1"
        refine ⟨sz_le (by simp), fun p6 hp6 => ?_⟩
        rw [show ((rise (f :: c) s.run .nil).2 : Int) + ((cnt ws' (rise (f :: c) s.run .nil).1 s : Nat) : Int) = (((rise (f :: c) s.run .nil).2 + cnt ws' (rise (f :: c) s.run .nil).1 s : Nat) : Int) by omega]
        have fp : G.Fr M0 H5 (upd H5 p6 (.tup [oV (mrg ws' (rise (f :: c) s.run .nil).1 s).top, .int (((rise (f :: c) s.run .nil).2 + cnt ws' (rise (f :: c) s.run .nil).1 s : Nat) : Int)])) := Fr.new hp6
        exact k _ S5 p6 (N5.fr0 fp) F5 (N5.back (f'.trans f5) hp6) upd_same ((f'.trans f5).trans (fp.mono fun _ z => z.elim))
      refine x_while (fun m σ' H' => ∃ S' o n g x8, σ' = [some (.ref d), some (oV t.top), some (.int i), some (.int (wt ws' i)), some (oV o), some (.int pl), some (.int (n : Nat)), some (.bl g), x8, none] ∧ Nts H' d ks ad ws' S' ∧ UI S' S.U ks ∧ G.Fr (NM ks ad) H H' ∧
        ((g = true ∧ ∃ cs old s', o = cs.head?.map (·.1) ∧ Rise (S.cut f i) S' (knodes (f :: c)) cs old s' ∧ (rise cs old s').1 = (rise (f :: c) s.run .nil).1 ∧ n + (rise cs old s').2 = (rise (f :: c) s.run .nil).2 ∧ m = cs.length + 1) ∨
        (g = false ∧ Out (S.cut f i) S' (knodes (f :: c)) ∧ S'.U = (S.cut f i).U ∧ Shape S' (rise (f :: c) s.run .nil).1 ∧ Runs S' (rise (f :: c) s.run .nil).1 ∧ n = (rise (f :: c) s.run .nil).2 ∧ m = 0)))
        _ ⟨S.cut f i, some f.1, 0, true, none, rfl, N4, ui.cut, f4, .inl ⟨rfl, f :: c, s.run, .nil, rfl, R0, rfl, Nat.zero_add _, rfl⟩⟩ ?_
      rintro m σ' H' ⟨S', o, n, g, x8, rfl, N', ui', f', w'⟩
      repeat walk_at "s1"
      rw [dec_oV]
      rcases w' with ⟨rfl, cs, old, s', rfl, RR, r1, r2, rfl⟩ | ⟨rfl, w1, w2, w3, w4, rfl, rfl⟩
      · cases cs with
        | nil =>
          refine x_F rfl (x_F rfl ?_)
          have e1 : s' = (rise (f :: c) s.run .nil).1 := r1
          have e2 : n = (rise (f :: c) s.run .nil).2 := r2
          rw [e2]
          exact fin N' f' RR.out RR.u (by rw [← e1]; exact RR.sh) (by rw [← e1]; exact RR.ru)
        | cons g cs =>
          have gm : g.1 ∈ knodes (f :: c) := RR.sub _ (List.mem_append_left _ List.mem_cons_self)
          have gn : g.1 ∈ ks := kk _ gm
          have gb : ∀ z ∈ g.2.2.nodes, z ∈ ks := fun z m => kk _ (RR.sub _ (List.mem_append_left _ (List.mem_cons_of_mem _ m)))
          obtain ⟨R1, eN, eN'⟩ := RR.step
          obtain ⟨g1, g2, g3, g4, g5⟩ := put1_shape (fill_shape (c := cs) (s := put1 g s') RR.sh)
          have sn : ∀ z ∈ s'.nodes, z ∈ ks := fun z m => kk _ (RR.all z m)
          have nd3 : (s'.nodes ++ (fnodes g ++ knodes cs)).Nodup := (fill_perm (c := g :: cs) (s := s')).nodup_iff.1 RR.nd
          have ngs : ∀ z ∈ s'.nodes, z ≠ g.1 := fun z m e => (List.nodup_append.1 nd3).2.2 z m g.1 (List.mem_append_left _ List.mem_cons_self) e
          have ngb : ∀ z ∈ g.2.2.nodes, z ≠ g.1 := fun z m e => (List.nodup_cons.1 (List.nodup_append.1 (List.nodup_append.1 nd3).2.1).1).1 (by rw [← e]; exact m)
          have chL : ∀ z, S'.L g.1 = some z → z ∈ ks ∧ z ≠ g.1 := fun z e => by
            split at g5
            · have m := Tr.top_mem (g5.1.symm.trans e); exact ⟨sn z m, ngs z m⟩
            · have m := Tr.top_mem (g5.1.symm.trans e); exact ⟨gb z m, ngb z m⟩
          have chR : ∀ z, S'.R g.1 = some z → z ∈ ks ∧ z ≠ g.1 := fun z e => by
            split at g5
            · have m := Tr.top_mem (g5.2.symm.trans e); exact ⟨gb z m, ngb z m⟩
            · have m := Tr.top_mem (g5.2.symm.trans e); exact ⟨sn z m, ngs z m⟩
          refine x_T rfl ?_
          repeat walk_at "s1"
          refine x_T rfl ⟨_, fun _ _ z => z, ?_⟩
          rw [show oV (Option.map (fun x => x.1) (List.head? (g :: cs))) = V.int (g.1 : Int) from rfl]
          repeat walk_at "s1"
          refine ⟨d, _, rfl, N'.get gn, ?_⟩
          repeat walk_at "s1"
          refine x_ixL (N'.sq gn) rfl (v := .int (S'.N g.1)) rfl ?_
          repeat walk_at "s1"
          refine ⟨d, ks, ad, ws', S', g.1, rfl, rfl, N', gn, chL, chR, fun H5 N5 f5 => ?_⟩
          repeat walk_at "s1"
          refine ⟨d, _, rfl, N5.get gn, ?_⟩
          repeat walk_at "s1"
          refine x_ixL (N5.sq gn) rfl (v := .int ((S'.sided g.1).N g.1)) rfl ?_
          repeat walk_at "s1"
          rw [eN, eN']
          refine ⟨d, ks, ad, ws', S'.sided g.1, g.1, rfl, rfl, N5, fun o o1 o2 => ?_⟩
          have ui5 : UI (S'.sided g.1) S.U ks := ui'.sided
          have un : rise (g :: cs) old s' = if (side1 g s').run ≠ oldRun g old then ((rise cs (oldRun g old) (side1 g s')).1, (rise cs (oldRun g old) (side1 g s')).2 + 1) else (fill cs (side1 g s'), 1) := by rw [rise]
          by_cases ch : (side1 g s').run = oldRun g old
          · rw [un, if_neg (by simp [ch])] at r1 r2
            refine ⟨0, by simp, S'.sided g.1, o, n + 1, false, some (.int (oldRun g old)), ?_, N5, ui5, f'.trans f5, .inr ⟨rfl, R1.out, R1.u, ?_, ?_, r2, rfl⟩⟩
            · rw [decide_eq_true (by rw [ch])]; rfl
            · rw [← r1]; exact R1.sh
            · rw [← r1]; exact fill_runs_mk R1.ru (by rw [ch]; exact R1.cr)
          · rw [un, if_pos ch] at r1 r2
            have eo : o = cs.head?.map (·.1) := by
              cases cs with
              | nil =>
                refine above_none ui5 ?_ o1
                have z := R1.up g.1 (by show (side1 g s').top = _; exact side1_top)
                rw [R1.u, eU, fset_ne (nfi _ gm)] at z
                exact z
              | cons h ds =>
                have hm : h.1 ∈ knodes (f :: c) := R1.sub _ (List.mem_append_left _ List.mem_cons_self)
                exact above_some ui5 (kk _ hm) (edge_of side1_top R1.sh) o1 o2
            refine ⟨cs.length + 1, by simp, S'.sided g.1, o, n + 1, true, some (.int (oldRun g old)), ?_, N5, ui5, f'.trans f5, .inl ⟨rfl, cs, oldRun g old, side1 g s', eo, R1, r1, by omega, rfl⟩⟩
            rw [decide_eq_false (by omega)]; rfl
      · cases ho : o with
        | none =>
          refine x_F rfl (x_F rfl ?_)
          exact fin N' f' w1 w2 w3 w4
        | some z =>
          refine x_T rfl ?_
          repeat walk_at "s1"
          refine x_F rfl ?_
          exact fin N' f' w1 w2 w3 w4
    repeat walk_at "s1"
    refine ⟨d, _, rfl, N3.get fk, ?_⟩
    repeat walk_at "s1"
    refine x_ixL (N3.sq fk) rfl (v := oV (S.R f.1)) rfl ?_
    repeat walk_at "s1"
    refine x_eq scal_oV ?_
    repeat walk_at "s1"
    by_cases hb : f.2.1 = true
    · rw [if_pos hb] at p5
      have ec : S.cut f i = { S with U := fset S.U i none, L := fset S.L f.1 none } := if_pos hb
      refine x_F (decide_eq_false fun z => ?_) ?_
      · have el : S.R f.1 = some i := oV_eq.1 z
        have m1 : i ∈ f.2.2.nodes := Tr.top_mem (p5.2.symm.trans el)
        exact dis i (Tr.top_mem hi) (List.mem_append_left _ (List.mem_cons_of_mem _ m1))
      with_reducible refine x_next ?_
      repeat walk_at "s1"
      refine ⟨d, _, rfl, N3.get fk, ?_⟩
      repeat walk_at "s1"
      refine x_setL (N3.at_ f.1 fk) (n := 1) rfl ?_
      refine loop _ 1 ?_ (f3.trans (N3.at_fr fk))
      rw [ec]
      exact N3.set fk (note_eq (S' := { S with U := fset S.U i none, L := fset S.L f.1 none }) (a := none) (b := S.R f.1) (n := S.N f.1) fset_same rfl rfl) fun z _ nz => note_congr (fset_ne nz) rfl rfl
    · rw [if_neg hb] at p5
      have ec : S.cut f i = { S with U := fset S.U i none, R := fset S.R f.1 none } := if_neg hb
      refine x_T (decide_eq_true (by rw [p5.2.trans hi]; rfl)) ?_
      repeat walk_at "s1"
      refine ⟨d, _, rfl, N3.get fk, ?_⟩
      repeat walk_at "s1"
      refine x_setL (N3.at_ f.1 fk) (n := 2) rfl ?_
      refine loop _ 2 ?_ (f3.trans (N3.at_fr fk))
      rw [ec]
      exact N3.set fk (note_eq (S' := { S with U := fset S.U i none, R := fset S.R f.1 none }) (a := S.L f.1) (b := none) (n := S.N f.1) rfl fset_same rfl) fun z _ nz => note_congr rfl (fset_ne nz) rfl
theorem rows_at {ws : List Int} {t : Tr} {j : Nat} {y : G.Row} (h : (rowsOf ws t)[j]? = some y) : y.i ∈ t.nodes ∧ y.w = wt ws y.i := by
  have h1 : (rowsOf ws t).map (fun x : G.Row => x.i) = t.nodes := rows_nodes ..
  have h2 := List.mem_of_getElem? h
  refine ⟨by rw [← h1]; exact List.mem_map_of_mem h2, ?_⟩
  have h3 : ∀ t : Tr, ∀ x ∈ rowsOf ws t, x.w = wt ws x.i := by
    intro t
    induction t with
    | nil => intro x m; cases m
    | node i l r hl hr =>
      intro x m
      rcases List.mem_cons.1 m with e | m
      · rw [e]
      · rcases List.mem_append.1 m with m | m
        · exact hl x m
        · exact hr x m
  exact h3 t y h2
theorem rows_ne {ws : List Int} {t : Tr} : (rowsOf ws t).isEmpty = false → ∃ i l r, t = .node i l r := fun h => by
  cases t with
  | nil => cases h
  | node i l r => exact ⟨i, l, r, rfl⟩
theorem put_len {fs : FS} {k : Nat} {w : Int} : (fs.put k w).ws.length = fs.ws.length + 1 := by show (fs.ws ++ [w]).length = _; simp
theorem put_ts {fs : FS} {k : Nat} {w : Int} : (fs.put k w).ts.length = fs.ts.length := List.length_set
theorem pour_ts {fs : FS} {k m : Nat} : (fs.pour k m).ts.length = fs.ts.length := by show ((fs.ts.set m _).set k _).length = _; simp
theorem pure_l_done (T : Ok K A) (h : sp_l_done K A [v0, v1, v2, v3, v4, v5] H Q E) : t_l_done K A E { nx := fun _ H' => Q .non H', rt := Q } [some v0, some v1, some v2, some v3, some v4, some v5, none, none] H := by
  obtain ⟨F, fs, h, o, k, m, n, rfl, rfl, rfl, rfl, rfl, rfl, hF, g, hz, hh, ho, nho, q⟩ := h
  unfold t_l_done
  repeat walk_at "s3"
  refine y_tree hF hh (by omega) fun H1 l ps hl0 R hps f1 => ?_
  have hF1 := field_fr hF f1
  have fo : G.Fr F.own H H1 := f1.mono fun _ z => z.elim
  have hn := R.len
  have hsz : ps.length ≤ 500 := by
    rw [hn, rows_len, ← Tr.nodes_len]
    exact Nat.le_trans (nodup_bound (FS.tree_nodup g.ok) fun i m => g.ok.lt i (FS.all_tree m)) hz
  -- the last way
  have way3 : ∀ H2, FieldAt A H2 F fs → G.Fr F.own H H2 →
    (tIfS (tAnd (tTest (tOp rEq (tVar 3) (tC (.int 6)))) (tTest (tOp rEq (tOp oMod (tVar 4) (tC (.int 4))) (tC (.int 0))))) (tDrop (tMeth A.CF "pour" (sp_F_pour K A) [] E0 (tVar 0) (tCons (tVar 1) (tCons (tVar 2) tNil)))) (tDrop (tMeth A.CF "put" (sp_F_put K A) [] E0 (tVar 0) (tCons (tVar 1) (tCons (tCall (sp_l_weight K A) [] E0 (tCons (tVar 4) (tCons (tVar 5) tNil))) tNil))))) { nx := fun _ H' => Q .non H', rt := Q } [some (.ref F.f), some (.int h), some (.int o), some (.int k), some (.int m), some (.int n), some (.ref l), none] H2 := by
    intro H2 hF2 f2
    have puts : (tDrop (tMeth A.CF "put" (sp_F_put K A) [] E0 (tVar 0) (tCons (tVar 1) (tCons (tCall (sp_l_weight K A) [] E0 (tCons (tVar 4) (tCons (tVar 5) tNil))) tNil)))) { nx := fun _ H' => Q .non H', rt := Q } [some (.ref F.f), some (.int h), some (.int o), some (.int k), some (.int m), some (.int n), some (.ref l), none] H2 := by
      repeat walk_at "s3"
      refine ⟨m, n, rfl, rfl, fun w => ?_⟩
      repeat walk_at "s1"
      refine y_put hF2 hh (by omega) fun H3 hF3 f3 => ?_
      repeat walk_at "s1"
      exact q H3 _ hF3 (g.put hh) put_ts (by rw [put_len]; exact Nat.le_refl _) (f2.trans f3)
    repeat walk_at "s1"
    refine x_ite (fun _ => ?_) (fun _ => ?_)
    · repeat walk_at "s1"
      refine x_mod (by decide) ?_
      repeat walk_at "s1"
      refine x_ite (fun _ => ?_) (fun _ => ?_)
      · repeat walk_at "s3"
        refine y_pour hF2 hh ho nho (by omega) fun H3 hF3 f3 => ?_
        repeat walk_at "s1"
        exact q H3 _ hF3 (g.pour hh ho nho) pour_ts (Nat.le_succ _) (f2.trans f3)
      · exact puts
    · refine x_F rfl ?_
      exact puts
  -- the second way
  have way2 : ∀ H2, FieldAt A H2 F fs → RowsAt H2 l (rowsOf fs.ws (fs.tree h)) ps → G.Fr F.own H H2 →
    (tIfS (tAnd (tTest (tOp rEq (tVar 3) (tC (.int 7)))) (tTest (tOp (rNeD K) (tVar 6) (tLst tNil)))) (tSeq (tAsg (tOp (rIxL K) (tVar 6) (tOp oMod (tVar 4) (tCB (oLen K) (tCons (tVar 6) tNil)))) (gName 7))
    (tDrop (tMeth A.CF "sink" (sp_F_sink K A) [] E0 (tVar 0) (tCons (tOp (rIxT K) (tVar 7) (tC (.int 0))) (tCons (tOp oSub (tOp (rIxT K) (tVar 7) (tC (.int 1))) (tOp oMod (tOp oDiv (tVar 4) (tCB (oLen K) (tCons (tVar 6) tNil))) (tC (.int 40)))) tNil))))) (tIfS (tAnd (tTest (tOp rEq (tVar 3) (tC (.int 6)))) (tTest (tOp rEq (tOp oMod (tVar 4) (tC (.int 4))) (tC (.int 0))))) (tDrop (tMeth A.CF "pour" (sp_F_pour K A) [] E0 (tVar 0) (tCons (tVar 1) (tCons (tVar 2) tNil)))) (tDrop (tMeth A.CF "put" (sp_F_put K A) [] E0 (tVar 0) (tCons (tVar 1) (tCons (tCall (sp_l_weight K A) [] E0 (tCons (tVar 4) (tCons (tVar 5) tNil))) tNil)))))) { nx := fun _ H' => Q .non H', rt := Q } [some (.ref F.f), some (.int h), some (.int o), some (.int k), some (.int m), some (.int n), some (.ref l), none] H2 := by
    intro H2 hF2 R2 f2
    repeat walk_at "s1"
    refine x_ite (fun _ => ?_) (fun _ => ?_)
    · repeat walk_at "s1"
      refine ⟨sz_le (by simp), fun l2 hl2 => ?_⟩
      have g3 : G.Fr M0 H2 (upd H2 l2 (.lst [])) := Fr.new hl2
      refine x_neRowsNil (rows_fr R2 g3) upd_same ?_
      have R3 := rows_fr R2 g3
      have hF3 := field_fr hF2 g3
      have f3 : G.Fr F.own H (upd H2 l2 (.lst [])) := f2.trans (g3.mono fun _ z => z.elim)
      generalize upd H2 l2 (.lst []) = H3 at R3 hF3 f3 ⊢
      repeat walk_at "s1"
      cases e : (rowsOf fs.ws (fs.tree h)).isEmpty with
      | true => exact x_F rfl (way3 H3 hF3 f3)
      | false =>
        refine x_T rfl ?_
        have hpos : 0 < ps.length := by
          rw [hn]
          cases hr : rowsOf fs.ws (fs.tree h) with
          | nil => rw [hr] at e; cases e
          | cons a b => exact Nat.succ_pos _
        have lps : (ps.map V.ref).length = ps.length := List.length_map ..
        repeat walk_at "s1"
        refine x_lenL (sl_of R3.lst) ?_
        rw [lps]
        repeat walk_at "s1"
        refine x_mod (by omega) ?_
        obtain ⟨j, ej, hj⟩ : ∃ j : Nat, m % (ps.length : Int) = j ∧ j < ps.length := ⟨(m % (ps.length : Int)).toNat, by
          have := Int.emod_nonneg m (show (ps.length : Int) ≠ 0 by omega)
          omega, by
          have := Int.emod_lt_of_pos m (show (0 : Int) < ps.length by omega)
          omega⟩
        have ep : ps[j]? = some ps[j] := List.getElem?_eq_getElem hj
        have hjr : j < (rowsOf fs.ws (fs.tree h)).length := by rw [← hn]; exact hj
        have er : (rowsOf fs.ws (fs.tree h))[j]? = some (rowsOf fs.ws (fs.tree h))[j] := List.getElem?_eq_getElem hjr
        generalize (rowsOf fs.ws (fs.tree h))[j] = y at er
        obtain ⟨ym, yw⟩ := rows_at er
        have hyh := FS.home_of g.ok ym
        have t3 := R3.at_ j _ _ ep er
        rw [ej]
        refine x_ixL (sl_of R3.lst) rfl (v := .ref ps[j]) (atI_nat (by rw [List.getElem?_map, ep]; rfl)) ?_
        repeat walk_at "s3"
        refine x_ixT (st_of t3) rfl (v := .int (y.i : Int)) rfl ?_
        repeat walk_at "s1"
        refine x_ixT (st_of t3) rfl (v := .int y.w) rfl ?_
        repeat walk_at "s1"
        refine x_lenL (sl_of R3.lst) ?_
        rw [lps]
        repeat walk_at "s1"
        refine x_div ⟨by omega, by omega⟩ ?_
        repeat walk_at "s1"
        refine x_mod (by decide) ?_
        repeat walk_at "s1"
        have pos := Int.emod_nonneg (m / (ps.length : Int)) (show (40 : Int) ≠ 0 by decide)
        have hle : y.w - m / (ps.length : Int) % 40 ≤ wt fs.ws y.i := by rw [yw]; omega
        refine y_sink hF3 hyh hle (by omega) fun H4 hF4 f4 => ?_
        have s := FS.sink_to (w := y.w - m / (ps.length : Int) % 40) hyh
        obtain ⟨_, s2, s3⟩ := s.all
        repeat walk_at "s1"
        exact q H4 _ hF4 (s.good g hle) s3 (by rw [s2, List.length_set]; exact Nat.le_succ _) (f3.trans f4)
    · refine x_F rfl ?_
      exact way3 H2 hF2 f2
  repeat walk_at "s1"
  refine x_ite (fun _ => ?_) (fun _ => ?_)
  · repeat walk_at "s1"
    refine ⟨sz_le (by simp), fun l2 hl2 => ?_⟩
    have g3 : G.Fr M0 H1 (upd H1 l2 (.lst [])) := Fr.new hl2
    refine x_neRowsNil (rows_fr R g3) upd_same ?_
    have R3 := rows_fr R g3
    have hF3 := field_fr hF1 g3
    have f3 : G.Fr F.own H (upd H1 l2 (.lst [])) := fo.trans (g3.mono fun _ z => z.elim)
    generalize upd H1 l2 (.lst []) = H3 at R3 hF3 f3 ⊢
    repeat walk_at "s1"
    cases e : (rowsOf fs.ws (fs.tree h)).isEmpty with
    | true => exact x_F rfl (way2 H3 hF3 R3 f3)
    | false =>
      refine x_T rfl ?_
      obtain ⟨i, tl, tr, et⟩ := rows_ne e
      repeat walk_at "s3"
      refine y_take hF3 hh (by omega) et fun H4 p hF4 _ _ f4 => ?_
      repeat walk_at "s1"
      exact q H4 _ hF4 (g.take hh et) FS.take_len (by rw [FS.take_ws]; exact Nat.le_succ _) (f3.trans f4)
  · refine x_F rfl ?_
    exact way2 H1 hF1 R fo
theorem rows_congr {ws ws' : List Int} : ∀ {t : Tr}, (∀ i ∈ t.nodes, wt ws' i = wt ws i) → rowsOf ws' t = rowsOf ws t
  | .nil, _ => rfl
  | .node i l r, h => by
    show (⟨i, wt ws' i, l.top, r.top, _⟩ : G.Row) :: (rowsOf ws' l ++ rowsOf ws' r) = ⟨i, wt ws i, l.top, r.top, _⟩ :: (rowsOf ws l ++ rowsOf ws r)
    rw [h i mem_i, rows_congr (t := l) fun j m => h j (mem_l m), rows_congr (t := r) fun j m => h j (mem_r m)]
theorem sink_nil {fs : FS} {i h : Nat} {w : Int} {s : Tr} (eh : fs.home i = some h) (el : locate (fs.tree h) i = some ([], s)) : fs.sink i w = { fs with ws := fs.ws.set i w, sp := 0 } := by
  unfold FS.sink
  rw [eh]
  show (match locate (fs.tree h) i with | none => fs | some ([], _) => _ | some (f :: c, s) => _) = _
  rw [el]
theorem sink_cons {fs : FS} {i h : Nat} {w : Int} {f : Frm} {c : List Frm} {s : Tr} (eh : fs.home i = some h) (el : locate (fs.tree h) i = some (f :: c, s)) : fs.sink i w = if Les (fs.ws.set i w) f.1 i then { fs with ws := fs.ws.set i w, sp := 0 }
      else ⟨fs.ts.set h (mrg (fs.ws.set i w) (rise (f :: c) s.run .nil).1 s), fs.ws.set i w, (rise (f :: c) s.run .nil).2 + cnt (fs.ws.set i w) (rise (f :: c) s.run .nil).1 s⟩ := by
  unfold FS.sink
  rw [eh]
  show (match locate (fs.tree h) i with | none => fs | some ([], _) => _ | some (f :: c, s) => _) = _
  rw [el]
theorem sink_is {fs : FS} {i h : Nat} {w : Int} {c : List Frm} {s : Tr} (eh : fs.home i = some h) (el : locate (fs.tree h) i = some (c, s)) (hh : h < fs.ts.length) :
    (fs.sink i w).ws = fs.ws.set i w ∧ (fs.sink i w).tree h = (sunkT (fs.ws.set i w) i (fs.tree h) c s).1 ∧ (fs.sink i w).sp = (sunkT (fs.ws.set i w) i (fs.tree h) c s).2 ∧ ∀ k, k ≠ h → (fs.sink i w).tree k = fs.tree k := by
  cases c with
  | nil =>
    rw [sink_nil eh el]
    exact ⟨rfl, rfl, rfl, fun _ _ => rfl⟩
  | cons f c =>
    rw [sink_cons eh el]
    by_cases l : Les (fs.ws.set i w) f.1 i
    · rw [if_pos l, show sunkT (fs.ws.set i w) i (fs.tree h) (f :: c) s = (fs.tree h, 0) from if_pos l]
      exact ⟨rfl, rfl, rfl, fun _ _ => rfl⟩
    · rw [if_neg l, show sunkT (fs.ws.set i w) i (fs.tree h) (f :: c) s = (mrg (fs.ws.set i w) (rise (f :: c) s.run .nil).1 s, (rise (f :: c) s.run .nil).2 + cnt (fs.ws.set i w) (rise (f :: c) s.run .nil).1 s) from if_neg l]
      refine ⟨rfl, (FS.tree_set hh).trans (if_pos rfl), rfl, fun k n => (FS.tree_set hh).trans (if_neg n)⟩
theorem pure_l_due (T : Ok K A) (h : sp_l_due K A [v0, v1, v2, v3, v4, v5] H Q E) : t_l_due K A E { nx := fun _ H' => Q .non H', rt := Q } [some v0, some v1, some v2, some v3, some v4, some v5, none, none, none, none] H := by
  obtain ⟨F, fs, lh, d, lr, l0, l1, h0, h1, ks, ad, S, ps0, ps1, c, m, rfl, rfl, rfl, rfl, rfl, rfl, hF, g, hz, hh0, hh1, nh, hlh, hlr, R0, R1, N, F0, F1, up0, ui, hks, lks, nod, nmo, nlo, k⟩ := h
  have z0 : (fs.tree h0).size ≤ 500 := by
    rw [← Tr.nodes_len]
    exact Nat.le_trans (nodup_bound (FS.tree_nodup g.ok) fun i m => g.ok.lt i (FS.all_tree m)) hz
  have z1 : (fs.tree h1).size ≤ 500 := by
    rw [← Tr.nodes_len]
    exact Nat.le_trans (nodup_bound (FS.tree_nodup g.ok) fun i m => g.ok.lt i (FS.all_tree m)) hz
  have own_ : ∀ {Ha Hb : Hp}, G.Fr F.own Ha Hb → Nts Ha d ks ad fs.ws S → Nts Hb d ks ad fs.ws S := fun f N => N.fr f nod fun i hi => nmo _ ⟨i, hi, rfl⟩
  have frm : ∀ {Hb Hc : Hp}, G.Fr F.own H Hb → G.Fr (NM ks ad) Hb Hc → G.Fr (fun b => F.own b ∨ b = d ∨ NM ks ad b) H Hc := fun a b => (a.mono fun _ z => .inl z).trans (b.mono fun _ z => .inr (.inr z))
  have jf : ∀ {Hb Hc : Hp} {fs' : FS} {ws : List Int} {S : CS}, FieldAt A Hb F fs' → Nts Hb d ks ad ws S → G.Fr (NM ks ad) Hb Hc → FieldAt A Hc F fs' := fun hFb Nb f => hFb.fr f (fun x mm hx => nmo x hx mm) (fun ⟨j, hj, e⟩ => by
    obtain ⟨_, _, R, _, _⟩ := hFb.raw
    exact ne_of R.tr.ob (Nb.at_ j hj) (by intro z; cases z) e)
  have bk : ∀ {Hb : Hp} {fs' : FS} {ws : List Int} {S : CS} {p : Addr}, FieldAt A Hb F fs' → Nts Hb d ks ad ws S → G.Fr F.own H Hb → Hb p = none → H p = none := fun {Hb fs' ws S p} hFb Nb f hp => by
    cases ch : H p with
    | none => rfl
    | some o =>
      by_cases c1 : F.own p
      · exact absurd c1 (own_new hFb hp)
      · rw [f _ _ ch c1] at hp; cases hp
  unfold t_l_due
  repeat walk_at "s1"
  refine x_ixL (sl_of hlr) rfl (v := .ref l0) rfl ?_
  repeat walk_at "s1"
  refine ⟨l0, fs.ws, fs.tree h0, ps0, rfl, R0, by omega, fun H2 f2 => ?_⟩
  have hF2 := field_fr hF f2
  have N2 := N.fr0 f2
  have hlh2 := f2 _ _ hlh (fun z => z)
  have hlr2 := f2 _ _ hlr (fun z => z)
  have R02 := rows_fr R0 f2
  have R12 := rows_fr R1 f2
  have fo2 : G.Fr F.own H H2 := f2.mono fun _ z => z.elim
  clear hF N hlh hlr R0 R1
  repeat walk_at "s1"
  refine x_mod (by decide) ?_
  repeat walk_at "s1"
  refine x_ite (fun c0 => ?_) (fun c0 => ?_)
  · -- a thing is put
    repeat walk_at "s1"
    refine x_mod (by decide) ?_
    repeat walk_at "s1"
    refine ⟨m, _, rfl, rfl, fun w => ?_⟩
    repeat walk_at "s3"
    refine x_ixL (sl_of hlh2) rfl (v := .int (h0 : Int)) rfl ?_
    repeat walk_at "s1"
    refine y_put hF2 hh0 (by omega) fun H3 hF3 f3 => ?_
    have N3 := own_ f3 N2
    repeat walk_at "s1"
    refine ⟨sz_le (by simp), fun b hb => ?_⟩
    repeat walk_at "s1"
    have ni : fs.ws.length ∉ ks := fun mm => by have := hks _ mm; omega
    obtain ⟨S', eS'⟩ : ∃ S' : CS, S' = { S with L := fset S.L fs.ws.length none, R := fset S.R fs.ws.length none, N := fset S.N fs.ws.length 1 } := ⟨_, rfl⟩
    have nk : ∀ j ∈ ks, j ≠ fs.ws.length := fun j hj e => ni (by rw [← e]; exact hj)
    have wtk : ∀ j ∈ ks, wt (fs.ws ++ [w]) j = wt fs.ws j := fun j hj => wt_app (hks j hj)
    have sL : ∀ j ∈ ks, S'.L j = S.L j := fun j hj => by rw [eS']; exact fset_ne (nk j hj)
    have sR : ∀ j ∈ ks, S'.R j = S.R j := fun j hj => by rw [eS']; exact fset_ne (nk j hj)
    have sN : ∀ j ∈ ks, S'.N j = S.N j := fun j hj => by rw [eS']; exact fset_ne (nk j hj)
    have sU : S'.U = S.U := by rw [eS']
    have nL : S'.L fs.ws.length = none := by rw [eS']; exact fset_same
    have nR : S'.R fs.ws.length = none := by rw [eS']; exact fset_same
    have nN : S'.N fs.ws.length = 1 := by rw [eS']; exact fset_same
    have N4 := N3.add (ws' := fs.ws ++ [w]) (S' := S') ni hb (xs := [.int w, .non, .non, .int 1]) (by
      unfold note; rw [wt_new, nL, nR, nN]; rfl) (fun j hj => by unfold note; rw [wtk j hj, sL j hj, sR j hj, sN j hj]) (by omega)
    refine ⟨d, _, rfl, DPut.k (k := kI fs.ws.length) (v := V.ref b) (by rw [upd_ne (ne_of_none N3.dict hb)]; exact N3.dict) (by refine sz_lt ?_; rw [List.length_map]; omega), ?_⟩
    have f4 : G.Fr (fun x => x = d) H3 (upd (upd H3 b (.lst [.int w, .non, .non, .int 1])) d (.dK (putK (dct ks ad) (kI fs.ws.length) (V.ref b)))) := (Fr.new hb).trans (Fr.at rfl)
    have hF4 : FieldAt A (upd (upd H3 b (.lst [.int w, .non, .non, .int 1])) d (.dK (putK (dct ks ad) (kI fs.ws.length) (V.ref b)))) F (fs.put h0 w) := hF3.fr f4 (fun x mm e => nod (by rw [← e]; exact mm)) (fun e => by
      obtain ⟨_, _, R, _, _⟩ := hF3.raw
      exact ne_of R.tr.ob N3.dict (by intro z; cases z) e)
    have nmb : ∀ x, NM (ks ++ [fs.ws.length]) (fun j => if j = fs.ws.length then b else ad j) x → NM ks ad x ∨ H3 x = none := fun x hx => Nts.add_nm (H0 := H) hb hx
    generalize upd (upd H3 b (.lst [.int w, .non, .non, .int 1])) d (.dK (putK (dct ks ad) (kI fs.ws.length) (V.ref b))) = H4 at N4 f4 hF4 ⊢
    repeat walk_at "s1"
    have f0 : Fit S' (ks ++ [fs.ws.length]) (fs.tree h0) := ⟨shape_fr (fun j mm => sL j (F0.sub j mm)) (fun j mm => sR j (F0.sub j mm)) (fun j _ => by rw [sU]) F0.sh, runs_fr (fun j mm => sN j (F0.sub j mm)) F0.ru, F0.nd, fun j mm => List.mem_append_left _ (F0.sub j mm)⟩
    refine ⟨d, _, _, fs.ws ++ [w], S', fs.tree h0, .node fs.ws.length .nil .nil, rfl, rfl, rfl, N4, f0, ⟨⟨nL, nR, (fun _ e => nomatch e), (fun _ e => nomatch e), trivial, trivial⟩, ⟨nN, trivial, trivial⟩, by show [fs.ws.length].Nodup; simp, fun j mm => ?_⟩, ?_, fun H5 S5 p N5 F5 h5 t5 f5 => ?_⟩
    · have : j = fs.ws.length := by
        have mm : j ∈ [fs.ws.length] := mm
        simpa using mm
      rw [this]; simp
    · refine List.nodup_append.2 ⟨F0.nd, by show [fs.ws.length].Nodup; simp, fun a ha x hx e => ?_⟩
      have hx : x ∈ [fs.ws.length] := hx
      have : x = fs.ws.length := by simpa using hx
      exact nk a (F0.sub a ha) (e.trans this)
    have et : (fs.put h0 w).tree h0 = mrg (fs.ws ++ [w]) (fs.tree h0) (.node fs.ws.length .nil .nil) := by rw [FS.put_tree hh0, if_pos rfl]
    have fnm : ∀ x, NM (ks ++ [fs.ws.length]) (fun j => if j = fs.ws.length then b else ad j) x → ¬ F.own x := fun x hx mm => by
      rcases nmb x hx with z | z
      · exact nmo x z mm
      · exact own_new hF3 z mm
    have hF5 : FieldAt A H5 F (fs.put h0 w) := hF4.fr f5 (fun x mm hx => fnm x hx mm) (fun ⟨j, hj, e⟩ => by
      obtain ⟨_, _, R, _, _⟩ := hF4.raw
      exact ne_of R.tr.ob (N4.at_ j hj) (by intro z; cases z) e)
    have hp0 : H p = none := by
      cases ch : H p with
      | none => rfl
      | some o =>
        by_cases c1 : F.own p
        · exact absurd c1 (own_new hF4 h5)
        · have e3 := f3 _ _ (f2 _ _ ch (fun z => z)) c1
          by_cases c2 : p = d
          · rw [c2, N4.dict] at h5; cases h5
          · rw [f4 _ _ e3 c2] at h5; cases h5
    refine k H5 (fs.put h0 w) _ _ S5 p hF5 (g.put hh0) put_ts (by rw [put_len]; omega) N5 (by rw [et]; exact F5) hp0 (by rw [et]; exact t5) (fun z => ?_) (fun _ => ⟨by rw [FS.put_tree hh0, if_neg nh.symm], rows_congr fun i mm => wt_app (g.ok.lt i (FS.all_tree mm))⟩) ?_
    · unfold Empties at z; omega
    · intro x o hx nx
      have n1 : ¬ F.own x := fun z => nx (.inl z)
      have n2 : x ≠ d := fun z => nx (.inr (.inl z))
      have e3 := f3 _ _ (f2 _ _ hx (fun z => z)) n1
      refine f5 _ _ (f4 _ _ e3 n2) fun z => ?_
      rcases nmb x z with z | z
      · exact nx (.inr (.inr z))
      · rw [e3] at z; cases z
  -- none is put
  repeat walk_at "s1"
  refine x_mod (by decide) ?_
  repeat walk_at "s1"
  have third : (fs.tree h0 = .nil ∨ c % 4 ≠ 1) →
    (tSeq (tIfS (tOr (tTest (tOp rEq (tOp oMod (tVar 4) (tC (.int 4))) (tC (.int 2)))) (tTest (tOp oIsN (tVar 6) (tC .non)))) (tSeq (tDrop (tMeth A.CF "pour" (sp_F_pour K A) [] E0 (tVar 0) (tCons (tOp (rIxL K) (tVar 1) (tC (.int 0))) (tCons (tOp (rIxL K) (tVar 1) (tC (.int 1))) tNil))))
    (tRet (tCall (sp_l_joined K A) [] E0 (tCons (tVar 2) (tCons (tVar 6) (tCons (tCall (sp_l_top K A) [] E0 (tCons (tOp (rIxL K) (tVar 3) (tC (.int 1))) tNil)) tNil)))))) tNext)
    (tSeq (tAsg (tOp (rIxT K) (tOp (rIxL K) (tOp (rIxL K) (tVar 3) (tC (.int 0))) (tOp oMod (tVar 5) (tCB (oLen K) (tCons (tOp (rIxL K) (tVar 3) (tC (.int 0))) tNil)))) (tC (.int 0))) (gName 8))
    (tSeq (tAsg (tOp oDiv (tVar 5) (tCB (oLen K) (tCons (tOp (rIxL K) (tVar 3) (tC (.int 0))) tNil))) (gName 9))
    (tSeq (tAsg (tOp oSub (tOp (rIxL K) (tDGet (tVar 2) (tVar 8)) (tC (.int 0))) (tOp oMul (tOp oMod (tOp oDiv (tVar 9) (tC (.int 2))) (tC (.int 60))) (tOp oAdd (tC (.int 1)) (tOp oMul (tOp oMod (tVar 9) (tC (.int 2))) (tC (.int 997)))))) (gName 7))
    (tSeq (tDrop (tMeth A.CF "sink" (sp_F_sink K A) [] E0 (tVar 0) (tCons (tVar 8) (tCons (tVar 7) tNil))))
    (tRet (tCall (sp_l_sunk K A) [] E0 (tCons (tVar 2) (tCons (tVar 6) (tCons (tVar 8) (tCons (tVar 7) tNil))))))))))) { nx := fun _ H' => Q .non H', rt := Q } [some (.ref F.f), some (.ref lh), some (.ref d), some (.ref lr), some (.int c), some (.int m), some (oV (fs.tree h0).top), none, none, none] H2 := by
    intro hc1
    have pours : (c % 4 = 2 ∨ fs.tree h0 = .nil) → (tSeq (tDrop (tMeth A.CF "pour" (sp_F_pour K A) [] E0 (tVar 0) (tCons (tOp (rIxL K) (tVar 1) (tC (.int 0))) (tCons (tOp (rIxL K) (tVar 1) (tC (.int 1))) tNil))))
    (tRet (tCall (sp_l_joined K A) [] E0 (tCons (tVar 2) (tCons (tVar 6) (tCons (tCall (sp_l_top K A) [] E0 (tCons (tOp (rIxL K) (tVar 3) (tC (.int 1))) tNil)) tNil)))))) { nx := fun _ H' => Q .non H', rt := Q } [some (.ref F.f), some (.ref lh), some (.ref d), some (.ref lr), some (.int c), some (.int m), some (oV (fs.tree h0).top), none, none, none] H2 := by
      intro hor
      have em : Empties fs h0 c := by
        unfold Empties
        rcases hor with z | z
        · exact .inl z
        · exact .inr ⟨z, c0⟩
      repeat walk_at "s3"
      refine x_ixL (sl_of hlh2) rfl (v := .int (h0 : Int)) rfl ?_
      repeat walk_at "s1"
      refine x_ixL (sl_of hlh2) rfl (v := .int (h1 : Int)) rfl ?_
      repeat walk_at "s1"
      refine y_pour hF2 hh0 hh1 nh (by omega) fun H3 hF3 f3 => ?_
      have N3 := own_ f3 N2
      have hlr3 := f3 _ _ hlr2 (nlo lr (.inr (.inl rfl)))
      have R13 : RowsAt H3 l1 (rowsOf fs.ws (fs.tree h1)) ps1 := ⟨f3 _ _ R12.lst (nlo l1 (.inr (.inr (.inr rfl)))), R12.len, fun k p x e1 e2 => f3 _ _ (R12.at_ k p x e1 e2) (own_tup hF2 (R12.at_ k p x e1 e2))⟩
      repeat walk_at "s1"
      refine x_ixL (sl_of hlr3) rfl (v := .ref l1) rfl ?_
      repeat walk_at "s1"
      refine ⟨l1, fs.ws, fs.tree h1, ps1, rfl, R13, by omega, fun H4 f4 => ?_⟩
      have N4 := N3.fr0 f4
      have hF4 := field_fr hF3 f4
      have fo4 : G.Fr F.own H H4 := (fo2.trans f3).trans (f4.mono fun _ z => z.elim)
      repeat walk_at "s1"
      refine ⟨d, ks, ad, fs.ws, S, fs.tree h0, fs.tree h1, rfl, rfl, rfl, N4, F0, F1, ?_, fun H5 S5 p N5 F5 h5 t5 f5 => ?_⟩
      · exact List.nodup_append.2 ⟨F0.nd, F1.nd, fun a ha b hb e => FS.apart g.ok nh ha (by rw [e]; exact hb)⟩
      have et : (fs.pour h0 h1).tree h0 = mrg fs.ws (fs.tree h0) (fs.tree h1) := by rw [FS.pour_tree hh0 hh1, if_pos rfl]
      exact k H5 (fs.pour h0 h1) ks ad S5 p (jf hF4 N4 f5) (g.pour hh0 hh1 nh) pour_ts (by show fs.ws.length ≤ 501; omega) N5 (by rw [et]; exact F5) (bk hF4 N4 fo4 h5) (by rw [et]; exact t5) (fun _ => by rw [FS.pour_tree hh0 hh1, if_neg nh.symm, if_pos rfl]) (fun z => absurd em z) (frm fo4 f5)
    have sinks : c % 4 ≠ 2 → (∃ i l r, fs.tree h0 = .node i l r) → (tSeq (tAsg (tOp (rIxT K) (tOp (rIxL K) (tOp (rIxL K) (tVar 3) (tC (.int 0))) (tOp oMod (tVar 5) (tCB (oLen K) (tCons (tOp (rIxL K) (tVar 3) (tC (.int 0))) tNil)))) (tC (.int 0))) (gName 8))
    (tSeq (tAsg (tOp oDiv (tVar 5) (tCB (oLen K) (tCons (tOp (rIxL K) (tVar 3) (tC (.int 0))) tNil))) (gName 9))
    (tSeq (tAsg (tOp oSub (tOp (rIxL K) (tDGet (tVar 2) (tVar 8)) (tC (.int 0))) (tOp oMul (tOp oMod (tOp oDiv (tVar 9) (tC (.int 2))) (tC (.int 60))) (tOp oAdd (tC (.int 1)) (tOp oMul (tOp oMod (tVar 9) (tC (.int 2))) (tC (.int 997)))))) (gName 7))
    (tSeq (tDrop (tMeth A.CF "sink" (sp_F_sink K A) [] E0 (tVar 0) (tCons (tVar 8) (tCons (tVar 7) tNil))))
    (tRet (tCall (sp_l_sunk K A) [] E0 (tCons (tVar 2) (tCons (tVar 6) (tCons (tVar 8) (tCons (tVar 7) tNil)))))))))) { nx := fun _ H' => Q .non H', rt := Q } [some (.ref F.f), some (.ref lh), some (.ref d), some (.ref lr), some (.int c), some (.int m), some (oV (fs.tree h0).top), none, none, none] H2 := by
      intro c2 ⟨i0, tl, tr, et0⟩
      have em : ¬ Empties fs h0 c := fun z => by
        rcases z with z | z
        · exact c2 z
        · rw [et0] at z; cases z.1
      have lps : (ps0.map V.ref).length = ps0.length := List.length_map ..
      have hn := R02.len
      have hpos : 0 < ps0.length ∧ ps0.length ≤ 500 := by
        rw [hn, rows_len]
        refine ⟨?_, z0⟩
        rw [et0]
        show 0 < 1 + tl.size + tr.size
        omega
      repeat walk_at "s1"
      refine x_ixL (sl_of hlr2) rfl (v := .ref l0) rfl ?_
      repeat walk_at "s1"
      refine x_ixL (sl_of hlr2) rfl (v := .ref l0) rfl ?_
      repeat walk_at "s1"
      refine x_lenL (sl_of R02.lst) ?_
      rw [lps]
      repeat walk_at "s1"
      refine x_mod (by omega) ?_
      obtain ⟨j, ej, hj⟩ : ∃ j : Nat, m % (ps0.length : Int) = j ∧ j < ps0.length := ⟨(m % (ps0.length : Int)).toNat, by
        have := Int.emod_nonneg m (show (ps0.length : Int) ≠ 0 by omega)
        omega, by
        have := Int.emod_lt_of_pos m (show (0 : Int) < ps0.length by omega)
        omega⟩
      have ep : ps0[j]? = some ps0[j] := List.getElem?_eq_getElem hj
      have hjr : j < (rowsOf fs.ws (fs.tree h0)).length := by rw [← hn]; exact hj
      have er : (rowsOf fs.ws (fs.tree h0))[j]? = some (rowsOf fs.ws (fs.tree h0))[j] := List.getElem?_eq_getElem hjr
      generalize (rowsOf fs.ws (fs.tree h0))[j] = y at er
      obtain ⟨ym, yw⟩ := rows_at er
      have hyh := FS.home_of g.ok ym
      have t3 := R02.at_ j _ _ ep er
      have yk := F0.sub _ ym
      rw [ej]
      refine x_ixL (sl_of R02.lst) rfl (v := .ref ps0[j]) (atI_nat (by rw [List.getElem?_map, ep]; rfl)) ?_
      repeat walk_at "s1"
      refine x_ixT (st_of t3) rfl (v := .int (y.i : Int)) rfl ?_
      repeat walk_at "s1"
      refine x_ixL (sl_of hlr2) rfl (v := .ref l0) rfl ?_
      repeat walk_at "s1"
      refine x_lenL (sl_of R02.lst) ?_
      rw [lps]
      repeat walk_at "s1"
      refine x_div ⟨by omega, by omega⟩ ?_
      generalize m / (ps0.length : Int) = b
      repeat walk_at "s1"
      refine ⟨d, _, rfl, N2.get yk, ?_⟩
      repeat walk_at "s1"
      refine x_ixL (N2.sq yk) rfl (v := .int (wt fs.ws y.i)) rfl ?_
      repeat walk_at "s1"
      refine x_div (by decide) ?_
      repeat walk_at "s1"
      refine x_mod (by decide) ?_
      repeat walk_at "s1"
      refine x_mod (by decide) ?_
      repeat walk_at "s1"
      refine x_mul (.inr (by decide)) ?_
      repeat walk_at "s1"
      have n1 : 0 ≤ b / 2 % 60 ∧ b / 2 % 60 < 60 := by omega
      have n2 : 0 ≤ 1 + b % 2 * 997 := by omega
      have n3 := Int.mul_nonneg n1.1 n2
      refine x_mul (.inl (by omega)) ?_
      generalize b / 2 % 60 * (1 + b % 2 * 997) = x at n3 ⊢
      have hle : wt fs.ws y.i - x ≤ wt fs.ws y.i := by omega
      repeat walk_at "s3"
      generalize wt fs.ws y.i - x = w at hle ⊢
      refine y_sink hF2 hyh hle (by omega) fun H3 hF3 f3 => ?_
      have N3 := own_ f3 N2
      have s := FS.sink_to (w := w) hyh
      obtain ⟨_, _, s3⟩ := s.all
      obtain ⟨cc, ss, hloc⟩ := locate_mem ym
      obtain ⟨e1, e2, e3, e4⟩ := sink_is (w := w) hyh hloc hh0
      have fo3 := fo2.trans f3
      repeat walk_at "s1"
      refine ⟨d, ks, ad, fs.ws, S, fs.tree h0, cc, ss, y.i, w, rfl, rfl, rfl, rfl, N3, F0, up0, ui, hloc, hks _ yk, fun H5 S5 p N5 F5 h5 t5 f5 => ?_⟩
      refine k H5 (fs.sink y.i w) ks ad S5 p (jf hF3 N3 f5) (s.good g hle) s3 (by rw [e1, List.length_set]; omega) (by rw [e1]; exact N5) (by rw [e2]; exact F5) (bk hF3 N3 fo3 h5) (by rw [e2, e3]; exact t5) (fun z => absurd z em) (fun _ => ⟨e4 h1 nh.symm, ?_⟩) (frm fo3 f5)
      rw [e1]
      exact rows_congr fun i mm => wt_set_ne fun e => FS.apart g.ok nh ym (by rw [← e]; exact mm)
    have hcase : fs.tree h0 = .nil ∨ ∃ i l r, fs.tree h0 = .node i l r := by
      cases fs.tree h0 with
      | nil => exact .inl rfl
      | node i l r => exact .inr ⟨i, l, r, rfl⟩
    repeat walk_at "s1"
    refine x_mod (by decide) ?_
    repeat walk_at "s1"
    refine x_ite (fun c2 => ?_) (fun c2 => ?_)
    · refine x_T rfl ?_
      exact pours (.inl c2)
    · repeat walk_at "s1"
      rw [dec_oV]
      rcases hcase with z | z
      · refine x_T (by rw [z]; rfl) ?_
        exact pours (.inr z)
      · refine x_F (by obtain ⟨i, l, r, e⟩ := z; rw [e]; rfl) (x_next ?_)
        exact sinks c2 z
  have hcase : fs.tree h0 = .nil ∨ ∃ i l r, fs.tree h0 = .node i l r := by
    cases fs.tree h0 with
    | nil => exact .inl rfl
    | node i l r => exact .inr ⟨i, l, r, rfl⟩
  refine x_ite (fun c1 => ?_) (fun c1 => ?_)
  · repeat walk_at "s1"
    rw [dec_oV]
    rcases hcase with z | ⟨i, l, r, e⟩
    · refine x_F (by rw [z]; rfl) (x_next ?_)
      exact third (.inl z)
    · refine x_T (by rw [e]; rfl) ?_
      have em : ¬ Empties fs h0 c := fun z => by
        rcases z with z | z
        · omega
        · rw [e] at z; cases z.1
      repeat walk_at "s3"
      refine x_ixL (sl_of hlh2) rfl (v := .int (h0 : Int)) rfl ?_
      repeat walk_at "s1"
      refine y_take hF2 hh0 (by omega) e fun H3 p3 hF3 _ _ f3 => ?_
      have N3 := own_ f3 N2
      have fo3 := fo2.trans f3
      have F0' := F0
      rw [e] at F0'
      have s1 := F0'.sh
      have s2 := F0'.ru
      have ik : i ∈ ks := F0'.sub i mem_i
      have nd : (i :: (l.nodes ++ r.nodes)).Nodup := F0'.nd
      have nd2 := (List.nodup_cons.1 nd).2
      have et : (fs.take h0).tree h0 = mrg fs.ws l r := by rw [FS.take_tree hh0 e, if_pos rfl]
      have esp : (fs.take h0).sp = cnt fs.ws l r := by rw [FS.take_eq e]
      rw [e, show oV (Tr.node i l r).top = V.int (i : Int) from rfl]
      repeat walk_at "s1"
      refine ⟨d, _, rfl, N3.get ik, ?_⟩
      repeat walk_at "s1"
      refine x_ixL (N3.sq ik) rfl (v := oV (S.L i)) rfl ?_
      repeat walk_at "s1"
      refine ⟨d, _, rfl, N3.get ik, ?_⟩
      repeat walk_at "s1"
      refine x_ixL (N3.sq ik) rfl (v := oV (S.R i)) rfl ?_
      rw [s1.1, s1.2.1]
      repeat walk_at "s1"
      refine ⟨d, ks, ad, fs.ws, S, l, r, rfl, rfl, rfl, N3, ⟨s1.2.2.2.2.1, s2.2.1, (List.nodup_append.1 nd2).1, fun j mm => F0'.sub j (mem_l mm)⟩, ⟨s1.2.2.2.2.2, s2.2.2, (List.nodup_append.1 nd2).2.1, fun j mm => F0'.sub j (mem_r mm)⟩, nd2, fun H5 S5 p N5 F5 h5 t5 f5 => ?_⟩
      exact k H5 (fs.take h0) ks ad S5 p (jf hF3 N3 f5) (g.take hh0 e) FS.take_len (by rw [FS.take_ws]; omega) (by rw [FS.take_ws]; exact N5) (by rw [et]; exact F5) (bk hF3 N3 fo3 h5) (by rw [et, esp]; exact t5) (fun z => absurd z em) (fun _ => ⟨by rw [FS.take_tree hh0 e, if_neg nh.symm], by rw [FS.take_ws]⟩) (frm fo3 f5)
  · refine x_F rfl (x_next ?_)
    exact third (.inr c1)
theorem shape_ui {S : CS} : ∀ {t : Tr}, Shape S t → ∀ k ∈ t.nodes, ∀ x, (S.L k = some x ∨ S.R k = some x) → S.U x = some k
  | .nil, _, _, m, _, _ => nomatch m
  | .node i l r, h, k, m, x, o => by
    obtain ⟨h1, h2, h3, h4, h5, h6⟩ := h
    rcases List.mem_cons.1 m with e | m
    · subst e
      rcases o with o | o
      · exact h3 x (h1.symm.trans o)
      · exact h4 x (h2.symm.trans o)
    · rcases List.mem_append.1 m with m | m
      · exact shape_ui h5 k m x o
      · exact shape_ui h6 k m x o
theorem rows_say {S : CS} {ws : List Int} : ∀ {t : Tr}, Shape S t → Runs S t → ∀ x ∈ rowsOf ws t, x.w = wt ws x.i ∧ x.l = S.L x.i ∧ x.r = S.R x.i ∧ x.n = S.N x.i
  | .nil, _, _, _, m => nomatch m
  | .node i l r, h, g, x, m => by
    obtain ⟨h1, h2, _, _, h5, h6⟩ := h
    obtain ⟨g1, g2, g3⟩ := g
    rcases List.mem_cons.1 m with e | m
    · subst e
      exact ⟨rfl, h1.symm, h2.symm, g1.symm⟩
    · rcases List.mem_append.1 m with m | m
      · exact rows_say h5 g2 x m
      · exact rows_say h6 g3 x m
theorem x_neRows {rows : List G.Row} {l l' : Addr} {ps qs : List Addr} (h : RowsAt H l rows ps) (h' : RowsAt H l' rows qs) (k : Q (.bl false) H) : rNeD K (.ref l) (.ref l') H Q :=
  ⟨_, _, .lst (sl_of h.lst) (dp_rows h.len h.at_), .lst (sl_of h'.lst) (dp_rows h'.len h'.at_), shaped_rows rows, shaped_rows rows, by
    rw [SeqAt.eqv_refl (.list (rows.map rowD)) (lay_rows rows)]; exact k⟩
theorem x_forR2z {σ : L2.St} {D : Ends} {j : Nat} {tb : TS} {tl : TA} (a n : Nat) (z : Int) (e : (z - (a : Int)).toNat = n) (hz : 0 ≤ z ∧ z ≤ 1000000) (ha : a ≤ 1000000) (hv : ∀ R : List V → Hp → Prop, R [.int a, .int z] H → tl σ H R) (P : Nat → L2.St → Hp → Prop) (h0 : P 0 σ H)
    (hs : ∀ i σ H, i < n → P i σ H → tb { D with nx := P (i + 1), ct := P (i + 1), bk := D.nx } (σ.set j (some (.int (a + i : Nat)))) H) (hd : ∀ σ H, P n σ H → D.nx σ H) : tFor (iRng2 tl) (gName j) tb D σ H :=
  hv _ ⟨a, z, rfl, ⟨by omega, by omega, by omega, by omega⟩, by
    rw [e]
    exact for_range (lo := (a : Int)) (n := n) P h0 (fun i σ H hi p => by
      have e0 : (a : Int) + (i : Int) = ((a + i : Nat) : Int) := by omega
      show tb { D with nx := P (i + 1), ct := P (i + 1), bk := D.nx } (σ.set j (some (.int ((a : Int) + (i : Int))))) H
      rw [e0]
      exact hs i σ H hi p) hd⟩
def hp2 (h0 h1 : Nat) (j : Nat) : V := .int ((if j = 0 then h0 else h1 : Nat) : Int)
theorem pure_law (T : Ok K A) (h : sp_law K A [v0] H Q E) : t_law K A E { nx := fun _ H' => Q .non H', rt := Q } [some v0, none, none, none, none, none, none, none, none, none] H := by
  obtain ⟨a, ns, rfl, hS, hlen, hb, hO, kk⟩ := h
  have C0 : Scr K H a (ns.map V.int) M0 := Scr.of hS
  have hl : (ns.map V.int).length = ns.length := List.length_map ..
  unfold t_law
  repeat walk_at "s1"
  refine x_makeF fun F H1 hF1 o1 t1 f1 => ?_
  have C1 : Scr K H1 a (ns.map V.int) F.own := by
    rcases C0 with c | c
    · have na : H a ≠ none := by rcases c.1 with q | ⟨o, q⟩ <;> rw [q] <;> exact fun z => nomatch z
      have no : ¬ F.own a := fun m => na (o1 a m)
      exact .inl ⟨rd_fr f1 (fun z => z) c.1, no⟩
    · exact .inr c
  have CC : ∀ {H'}, G.Fr F.own H1 H' → SqL K H' a (ns.map V.int) := fun f => (C1.fr f fun _ z => z).sq
  have S1 : SqL K H1 a (ns.map V.int) := CC G.Fr.refl
  clear f1 o1 t1 C0
  repeat walk_at "s1"
  refine ⟨a, ns, 0, rfl, rfl, S1, ?_⟩
  generalize ns.getD 0 0 = cell
  repeat walk_at "s1"
  refine ⟨a, ns, 2, rfl, rfl, S1, ?_⟩
  repeat walk_at "s1"
  refine x_mod (by decide) ?_
  obtain ⟨b0, eb0, hb0⟩ : ∃ b0 : Nat, ns.getD 2 0 % 5 = b0 ∧ b0 < 5 := ⟨(ns.getD 2 0 % 5).toNat, by omega, by omega⟩
  rw [eb0]
  with_reducible refine x_seq ?_
  with_reducible refine x_ifS2 (P := fun σ' H' => H' = H1 ∧ ∃ b : Nat, b ≤ 98 ∧ σ' = [some (.ref a), some (.ref F.f), some (.int cell), some (.int b), none, none, none, none, none, none]) ?_ ?_
  · rintro σ' H' ⟨eH, b, hb98, rfl⟩
    subst eH
    have ebn : (b : Int) + 2 = ((b + 2 : Nat) : Int) := by omega
    repeat walk_at "s1"
    refine x_lcHeaps (K := K) (n := b + 2) hF1 FS.Good.empty rfl (fun R hR => ?_) (by omega) (fun _ => rfl) (fun i H' Q fs hF' hq => ?_) fun D H4 fs hD hL hF4 g4 et ew es f4 => ?_
    · repeat walk_at "s1"
      rw [ebn]; exact hR
    · repeat walk_at "s3"
      exact hq
    refine x_lstRg ?_
    repeat walk_at "s1"
    refine ⟨_, rfl, ⟨by omega, by omega⟩, fun q5 hq5 => ?_⟩
    rw [ebn, rg_eq]
    have f5 : G.Fr M0 H4 (upd H4 q5 (.lst (((List.range (b + 2)).map fun i => ((i : Nat) : Int)).map V.int))) := Fr.new hq5
    refine x_neIs (f5 _ _ hL (fun z => z)) upd_same ?_
    have hF5 := field_fr hF4 f5
    have f15 : G.Fr F.own H' _ := f4.trans (f5.mono fun _ z => z.elim)
    generalize upd H4 q5 (.lst (((List.range (b + 2)).map fun i => ((i : Nat) : Int)).map V.int)) = H5 at hF5 f15 ⊢
    repeat walk_at "s1"
    refine x_F (by rw [decide_eq_true rfl]; rfl) ?_
    with_reducible refine x_next ?_
    have ew0 : fs.ws = [] := ew
    clear hF4 f4 f5 hL hD hq5 ew es
    repeat walk_at "s1"
    refine ⟨sz_le (by simp), fun lh0 hlh0 => ?_⟩
    have f6 : G.Fr M0 H5 (upd H5 lh0 (.lst [.int b, .int ((b : Int) + 1)])) := Fr.new hlh0
    have t6 : upd H5 lh0 (.lst [.int b, .int ((b : Int) + 1)]) lh0 = some (.lst [.int b, .int ((b : Int) + 1)]) := upd_same
    have no0 := own_new hF5 hlh0
    generalize upd H5 lh0 (.lst [.int b, .int ((b : Int) + 1)]) = H6 at f6 t6 ⊢
    have hF6 := field_fr hF5 f6
    have f16 : G.Fr F.own H' H6 := f15.trans (f6.mono fun _ z => z.elim)
    with_reducible refine x_seq ?_
    with_reducible refine x_ifS2 (P := fun σ' H'' => ∃ (lh : Addr) (h0 h1 : Nat), h0 < b + 2 ∧ h1 < b + 2 ∧ h0 ≠ h1 ∧ σ' = [some (.ref a), some (.ref F.f), some (.int cell), some (.int b), none, some (.ref lh), none, none, none, none] ∧ H'' lh = some (.lst [.int h0, .int h1]) ∧ ¬ F.own lh ∧ G.Fr M0 H6 H'') ?_ ?_
    · rintro σ'' H7 ⟨lh, h0, h1, hh0, hh1, nh, rfl, hlh, nol, f7⟩
      have hF7 := field_fr hF6 f7
      have f17 : G.Fr F.own H' H7 := f16.trans (f7.mono fun _ z => z.elim)
      clear hF6 f7 f16 t6 f6 hF5 f15 no0 hlh0
      have hlt : ∀ w : Nat, w < 2 → (if w = 0 then h0 else h1) < b + 2 := fun w hw => by split <;> assumption
      have hdf : ∀ w : Nat, w < 2 → (if w = 0 then h0 else h1) ≠ (if 1 - w = 0 then h0 else h1) := fun w hw => by
        match w, hw with
        | 0, _ => exact nh
        | 1, _ => exact nh.symm
      with_reducible refine x_seq ?_
      refine x_forR2z 3 (ns.length - 3) (ns.length : Int) (by omega) ⟨by omega, by omega⟩ (by decide) (fun R hR => ?_) (fun i σ H' => ∃ x4 x6 fs, σ = [some (.ref a), some (.ref F.f), some (.int cell), some (.int b), x4, some (.ref lh), x6, none, none, none] ∧ FieldAt A H' F fs ∧ fs.Good ∧ fs.ts.length = b + 2 ∧ fs.ws.length ≤ i ∧ G.Fr F.own H7 H')
        ⟨none, none, fs, rfl, hF7, g4, et, by rw [ew0]; exact Nat.zero_le _, G.Fr.refl⟩ ?_ ?_
      · repeat walk_at "s1"
        refine x_lenL (CC f17) ?_
        rw [hl]
        repeat walk_at "s1"
        rw [if_pos (by omega)]
        repeat walk_at "s1"
        exact hR
      · rintro i σ H8 hi ⟨x4, x6, fs, rfl, hF, g, et, ew, f⟩
        have hk : 3 + i < ns.length := by omega
        have sq := CC (f17.trans f)
        have hlh8 := f _ _ hlh nol
        repeat walk_at "s1"
        refine x_ixL sq rfl (at_map (List.getElem?_eq_getElem hk)) ?_
        generalize ns[3 + i] = c
        repeat walk_at "s1"
        refine x_mod (by decide) ?_
        obtain ⟨w, ewm, hw⟩ : ∃ w : Nat, c % 2 = w ∧ w < 2 := ⟨(c % 2).toNat, by omega, by omega⟩
        rw [ewm]
        repeat walk_at "s1"
        refine x_ixL (sl_of hlh8) rfl (v := hp2 h0 h1 w) (at2 (f := hp2 h0 h1) hw) ?_
        repeat walk_at "s1"
        refine x_ixL (sl_of hlh8) rfl (v := hp2 h0 h1 (1 - w)) (by rw [show (1 : Int) - (w : Int) = ((1 - w : Nat) : Int) by omega]; exact at2 (f := hp2 h0 h1) (by omega)) ?_
        repeat walk_at "s1"
        refine x_ixL sq rfl (at_map (List.getElem?_eq_getElem hk)) ?_
        repeat walk_at "s1"
        refine x_div (by decide) ?_
        repeat walk_at "s1"
        refine x_mod (by decide) ?_
        repeat walk_at "s1"
        refine x_ixL sq rfl (at_map (List.getElem?_eq_getElem hk)) ?_
        repeat walk_at "s1"
        refine x_div (by decide) ?_
        repeat walk_at "s1"
        refine ⟨F, fs, _, _, _, _, _, rfl, rfl, rfl, rfl, rfl, rfl, hF, g, by omega, by rw [et]; exact hlt w hw, by rw [et]; exact hlt (1 - w) (by omega), hdf w hw, fun H9 fs9 hF9 g9 et9 ew9 f9 => ?_⟩
        repeat walk_at "s1"
        exact ⟨_, _, fs9, rfl, hF9, g9, by rw [et9, et], by omega, f.trans f9⟩
      · rintro σ H8 ⟨x4, x6, fs, rfl, hF, g, et, ew, f⟩
        have hlh8 := f _ _ hlh nol
        have f18 := f17.trans f
        have wz : fs.ws.length ≤ 60 := by omega
        clear hF7 f17 f hlh
        have hk0 : h0 < fs.ts.length := by omega
        have hk1 : h1 < fs.ts.length := by omega
        have tz : ∀ k, (fs.tree k).nodes.length ≤ 60 := fun k => Nat.le_trans (nodup_bound (FS.tree_nodup g.ok) fun i m => g.ok.lt i (FS.all_tree m)) wz
        obtain ⟨S, hoo, _, hS3, _⟩ := hF.raw
        obtain ⟨sh0, ru0, up0⟩ := hS3 _ (List.mem_of_getElem? (FS.tree_at hk0))
        obtain ⟨sh1, ru1, up1⟩ := hS3 _ (List.mem_of_getElem? (FS.tree_at hk1))
        repeat walk_at "s3"
        refine x_ixL (sl_of hlh8) rfl (v := .int (h0 : Int)) rfl ?_
        repeat walk_at "s1"
        refine y_tree hF hk0 (by omega) fun H9 l0 ps0 hl0 R0 _ f9 => ?_
        have hF9 := field_fr hF f9
        have n0 := own_new hF hl0
        repeat walk_at "s3"
        refine x_ixL (sl_of (f9 _ _ hlh8 (fun z => z))) rfl (v := .int (h1 : Int)) rfl ?_
        repeat walk_at "s1"
        refine y_tree hF9 hk1 (by omega) fun H10 l1 ps1 hl1 R1 _ f10 => ?_
        have hF10 := field_fr hF9 f10
        have n1 := own_new hF9 hl1
        repeat walk_at "s1"
        refine ⟨sz_le (by simp), fun lr hlr => ?_⟩
        have f11 : G.Fr M0 H10 (upd H10 lr (.lst [.ref l0, .ref l1])) := Fr.new hlr
        have t11 : upd H10 lr (.lst [.ref l0, .ref l1]) lr = some (.lst [.ref l0, .ref l1]) := upd_same
        have n2 := own_new hF10 hlr
        generalize upd H10 lr (.lst [.ref l0, .ref l1]) = H11 at f11 t11 ⊢
        have hF11 := field_fr hF10 f11
        repeat walk_at "s1"
        refine fun d hd => ?_
        have f12 : G.Fr M0 H11 (upd H11 d (.dK [])) := Fr.new hd
        have t12 : upd H11 d (.dK []) d = some (.dK []) := upd_same
        have n3 := own_new hF11 hd
        generalize upd H11 d (.dK []) = H12 at f12 t12 ⊢
        have hF12 := field_fr hF11 f12
        have f812 : G.Fr M0 H8 H12 := ((f9.trans f10).trans f11).trans f12
        have hlh12 := f812 _ _ hlh8 (fun z => z)
        have hlr12 := f12 _ _ t11 (fun z => z)
        have R02 := rows_fr (rows_fr (rows_fr R0 f10) f11) f12
        have R12 := rows_fr (rows_fr R1 f11) f12
        have f112 : G.Fr F.own H' H12 := f18.trans (f812.mono fun _ z => z.elim)
        clear hF9 hF10 hF11 f9 f10 f11 f12 f812 R0 R1 hl0 hl1 hlr hd t11 hF hlh8 f18
        have N0 : Nts H12 d [] (fun _ => 0) fs.ws S := ⟨t12, (fun _ m => nomatch m), List.nodup_nil, (fun _ m => nomatch m), Nat.zero_le _⟩
        have ndl : ∀ {x : Addr} {o : HO}, H12 x = some o → (∀ ks, o ≠ .dK ks) → x ≠ d := fun h n => ne_of h t12 (n _)
        repeat walk_at "s1"
        refine x_ixL (sl_of hlr12) rfl (v := .ref l0) rfl ?_
        repeat walk_at "s1"
        refine ⟨d, l0, [], fun _ => 0, fs.ws, S, rowsOf fs.ws (fs.tree h0), ps0, rfl, rfl, N0, R02, by rw [List.nil_append, rows_nodes]; exact FS.tree_nodup g.ok, by rw [List.nil_append, rows_nodes]; have := tz h0; omega, rows_say sh0 ru0, fun H13 ad1 N1 nm1 f13 => ?_⟩
        rw [List.nil_append, rows_nodes] at N1 nm1
        have keep13 : ∀ {x : Addr} {o : HO}, H12 x = some o → (∀ ks, o ≠ .dK ks) → H13 x = some o := fun h n => f13 _ _ h (ndl h n)
        have R13 : RowsAt H13 l1 (rowsOf fs.ws (fs.tree h1)) ps1 := ⟨keep13 R12.lst (fun _ z => nomatch z), R12.len, fun k p x e1 e2 => keep13 (R12.at_ k p x e1 e2) (fun _ z => nomatch z)⟩
        repeat walk_at "s1"
        refine x_ixL (sl_of (keep13 hlr12 (fun _ z => nomatch z))) rfl (v := .ref l1) rfl ?_
        repeat walk_at "s1"
        have ndk : ((fs.tree h0).nodes ++ (fs.tree h1).nodes).Nodup := List.nodup_append.2 ⟨FS.tree_nodup g.ok, FS.tree_nodup g.ok, fun a ha c hc e => FS.apart g.ok nh ha (by rw [e]; exact hc)⟩
        refine ⟨d, l1, (fs.tree h0).nodes, ad1, fs.ws, S, rowsOf fs.ws (fs.tree h1), ps1, rfl, rfl, N1, R13, by rw [rows_nodes]; exact ndk, by rw [rows_nodes, List.length_append]; have := tz h0; have := tz h1; omega, rows_say sh1 ru1, fun H14 ad N nm f14 => ?_⟩
        rw [rows_nodes] at N nm
        have f124 : G.Fr (fun b => b = d) H12 H14 := f13.trans f14
        have keep14 : ∀ {x : Addr} {o : HO}, H12 x = some o → (∀ ks, o ≠ .dK ks) → H14 x = some o := fun h n => f124 _ _ h (ndl h n)
        have R04 : RowsAt H14 l0 (rowsOf fs.ws (fs.tree h0)) ps0 := ⟨keep14 R02.lst (fun _ z => nomatch z), R02.len, fun k p x e1 e2 => keep14 (R02.at_ k p x e1 e2) (fun _ z => nomatch z)⟩
        have R14 : RowsAt H14 l1 (rowsOf fs.ws (fs.tree h1)) ps1 := ⟨keep14 R12.lst (fun _ z => nomatch z), R12.len, fun k p x e1 e2 => keep14 (R12.at_ k p x e1 e2) (fun _ z => nomatch z)⟩
        have hF14 : FieldAt A H14 F fs := hF12.fr f124 (fun x m e => n3 (by rw [← e]; exact m)) (fun e => by
          obtain ⟨_, _, R, _, _⟩ := hF12.raw
          exact ne_of R.tr.ob t12 (by intro z; cases z) e)
        have fresh : ∀ x, NM ((fs.tree h0).nodes ++ (fs.tree h1).nodes) ad x → H12 x = none := fun x hx => by
          rcases nm x hx with z | z
          · rcases nm1 x z with z | z
            · obtain ⟨_, m, _⟩ := z; cases m
            · exact z
          · cases c : H12 x with
            | none => rfl
            | some o =>
              by_cases cd : x = d
              · rw [cd, N1.dict] at z; cases z
              · rw [f13 _ _ c cd] at z; cases z
        clear N0 N1 nm nm1 f13 f14 keep13 R13
        have sq14 : SqL K H14 a (ns.map V.int) := by
          rcases C1.fr f112 (fun _ z => z) with c | c
          · refine .inl (rd_fr f124 (fun e => ?_) c.1)
            rcases c.1 with q | ⟨o, q⟩ <;> rw [e, t12] at q <;> cases q
          · exact c H14
        repeat walk_at "s1"
        refine ⟨a, ns, 1, rfl, rfl, sq14, ?_⟩
        repeat walk_at "s1"
        have lens : ((fs.tree h0).nodes ++ (fs.tree h1).nodes).length ≤ 900 := by
          rw [List.length_append]
          have := tz h0
          have := tz h1
          omega
        refine ⟨F, fs, lh, d, lr, l0, l1, h0, h1, _, ad, S, ps0, ps1, cell, ns.getD 1 0, rfl, rfl, rfl, rfl, rfl, rfl, hF14, g, by omega, hk0, hk1, nh, keep14 hlh12 (fun _ z => nomatch z), keep14 hlr12 (fun _ z => nomatch z), R04, R14, N,
          ⟨sh0, ru0, FS.tree_nodup g.ok, fun j m => List.mem_append_left _ m⟩, ⟨sh1, ru1, FS.tree_nodup g.ok, fun j m => List.mem_append_right _ m⟩, up0, fun k hk x o => ?_, fun k hk => ?_, lens, n3, fun x hx => own_new hF12 (fresh x hx), fun x hx => ?_, fun H15 fs' ks' ad' S' p hF15 g' ets' hz' N' F' hp0 hp em nem f15 => ?_⟩
        · rcases List.mem_append.1 hk with m | m
          · exact shape_ui sh0 k m x o
          · exact shape_ui sh1 k m x o
        · rcases List.mem_append.1 hk with m | m
          · exact g.ok.lt k (FS.all_tree m)
          · exact g.ok.lt k (FS.all_tree m)
        · rcases hx with e | e | e | e <;> subst e <;> assumption
        have keep : ∀ {x : Addr} {o : HO}, H12 x = some o → (∀ ks, o ≠ .dK ks) → ¬ F.own x → H15 x = some o := fun {x o} h n no => f15 _ _ (keep14 h n) fun z => by
          rcases z with z | z | z
          · exact no z
          · exact ndl h n z
          · rw [fresh x z] at h; cases h
        have hlh15 := keep hlh12 (fun _ z => nomatch z) nol
        have hlr15 := keep hlr12 (fun _ z => nomatch z) n2
        have R05 : RowsAt H15 l0 (rowsOf fs.ws (fs.tree h0)) ps0 := ⟨keep R02.lst (fun _ z => nomatch z) n0, R02.len, fun k p x e1 e2 => keep (R02.at_ k p x e1 e2) (fun _ z => nomatch z) (own_tup hF12 (R02.at_ k p x e1 e2))⟩
        have R15 : RowsAt H15 l1 (rowsOf fs.ws (fs.tree h1)) ps1 := ⟨keep R12.lst (fun _ z => nomatch z) n1, R12.len, fun k p x e1 e2 => keep (R12.at_ k p x e1 e2) (fun _ z => nomatch z) (own_tup hF12 (R12.at_ k p x e1 e2))⟩
        have hk0' : h0 < fs'.ts.length := by omega
        have hk1' : h1 < fs'.ts.length := by omega
        -- what is told at the end
        have retE : ∀ H18, G.Fr M0 H15 H18 → fs'.tree h1 = .nil → (tRet (tOp (rEqD K) (tMeth A.CF "tree" (sp_F_tree K A) [] E0 (tVar 1) (tCons (tOp (rIxL K) (tVar 5) (tC (.int 1))) tNil)) (tLst tNil))) { nx := fun _ H' => Q .non H', rt := Q } [some (.ref a), some (.ref F.f), some (.int cell), some (.int b), x4, some (.ref lh), x6, some (.ref lr), some (.ref d), some (.ref p)] H18 := by
          intro H18 f e
          have hF18 := field_fr hF15 f
          repeat walk_at "s3"
          refine x_ixL (sl_of (f _ _ hlh15 (fun z => z))) rfl (v := .int (h1 : Int)) rfl ?_
          repeat walk_at "s1"
          refine y_tree0 hF18 hk1' (by omega) e fun H19 l2 hl2 h2 f19 => ?_
          repeat walk_at "s1"
          refine ⟨sz_le (by simp), fun l3 hl3 => ?_⟩
          have f20 : G.Fr M0 H19 (upd H19 l3 (.lst [])) := Fr.new hl3
          refine x_eqNil (f20 _ _ h2 (fun z => z)) upd_same ?_
          exact kk _
        have retS : ∀ H18, G.Fr M0 H15 H18 → ¬ Empties fs h0 cell → (tRet (tOp (rEqD K) (tMeth A.CF "tree" (sp_F_tree K A) [] E0 (tVar 1) (tCons (tOp (rIxL K) (tVar 5) (tC (.int 1))) tNil)) (tOp (rIxL K) (tVar 7) (tC (.int 1))))) { nx := fun _ H' => Q .non H', rt := Q } [some (.ref a), some (.ref F.f), some (.int cell), some (.int b), x4, some (.ref lh), x6, some (.ref lr), some (.ref d), some (.ref p)] H18 := by
          intro H18 f ne
          obtain ⟨e1, e2⟩ := nem ne
          have hF18 := field_fr hF15 f
          repeat walk_at "s3"
          refine x_ixL (sl_of (f _ _ hlh15 (fun z => z))) rfl (v := .int (h1 : Int)) rfl ?_
          repeat walk_at "s1"
          refine y_tree hF18 hk1' (by omega) fun H19 l2 ps2 hl2 R2 _ f19 => ?_
          rw [e1, e2] at R2
          have f20 := f.trans f19
          repeat walk_at "s1"
          refine x_ixL (sl_of (f20 _ _ hlr15 (fun z => z))) rfl (v := .ref l1) rfl ?_
          refine x_eqRows R2 (rows_fr R15 f20) ?_
          exact kk _
        repeat walk_at "s3"
        refine y_work hF15 ?_
        repeat walk_at "s1"
        refine x_ixT (st_of hp) rfl (v := .int fs'.sp) rfl ?_
        repeat walk_at "s1"
        refine x_F (by rw [decide_eq_true rfl]; rfl) ?_
        repeat walk_at "s3"
        refine x_ixL (sl_of hlh15) rfl (v := .int (h0 : Int)) rfl ?_
        repeat walk_at "s1"
        refine y_tree hF15 hk0' (by omega) fun H16 l3 ps3 hl3 R3 _ f16 => ?_
        repeat walk_at "s1"
        refine x_ixT (st_of (f16 _ _ hp (fun z => z))) rfl (v := oV (fs'.tree h0).top) rfl ?_
        repeat walk_at "s1"
        refine ⟨d, ks', ad', fs'.ws, S', fs'.tree h0, rfl, rfl, N'.fr0 f16, F', fun H17 l4 ps4 R4 f17 => ?_⟩
        repeat walk_at "s1"
        refine x_neRows (rows_fr R3 f17) R4 ?_
        repeat walk_at "s1"
        refine x_F rfl ?_
        have f1517 := f16.trans f17
        repeat walk_at "s1"
        refine x_mod (by decide) ?_
        repeat walk_at "s1"
        refine x_ite (fun c2 => ?_) (fun c2 => ?_)
        · refine x_T rfl ?_
          exact retE H17 f1517 (em (.inl c2))
        · repeat walk_at "s1"
          refine x_ixL (sl_of (f1517 _ _ hlr15 (fun z => z))) rfl (v := .ref l0) rfl ?_
          repeat walk_at "s1"
          refine ⟨sz_le (by simp), fun l5 hl5 => ?_⟩
          have f18 : G.Fr M0 H17 (upd H17 l5 (.lst [])) := Fr.new hl5
          refine x_eqRowsNil (rows_fr R05 (f1517.trans f18)) upd_same ?_
          have f1518 := f1517.trans f18
          generalize upd H17 l5 (.lst []) = H18 at f1518 ⊢
          repeat walk_at "s1"
          cases e : (rowsOf fs.ws (fs.tree h0)).isEmpty with
          | false =>
            obtain ⟨i0, tl, tr, et0⟩ := rows_ne e
            refine x_F rfl (x_F rfl ?_)
            refine x_next ?_
            exact retS H18 f1518 fun z => by
              rcases z with z | z
              · exact c2 z
              · rw [et0] at z; cases z.1
          | true =>
            have et0 : fs.tree h0 = .nil := by
              cases c : fs.tree h0 with
              | nil => rfl
              | node i l r => rw [c] at e; cases e
            refine x_T rfl ?_
            repeat walk_at "s1"
            refine x_mod (by decide) ?_
            repeat walk_at "s1"
            by_cases c0 : cell % 4 = 0
            · refine x_F (by rw [decide_eq_true c0]; rfl) (x_next ?_)
              exact retS H18 f1518 fun z => by
                rcases z with z | z
                · exact c2 z
                · exact z.2 c0
            · refine x_T (by rw [decide_eq_false c0]; rfl) ?_
              exact retE H18 f1518 (em (.inr ⟨et0, c0⟩))
    · intro hd
      repeat walk_at "s1"
      refine x_div (by decide) ?_
      repeat walk_at "s1"
      refine x_mod (by decide) ?_
      repeat walk_at "s1"
      refine x_ite (fun _ => ?_) (fun _ => ?_)
      · repeat walk_at "s1"
        refine ⟨sz_le (by simp), fun lh1 hlh1 => ?_⟩
        exact hd _ _ ⟨lh1, b + 1, b, by omega, by omega, by omega, rfl, upd_same, own_new hF6 hlh1, Fr.new hlh1⟩
      · with_reducible refine x_next ?_
        exact hd _ _ ⟨lh0, b, b + 1, by omega, by omega, by omega, rfl, t6, no0, G.Fr.refl⟩
  · intro hd
    repeat walk_at "s1"
    refine ⟨a, ns, 2, rfl, rfl, S1, ?_⟩
    repeat walk_at "s1"
    refine x_div (by decide) ?_
    repeat walk_at "s1"
    refine x_mod (by decide) ?_
    repeat walk_at "s1"
    refine x_ite (fun _ => ?_) (fun _ => ?_)
    · repeat walk_at "s1"
      refine ⟨a, ns, 2, rfl, rfl, S1, ?_⟩
      repeat walk_at "s1"
      refine x_div (by decide) ?_
      repeat walk_at "s1"
      refine x_mod (by decide) ?_
      obtain ⟨b1, eb1, hb1⟩ : ∃ b1 : Nat, ns.getD 2 0 / 20 % 99 = b1 ∧ b1 < 99 := ⟨(ns.getD 2 0 / 20 % 99).toNat, by omega, by omega⟩
      rw [eb1]
      exact hd _ _ ⟨rfl, b1, by omega, rfl⟩
    · with_reducible refine x_next ?_
      exact hd _ _ ⟨rfl, b0, by omega, rfl⟩
end
end Sk11

/-! the text by places, the scopes, what the top has written, the derivations: printed by gen.py out of the linked text of law_k11_whole_work -/
namespace Sk11
open PySem PySem.Spec PyProof.Rows L2 G
def top (i : Nat) : Stmt := PySem.Challenge.pw_splitheap_k11_whole_work.main.body.getD i (.Pass ⟨0, 0, 0, 0⟩)
abbrev s_T_init : Stmt := inClass (top 9) 0
abbrev N_T_init : List Str := ["self"]
abbrev s_T_grown : Stmt := inClass (top 9) 1
abbrev N_T_grown : List Str := ["self", "weight"]
abbrev s_T_is_lesser : Stmt := inClass (top 9) 2
abbrev N_T_is_lesser : List Str := ["self", "one", "other"]
abbrev s_T_run_of : Stmt := inClass (top 9) 3
abbrev N_T_run_of : List Str := ["self", "top"]
abbrev s_T_sided : Stmt := inClass (top 9) 4
abbrev N_T_sided : List Str := ["self", "thing", "left", "right"]
abbrev s_T_joined : Stmt := inClass (top 9) 5
abbrev N_T_joined : List Str := ["self", "one", "other", "path", "held", "rest", "thing"]
abbrev s_T_parted : Stmt := inClass (top 9) 6
abbrev N_T_parted : List Str := ["self", "top", "left", "right"]
abbrev s_T_released : Stmt := inClass (top 9) 7
abbrev N_T_released : List Str := ["self", "thing", "at", "looks", "goes_on", "before"]
abbrev s_T_top_of : Stmt := inClass (top 9) 8
abbrev N_T_top_of : List Str := ["self", "thing"]
abbrev s_T_told : Stmt := inClass (top 9) 9
abbrev N_T_told : List Str := ["self", "top", "rows", "waiting", "thing", "left", "right"]
abbrev s_F_init : Stmt := inClass (top 11) 0
abbrev N_F_init : List Str := ["self"]
abbrev s_F_need_heap : Stmt := inClass (top 11) 1
abbrev N_F_need_heap : List Str := ["self", "heap"]
abbrev s_F_need_thing : Stmt := inClass (top 11) 2
abbrev N_F_need_thing : List Str := ["self", "thing"]
abbrev s_F_laid : Stmt := inClass (top 11) 3
abbrev N_F_laid : List Str := ["self", "heap", "found", "looks"]
abbrev s_F_heap : Stmt := inClass (top 11) 4
abbrev N_F_heap : List Str := ["self"]
abbrev s_F_put : Stmt := inClass (top 11) 5
abbrev N_F_put : List Str := ["self", "heap", "weight", "thing"]
abbrev s_F_least : Stmt := inClass (top 11) 6
abbrev N_F_least : List Str := ["self", "heap", "top"]
abbrev s_F_take : Stmt := inClass (top 11) 7
abbrev N_F_take : List Str := ["self", "heap", "found", "parts"]
abbrev s_F_pour : Stmt := inClass (top 11) 8
abbrev N_F_pour : List Str := ["self", "heap", "other", "found"]
abbrev s_F_sink : Stmt := inClass (top 11) 9
abbrev N_F_sink : List Str := ["self", "thing", "weight", "heap", "upper", "looks"]
abbrev s_F_heap_of : Stmt := inClass (top 11) 11
abbrev N_F_heap_of : List Str := ["self", "thing"]
abbrev s_F_things : Stmt := inClass (top 11) 12
abbrev N_F_things : List Str := ["self", "heap"]
abbrev s_F_tree : Stmt := inClass (top 11) 13
abbrev N_F_tree : List Str := ["self", "heap"]
abbrev s_F_work : Stmt := inClass (top 11) 14
abbrev N_F_work : List Str := ["self"]
abbrev s_l_cell : Stmt := top 13
abbrev N_l_cell : List Str := ["_law_script", "_law_k"]
abbrev s_l_weight : Stmt := top 14
abbrev N_l_weight : List Str := ["_law_cell_here", "_law_k"]
abbrev s_l_noted : Stmt := top 15
abbrev N_l_noted : List Str := ["_law_notes", "_law_rows", "_law_row"]
abbrev s_l_run : Stmt := top 16
abbrev N_l_run : List Str := ["_law_notes", "_law_part"]
abbrev s_l_sided : Stmt := top 17
abbrev N_l_sided : List Str := ["_law_notes", "_law_thing", "_law_note", "_law_held"]
abbrev s_l_joined : Stmt := top 18
abbrev N_l_joined : List Str := ["_law_notes", "_law_one", "_law_other", "_law_path", "_law_rest", "_law_k", "_law_thing"]
abbrev s_l_above : Stmt := top 19
abbrev N_l_above : List Str := ["_law_notes", "_law_thing", "_law_k"]
abbrev s_l_sunk : Stmt := top 20
abbrev N_l_sunk : List Str := ["_law_notes", "_law_top_here", "_law_thing", "_law_weight_here", "_law_at", "_law_place", "_law_looks", "_law_goes_on", "_law_before", "_law_found"]
abbrev s_l_told : Stmt := top 21
abbrev N_l_told : List Str := ["_law_notes", "_law_top_here", "_law_rows", "_law_waiting", "_law_thing", "_law_note"]
abbrev s_l_top : Stmt := top 22
abbrev N_l_top : List Str := ["_law_rows"]
abbrev s_l_due : Stmt := top 23
abbrev N_l_due : List Str := ["_law_field", "_law_heaps", "_law_notes", "_law_rows", "_law_cell_here", "_law_more", "_law_top_here", "_law_weight_here", "_law_thing", "_law_by"]
abbrev s_l_done : Stmt := top 24
abbrev N_l_done : List Str := ["_law_field", "_law_heap", "_law_other", "_law_kind", "_law_more", "_law_k", "_law_rows", "_law_row"]
abbrev s_law : Stmt := top 25
abbrev N_law : List Str := ["_law_script", "_law_field", "_law_cell_here", "_law_before", "_law_k", "_law_heaps", "_law_which", "_law_rows", "_law_notes", "_law_due_here"]
theorem sc_T_init : FnScope N_T_init ["self"] (defScope s_T_init) := ⟨rfl, rfl, rfl, by decide +kernel, rfl, by decide +kernel, by decide +kernel⟩
theorem sc_T_grown : FnScope N_T_grown ["self", "weight"] (defScope s_T_grown) := ⟨rfl, rfl, rfl, by decide +kernel, rfl, by decide +kernel, by decide +kernel⟩
theorem sc_T_is_lesser : FnScope N_T_is_lesser ["self", "one", "other"] (defScope s_T_is_lesser) := ⟨rfl, rfl, rfl, by decide +kernel, rfl, by decide +kernel, by decide +kernel⟩
theorem sc_T_run_of : FnScope N_T_run_of ["self", "top"] (defScope s_T_run_of) := ⟨rfl, rfl, rfl, by decide +kernel, rfl, by decide +kernel, by decide +kernel⟩
theorem sc_T_sided : FnScope N_T_sided ["self", "thing"] (defScope s_T_sided) := ⟨rfl, rfl, rfl, by decide +kernel, rfl, by decide +kernel, by decide +kernel⟩
theorem sc_T_joined : FnScope N_T_joined ["self", "one", "other"] (defScope s_T_joined) := ⟨rfl, rfl, rfl, by decide +kernel, rfl, by decide +kernel, by decide +kernel⟩
theorem sc_T_parted : FnScope N_T_parted ["self", "top"] (defScope s_T_parted) := ⟨rfl, rfl, rfl, by decide +kernel, rfl, by decide +kernel, by decide +kernel⟩
theorem sc_T_released : FnScope N_T_released ["self", "thing"] (defScope s_T_released) := ⟨rfl, rfl, rfl, by decide +kernel, rfl, by decide +kernel, by decide +kernel⟩
theorem sc_T_top_of : FnScope N_T_top_of ["self", "thing"] (defScope s_T_top_of) := ⟨rfl, rfl, rfl, by decide +kernel, rfl, by decide +kernel, by decide +kernel⟩
theorem sc_T_told : FnScope N_T_told ["self", "top"] (defScope s_T_told) := ⟨rfl, rfl, rfl, by decide +kernel, rfl, by decide +kernel, by decide +kernel⟩
theorem sc_F_init : FnScope N_F_init ["self"] (defScope s_F_init) := ⟨rfl, rfl, rfl, by decide +kernel, rfl, by decide +kernel, by decide +kernel⟩
theorem sc_F_need_heap : FnScope N_F_need_heap ["self", "heap"] (defScope s_F_need_heap) := ⟨rfl, rfl, rfl, by decide +kernel, rfl, by decide +kernel, by decide +kernel⟩
theorem sc_F_need_thing : FnScope N_F_need_thing ["self", "thing"] (defScope s_F_need_thing) := ⟨rfl, rfl, rfl, by decide +kernel, rfl, by decide +kernel, by decide +kernel⟩
theorem sc_F_laid : FnScope N_F_laid ["self", "heap", "found", "looks"] (defScope s_F_laid) := ⟨rfl, rfl, rfl, by decide +kernel, rfl, by decide +kernel, by decide +kernel⟩
theorem sc_F_heap : FnScope N_F_heap ["self"] (defScope s_F_heap) := ⟨rfl, rfl, rfl, by decide +kernel, rfl, by decide +kernel, by decide +kernel⟩
theorem sc_F_put : FnScope N_F_put ["self", "heap", "weight"] (defScope s_F_put) := ⟨rfl, rfl, rfl, by decide +kernel, rfl, by decide +kernel, by decide +kernel⟩
theorem sc_F_least : FnScope N_F_least ["self", "heap"] (defScope s_F_least) := ⟨rfl, rfl, rfl, by decide +kernel, rfl, by decide +kernel, by decide +kernel⟩
theorem sc_F_take : FnScope N_F_take ["self", "heap"] (defScope s_F_take) := ⟨rfl, rfl, rfl, by decide +kernel, rfl, by decide +kernel, by decide +kernel⟩
theorem sc_F_pour : FnScope N_F_pour ["self", "heap", "other"] (defScope s_F_pour) := ⟨rfl, rfl, rfl, by decide +kernel, rfl, by decide +kernel, by decide +kernel⟩
theorem sc_F_sink : FnScope N_F_sink ["self", "thing", "weight"] (defScope s_F_sink) := ⟨rfl, rfl, rfl, by decide +kernel, rfl, by decide +kernel, by decide +kernel⟩
theorem sc_F_heap_of : FnScope N_F_heap_of ["self", "thing"] (defScope s_F_heap_of) := ⟨rfl, rfl, rfl, by decide +kernel, rfl, by decide +kernel, by decide +kernel⟩
theorem sc_F_things : FnScope N_F_things ["self", "heap"] (defScope s_F_things) := ⟨rfl, rfl, rfl, by decide +kernel, rfl, by decide +kernel, by decide +kernel⟩
theorem sc_F_tree : FnScope N_F_tree ["self", "heap"] (defScope s_F_tree) := ⟨rfl, rfl, rfl, by decide +kernel, rfl, by decide +kernel, by decide +kernel⟩
theorem sc_F_work : FnScope N_F_work ["self"] (defScope s_F_work) := ⟨rfl, rfl, rfl, by decide +kernel, rfl, by decide +kernel, by decide +kernel⟩
theorem sc_l_cell : FnScope N_l_cell ["_law_script", "_law_k"] (defScope s_l_cell) := ⟨rfl, rfl, rfl, by decide +kernel, rfl, by decide +kernel, by decide +kernel⟩
theorem sc_l_weight : FnScope N_l_weight ["_law_cell_here", "_law_k"] (defScope s_l_weight) := ⟨rfl, rfl, rfl, by decide +kernel, rfl, by decide +kernel, by decide +kernel⟩
theorem sc_l_noted : FnScope N_l_noted ["_law_notes", "_law_rows"] (defScope s_l_noted) := ⟨rfl, rfl, rfl, by decide +kernel, rfl, by decide +kernel, by decide +kernel⟩
theorem sc_l_run : FnScope N_l_run ["_law_notes", "_law_part"] (defScope s_l_run) := ⟨rfl, rfl, rfl, by decide +kernel, rfl, by decide +kernel, by decide +kernel⟩
theorem sc_l_sided : FnScope N_l_sided ["_law_notes", "_law_thing"] (defScope s_l_sided) := ⟨rfl, rfl, rfl, by decide +kernel, rfl, by decide +kernel, by decide +kernel⟩
theorem sc_l_joined : FnScope N_l_joined ["_law_notes", "_law_one", "_law_other"] (defScope s_l_joined) := ⟨rfl, rfl, rfl, by decide +kernel, rfl, by decide +kernel, by decide +kernel⟩
theorem sc_l_above : FnScope N_l_above ["_law_notes", "_law_thing"] (defScope s_l_above) := ⟨rfl, rfl, rfl, by decide +kernel, rfl, by decide +kernel, by decide +kernel⟩
theorem sc_l_sunk : FnScope N_l_sunk ["_law_notes", "_law_top_here", "_law_thing", "_law_weight_here"] (defScope s_l_sunk) := ⟨rfl, rfl, rfl, by decide +kernel, rfl, by decide +kernel, by decide +kernel⟩
theorem sc_l_told : FnScope N_l_told ["_law_notes", "_law_top_here"] (defScope s_l_told) := ⟨rfl, rfl, rfl, by decide +kernel, rfl, by decide +kernel, by decide +kernel⟩
theorem sc_l_top : FnScope N_l_top ["_law_rows"] (defScope s_l_top) := ⟨rfl, rfl, rfl, by decide +kernel, rfl, by decide +kernel, by decide +kernel⟩
theorem sc_l_due : FnScope N_l_due ["_law_field", "_law_heaps", "_law_notes", "_law_rows", "_law_cell_here", "_law_more"] (defScope s_l_due) := ⟨rfl, rfl, rfl, by decide +kernel, rfl, by decide +kernel, by decide +kernel⟩
theorem sc_l_done : FnScope N_l_done ["_law_field", "_law_heap", "_law_other", "_law_kind", "_law_more", "_law_k"] (defScope s_l_done) := ⟨rfl, rfl, rfl, by decide +kernel, rfl, by decide +kernel, by decide +kernel⟩
theorem sc_law : FnScope N_law ["_law_script"] (defScope s_law) := ⟨rfl, rfl, rfl, by decide +kernel, rfl, by decide +kernel, by decide +kernel⟩
structure Tx (K : PySem.W.Frag) (mg : Str → Option Value) where
  A : Ad
  ok : Ok K A
  f_T_init : Addr
  fd_T_init : FuncData
  F_T_init : Fun K "__init__" "Trees.__init__" s_T_init f_T_init fd_T_init
  b_T_init : Binds K fd_T_init ["self"] []
  f_T_grown : Addr
  fd_T_grown : FuncData
  F_T_grown : Fun K "grown" "Trees.grown" s_T_grown f_T_grown fd_T_grown
  b_T_grown : Binds K fd_T_grown ["self", "weight"] []
  m_T_grown : Meth K A.CT "grown" f_T_grown
  f_T_is_lesser : Addr
  fd_T_is_lesser : FuncData
  F_T_is_lesser : Fun K "is_lesser" "Trees.is_lesser" s_T_is_lesser f_T_is_lesser fd_T_is_lesser
  b_T_is_lesser : Binds K fd_T_is_lesser ["self", "one", "other"] []
  m_T_is_lesser : Meth K A.CT "is_lesser" f_T_is_lesser
  f_T_run_of : Addr
  fd_T_run_of : FuncData
  F_T_run_of : Fun K "run_of" "Trees.run_of" s_T_run_of f_T_run_of fd_T_run_of
  b_T_run_of : Binds K fd_T_run_of ["self", "top"] []
  m_T_run_of : Meth K A.CT "run_of" f_T_run_of
  f_T_sided : Addr
  fd_T_sided : FuncData
  F_T_sided : Fun K "sided" "Trees.sided" s_T_sided f_T_sided fd_T_sided
  b_T_sided : Binds K fd_T_sided ["self", "thing"] []
  m_T_sided : Meth K A.CT "sided" f_T_sided
  f_T_joined : Addr
  fd_T_joined : FuncData
  F_T_joined : Fun K "joined" "Trees.joined" s_T_joined f_T_joined fd_T_joined
  b_T_joined : Binds K fd_T_joined ["self", "one", "other"] []
  m_T_joined : Meth K A.CT "joined" f_T_joined
  f_T_parted : Addr
  fd_T_parted : FuncData
  F_T_parted : Fun K "parted" "Trees.parted" s_T_parted f_T_parted fd_T_parted
  b_T_parted : Binds K fd_T_parted ["self", "top"] []
  m_T_parted : Meth K A.CT "parted" f_T_parted
  f_T_released : Addr
  fd_T_released : FuncData
  F_T_released : Fun K "released" "Trees.released" s_T_released f_T_released fd_T_released
  b_T_released : Binds K fd_T_released ["self", "thing"] []
  m_T_released : Meth K A.CT "released" f_T_released
  f_T_top_of : Addr
  fd_T_top_of : FuncData
  F_T_top_of : Fun K "top_of" "Trees.top_of" s_T_top_of f_T_top_of fd_T_top_of
  b_T_top_of : Binds K fd_T_top_of ["self", "thing"] []
  m_T_top_of : Meth K A.CT "top_of" f_T_top_of
  f_T_told : Addr
  fd_T_told : FuncData
  F_T_told : Fun K "told" "Trees.told" s_T_told f_T_told fd_T_told
  b_T_told : Binds K fd_T_told ["self", "top"] []
  m_T_told : Meth K A.CT "told" f_T_told
  f_F_init : Addr
  fd_F_init : FuncData
  F_F_init : Fun K "__init__" "Field.__init__" s_F_init f_F_init fd_F_init
  b_F_init : Binds K fd_F_init ["self"] []
  f_F_need_heap : Addr
  fd_F_need_heap : FuncData
  F_F_need_heap : Fun K "need_heap" "Field.need_heap" s_F_need_heap f_F_need_heap fd_F_need_heap
  b_F_need_heap : Binds K fd_F_need_heap ["self", "heap"] []
  m_F_need_heap : Meth K A.CF "need_heap" f_F_need_heap
  f_F_need_thing : Addr
  fd_F_need_thing : FuncData
  F_F_need_thing : Fun K "need_thing" "Field.need_thing" s_F_need_thing f_F_need_thing fd_F_need_thing
  b_F_need_thing : Binds K fd_F_need_thing ["self", "thing"] []
  m_F_need_thing : Meth K A.CF "need_thing" f_F_need_thing
  f_F_laid : Addr
  fd_F_laid : FuncData
  F_F_laid : Fun K "laid" "Field.laid" s_F_laid f_F_laid fd_F_laid
  b_F_laid : Binds K fd_F_laid ["self", "heap", "found", "looks"] []
  m_F_laid : Meth K A.CF "laid" f_F_laid
  f_F_heap : Addr
  fd_F_heap : FuncData
  F_F_heap : Fun K "heap" "Field.heap" s_F_heap f_F_heap fd_F_heap
  b_F_heap : Binds K fd_F_heap ["self"] []
  m_F_heap : Meth K A.CF "heap" f_F_heap
  f_F_put : Addr
  fd_F_put : FuncData
  F_F_put : Fun K "put" "Field.put" s_F_put f_F_put fd_F_put
  b_F_put : Binds K fd_F_put ["self", "heap", "weight"] []
  m_F_put : Meth K A.CF "put" f_F_put
  f_F_least : Addr
  fd_F_least : FuncData
  F_F_least : Fun K "least" "Field.least" s_F_least f_F_least fd_F_least
  b_F_least : Binds K fd_F_least ["self", "heap"] []
  m_F_least : Meth K A.CF "least" f_F_least
  f_F_take : Addr
  fd_F_take : FuncData
  F_F_take : Fun K "take" "Field.take" s_F_take f_F_take fd_F_take
  b_F_take : Binds K fd_F_take ["self", "heap"] []
  m_F_take : Meth K A.CF "take" f_F_take
  f_F_pour : Addr
  fd_F_pour : FuncData
  F_F_pour : Fun K "pour" "Field.pour" s_F_pour f_F_pour fd_F_pour
  b_F_pour : Binds K fd_F_pour ["self", "heap", "other"] []
  m_F_pour : Meth K A.CF "pour" f_F_pour
  f_F_sink : Addr
  fd_F_sink : FuncData
  F_F_sink : Fun K "sink" "Field.sink" s_F_sink f_F_sink fd_F_sink
  b_F_sink : Binds K fd_F_sink ["self", "thing", "weight"] []
  m_F_sink : Meth K A.CF "sink" f_F_sink
  f_F_heap_of : Addr
  fd_F_heap_of : FuncData
  F_F_heap_of : Fun K "heap_of" "Field.heap_of" s_F_heap_of f_F_heap_of fd_F_heap_of
  b_F_heap_of : Binds K fd_F_heap_of ["self", "thing"] []
  m_F_heap_of : Meth K A.CF "heap_of" f_F_heap_of
  f_F_things : Addr
  fd_F_things : FuncData
  F_F_things : Fun K "things" "Field.things" s_F_things f_F_things fd_F_things
  b_F_things : Binds K fd_F_things ["self", "heap"] []
  m_F_things : Meth K A.CF "things" f_F_things
  f_F_tree : Addr
  fd_F_tree : FuncData
  F_F_tree : Fun K "tree" "Field.tree" s_F_tree f_F_tree fd_F_tree
  b_F_tree : Binds K fd_F_tree ["self", "heap"] []
  m_F_tree : Meth K A.CF "tree" f_F_tree
  f_F_work : Addr
  fd_F_work : FuncData
  F_F_work : Fun K "work" "Field.work" s_F_work f_F_work fd_F_work
  b_F_work : Binds K fd_F_work ["self"] []
  m_F_work : Meth K A.CF "work" f_F_work
  f_l_cell : Addr
  fd_l_cell : FuncData
  F_l_cell : Fun K "_law_cell" "_law_cell" s_l_cell f_l_cell fd_l_cell
  b_l_cell : Binds K fd_l_cell ["_law_script", "_law_k"] []
  g_l_cell : mg "_law_cell" = some (.ref f_l_cell)
  f_l_weight : Addr
  fd_l_weight : FuncData
  F_l_weight : Fun K "_law_weight" "_law_weight" s_l_weight f_l_weight fd_l_weight
  b_l_weight : Binds K fd_l_weight ["_law_cell_here", "_law_k"] []
  g_l_weight : mg "_law_weight" = some (.ref f_l_weight)
  f_l_noted : Addr
  fd_l_noted : FuncData
  F_l_noted : Fun K "_law_noted" "_law_noted" s_l_noted f_l_noted fd_l_noted
  b_l_noted : Binds K fd_l_noted ["_law_notes", "_law_rows"] []
  g_l_noted : mg "_law_noted" = some (.ref f_l_noted)
  f_l_run : Addr
  fd_l_run : FuncData
  F_l_run : Fun K "_law_run" "_law_run" s_l_run f_l_run fd_l_run
  b_l_run : Binds K fd_l_run ["_law_notes", "_law_part"] []
  g_l_run : mg "_law_run" = some (.ref f_l_run)
  f_l_sided : Addr
  fd_l_sided : FuncData
  F_l_sided : Fun K "_law_sided" "_law_sided" s_l_sided f_l_sided fd_l_sided
  b_l_sided : Binds K fd_l_sided ["_law_notes", "_law_thing"] []
  g_l_sided : mg "_law_sided" = some (.ref f_l_sided)
  f_l_joined : Addr
  fd_l_joined : FuncData
  F_l_joined : Fun K "_law_joined" "_law_joined" s_l_joined f_l_joined fd_l_joined
  b_l_joined : Binds K fd_l_joined ["_law_notes", "_law_one", "_law_other"] []
  g_l_joined : mg "_law_joined" = some (.ref f_l_joined)
  f_l_above : Addr
  fd_l_above : FuncData
  F_l_above : Fun K "_law_above" "_law_above" s_l_above f_l_above fd_l_above
  b_l_above : Binds K fd_l_above ["_law_notes", "_law_thing"] []
  g_l_above : mg "_law_above" = some (.ref f_l_above)
  f_l_sunk : Addr
  fd_l_sunk : FuncData
  F_l_sunk : Fun K "_law_sunk" "_law_sunk" s_l_sunk f_l_sunk fd_l_sunk
  b_l_sunk : Binds K fd_l_sunk ["_law_notes", "_law_top_here", "_law_thing", "_law_weight_here"] []
  g_l_sunk : mg "_law_sunk" = some (.ref f_l_sunk)
  f_l_told : Addr
  fd_l_told : FuncData
  F_l_told : Fun K "_law_told" "_law_told" s_l_told f_l_told fd_l_told
  b_l_told : Binds K fd_l_told ["_law_notes", "_law_top_here"] []
  g_l_told : mg "_law_told" = some (.ref f_l_told)
  f_l_top : Addr
  fd_l_top : FuncData
  F_l_top : Fun K "_law_top" "_law_top" s_l_top f_l_top fd_l_top
  b_l_top : Binds K fd_l_top ["_law_rows"] []
  g_l_top : mg "_law_top" = some (.ref f_l_top)
  f_l_due : Addr
  fd_l_due : FuncData
  F_l_due : Fun K "_law_due" "_law_due" s_l_due f_l_due fd_l_due
  b_l_due : Binds K fd_l_due ["_law_field", "_law_heaps", "_law_notes", "_law_rows", "_law_cell_here", "_law_more"] []
  g_l_due : mg "_law_due" = some (.ref f_l_due)
  f_l_done : Addr
  fd_l_done : FuncData
  F_l_done : Fun K "_law_done" "_law_done" s_l_done f_l_done fd_l_done
  b_l_done : Binds K fd_l_done ["_law_field", "_law_heap", "_law_other", "_law_kind", "_law_more", "_law_k"] []
  g_l_done : mg "_law_done" = some (.ref f_l_done)
  f_law : Addr
  fd_law : FuncData
  F_law : Fun K "law" "law" s_law f_law fd_law
  b_law : Binds K fd_law ["_law_script"] []
  g_law : mg "law" = some (.ref f_law)
  mk_Field : Mk K A.CF f_F_init
  g_Field : mg "Field" = some (.ref A.CF)
  mk_Trees : Mk K A.CT f_T_init
  g_Trees : mg "Trees" = some (.ref A.CT)
  g_NoHeap : mg "NoHeap" = some (.ref A.xNH)
  x_NoHeap : PySem.W.excIn K A.xNH [.type "ValueError", .type "Exception", .type "BaseException", .type "object"] "ValueError.__new__" = true
  k_NoHeap : PySem.W.keepIn K (.ref A.xNH) = true
  e_NoHeap : PySem.W.subIn K (.ref A.xNH) (.type "BaseException") = some true
  t_NoHeap : PySem.W.typeIn K (.ref A.xNH) = some (.type "type")
  g_NoThing : mg "NoThing" = some (.ref A.xNT)
  x_NoThing : PySem.W.excIn K A.xNT [.type "ValueError", .type "Exception", .type "BaseException", .type "object"] "ValueError.__new__" = true
  k_NoThing : PySem.W.keepIn K (.ref A.xNT) = true
  e_NoThing : PySem.W.subIn K (.ref A.xNT) (.type "BaseException") = some true
  t_NoThing : PySem.W.typeIn K (.ref A.xNT) = some (.type "type")
  g_Bare : mg "Bare" = some (.ref A.xBA)
  x_Bare : PySem.W.excIn K A.xBA [.type "ValueError", .type "Exception", .type "BaseException", .type "object"] "ValueError.__new__" = true
  k_Bare : PySem.W.keepIn K (.ref A.xBA) = true
  e_Bare : PySem.W.subIn K (.ref A.xBA) (.type "BaseException") = some true
  t_Bare : PySem.W.typeIn K (.ref A.xBA) = some (.type "type")
  g_Same : mg "Same" = some (.ref A.xSA)
  x_Same : PySem.W.excIn K A.xSA [.type "ValueError", .type "Exception", .type "BaseException", .type "object"] "ValueError.__new__" = true
  k_Same : PySem.W.keepIn K (.ref A.xSA) = true
  e_Same : PySem.W.subIn K (.ref A.xSA) (.type "BaseException") = some true
  t_Same : PySem.W.typeIn K (.ref A.xSA) = some (.type "type")
  g_Heavier : mg "Heavier" = some (.ref A.xHV)
  x_Heavier : PySem.W.excIn K A.xHV [.type "ValueError", .type "Exception", .type "BaseException", .type "object"] "ValueError.__new__" = true
  k_Heavier : PySem.W.keepIn K (.ref A.xHV) = true
  e_Heavier : PySem.W.subIn K (.ref A.xHV) (.type "BaseException") = some true
  t_Heavier : PySem.W.typeIn K (.ref A.xHV) = some (.type "type")
  xs : ExcFacts_k11 K A
  z_len : mg "len" = none
  z_list : mg "list" = none
  z_min : mg "min" = none
  z_range : mg "range" = none
  z_reversed : mg "reversed" = none
section
variable {P : Program} {w : World} {K : PySem.W.Frag} {mg : Str → Option Value} {base : Heap}
theorem ok_T_init (T : Tx K mg) : FnOk P w K mg base CX0 1 T.f_T_init T.fd_T_init ["self"] (sp_T_init K T.A) := by
  refine T.F_T_init.ok sc_T_init (fun vs H Q E h => match vs, h with | [_], _ => rfl) (fun cdv Ar outer s H vs Q E hr h => ⟨t_T_init K T.A E, ?_, match vs, h with | [v0], h => pure_T_init T.ok h⟩)
  exact (pss_cons (ps_fld (pv 0) (pe_lst pa_nil) rfl)
    (pss_cons (ps_fld (pv 0) (pe_lst pa_nil) rfl)
    (pss_cons (ps_fld (pv 0) (pe_lst pa_nil) rfl)
    (pss_cons (ps_fld (pv 0) (pe_lst pa_nil) rfl)
    (pss_one (ps_fld (pv 0) (pe_lst pa_nil) rfl))))))
theorem ok_T_grown (T : Tx K mg) : FnOk P w K mg base CX0 1 T.f_T_grown T.fd_T_grown ["self", "weight"] (sp_T_grown K T.A) := by
  refine T.F_T_grown.ok sc_T_grown (fun vs H Q E h => match vs, h with | [_, _], _ => rfl) (fun cdv Ar outer s H vs Q E hr h => ⟨t_T_grown K T.A E, ?_, match vs, h with | [v0, v1], h => pure_T_grown T.ok h⟩)
  exact (pss_cons (ps_expr (pe_bm PySem.F.plainAttrs_list PySem.F.slot_list_append PySem.F.type_list_append mt_append (pe_fld (pv 0) rfl) (pa_cons (pv 1) pa_nil)))
    (pss_cons (ps_expr (pe_bm PySem.F.plainAttrs_list PySem.F.slot_list_append PySem.F.type_list_append mt_append (pe_fld (pv 0) rfl) (pa_cons pe_non pa_nil)))
    (pss_cons (ps_expr (pe_bm PySem.F.plainAttrs_list PySem.F.slot_list_append PySem.F.type_list_append mt_append (pe_fld (pv 0) rfl) (pa_cons pe_non pa_nil)))
    (pss_cons (ps_expr (pe_bm PySem.F.plainAttrs_list PySem.F.slot_list_append PySem.F.type_list_append mt_append (pe_fld (pv 0) rfl) (pa_cons pe_non pa_nil)))
    (pss_cons (ps_expr (pe_bm PySem.F.plainAttrs_list PySem.F.slot_list_append PySem.F.type_list_append mt_append (pe_fld (pv 0) rfl) (pa_cons pe_int pa_nil)))
    (pss_one (ps_ret (pe_op op_sub (pe_callB call_len' (by rfl) T.z_len PySem.boot_len (pa_cons (pe_fld (pv 0) rfl) pa_nil)) pe_int))))))))
theorem ok_T_is_lesser (T : Tx K mg) : FnOk P w K mg base CX0 1 T.f_T_is_lesser T.fd_T_is_lesser ["self", "one", "other"] (sp_T_is_lesser K T.A) := by
  refine T.F_T_is_lesser.ok sc_T_is_lesser (fun vs H Q E h => match vs, h with | [_, _, _], _ => rfl) (fun cdv Ar outer s H vs Q E hr h => ⟨t_T_is_lesser K T.A E, ?_, match vs, h with | [v0, v1, v2], h => pure_T_is_lesser T.ok h⟩)
  exact (pss_cons (ps_if (pt_cmpR op_ne (pe_ix ix_list (pe_fld (pv 0) rfl) (pv 1) (fun _ _ => rfl)) (pe_ix ix_list (pe_fld (pv 0) rfl) (pv 2) (fun _ _ => rfl)) (nomark _)) (pss_one (ps_ret (pe_cmpR op_lt (pe_ix ix_list (pe_fld (pv 0) rfl) (pv 1) (fun _ _ => rfl)) (pe_ix ix_list (pe_fld (pv 0) rfl) (pv 2) (fun _ _ => rfl)) (nomark _)))) pss_nil)
    (pss_one (ps_ret (pe_cmpR op_lt (pv 1) (pv 2) (nomark _)))))
theorem ok_T_run_of (T : Tx K mg) : FnOk P w K mg base CX0 1 T.f_T_run_of T.fd_T_run_of ["self", "top"] (sp_T_run_of K T.A) := by
  refine T.F_T_run_of.ok sc_T_run_of (fun vs H Q E h => match vs, h with | [_, _], _ => rfl) (fun cdv Ar outer s H vs Q E hr h => ⟨t_T_run_of K T.A E, ?_, match vs, h with | [v0, v1], h => pure_T_run_of T.ok h⟩)
  exact (pss_cons (ps_if (pt_cmpR op_isN' (pv 1) pe_non (nomark _)) (pss_one (ps_ret pe_int)) pss_nil)
    (pss_one (ps_ret (pe_ix ix_list (pe_fld (pv 0) rfl) (pv 1) (fun _ _ => rfl)))))
theorem ok_T_sided (T : Tx K mg) : FnOk P w K mg base CX0 2 T.f_T_sided T.fd_T_sided ["self", "thing"] (sp_T_sided K T.A) := by
  refine T.F_T_sided.ok sc_T_sided (fun vs H Q E h => match vs, h with | [_, _], _ => rfl) (fun cdv Ar outer s H vs Q E hr h => ⟨t_T_sided K T.A E, ?_, match vs, h with | [v0, v1], h => pure_T_sided T.ok h⟩)
  exact (pss_cons (ps_set (i := 2) sc_T_sided.nd rfl (by first | exact Or.inl rfl | exact Or.inr rfl) (pe_ix ix_list (pe_fld (pv 0) rfl) (pv 1) (fun _ _ => rfl)))
    (pss_cons (ps_set (i := 3) sc_T_sided.nd rfl (by first | exact Or.inl rfl | exact Or.inr rfl) (pe_ix ix_list (pe_fld (pv 0) rfl) (pv 1) (fun _ _ => rfl)))
    (pss_cons (ps_if (pt_cmpR op_gt (pe_meth (E := E0) (pv 0) T.ok.clT T.m_T_run_of (ok_T_run_of T) (hr.mono (by decide)) T.b_T_run_of .nil pass0 (pa_cons (pv 3) pa_nil)) (pe_meth (E := E0) (pv 0) T.ok.clT T.m_T_run_of (ok_T_run_of T) (hr.mono (by decide)) T.b_T_run_of .nil pass0 (pa_cons (pv 2) pa_nil)) (nomark _)) (pss_cons (ps_asg (pv 3) (pg_sub (pe_fld (pv 0) rfl) (pv 1) set_list))
    (pss_one (ps_asg (pv 2) (pg_sub (pe_fld (pv 0) rfl) (pv 1) set_list)))) pss_nil)
    (pss_one (ps_asg (pe_op op_add pe_int (pe_meth (E := E0) (pv 0) T.ok.clT T.m_T_run_of (ok_T_run_of T) (hr.mono (by decide)) T.b_T_run_of .nil pass0 (pa_cons (pe_ix ix_list (pe_fld (pv 0) rfl) (pv 1) (fun _ _ => rfl)) pa_nil))) (pg_sub (pe_fld (pv 0) rfl) (pv 1) set_list))))))
theorem ok_T_joined (T : Tx K mg) : FnOk P w K mg base CX0 3 T.f_T_joined T.fd_T_joined ["self", "one", "other"] (sp_T_joined K T.A) := by
  refine T.F_T_joined.ok sc_T_joined (fun vs H Q E h => match vs, h with | [_, _, _], _ => rfl) (fun cdv Ar outer s H vs Q E hr h => ⟨t_T_joined K T.A E, ?_, match vs, h with | [v0, v1, v2], h => pure_T_joined T.ok h⟩)
  exact (pss_cons (ps_set (i := 3) sc_T_joined.nd rfl (by first | exact Or.inl rfl | exact Or.inr rfl) (pe_lst pa_nil))
    (pss_cons (ps_while PassesOwn.never (PW.pt (pw_and (pt_cmpR op_notN' (pv 1) pe_non (nomark _)) (pw_and1 (pt_cmpR op_notN' (pv 2) pe_non (nomark _))))) (pss_cons (ps_if (pt_val (pe_meth (E := E0) (pv 0) T.ok.clT T.m_T_is_lesser (ok_T_is_lesser T) (hr.mono (by decide)) T.b_T_is_lesser .nil pass0 (pa_cons (pv 2) (pa_cons (pv 1) pa_nil)))) (pss_cons (ps_set (i := 4) sc_T_joined.nd rfl (by first | exact Or.inl rfl | exact Or.inr rfl) (pv 1))
    (pss_cons (ps_set (i := 1) sc_T_joined.nd rfl (by first | exact Or.inl rfl | exact Or.inr rfl) (pv 2))
    (pss_one (ps_set (i := 2) sc_T_joined.nd rfl (by first | exact Or.inl rfl | exact Or.inr rfl) (pv 4))))) pss_nil)
    (pss_cons (ps_expr (pe_bm PySem.F.plainAttrs_list PySem.F.slot_list_append PySem.F.type_list_append mt_append (pv 3) (pa_cons (pv 1) pa_nil)))
    (pss_one (ps_set (i := 1) sc_T_joined.nd rfl (by first | exact Or.inl rfl | exact Or.inr rfl) (pe_ix ix_list (pe_fld (pv 0) rfl) (pv 1) (fun _ _ => rfl)))))))
    (pss_cons (ps_set (i := 5) sc_T_joined.nd rfl (by first | exact Or.inl rfl | exact Or.inr rfl) (pv 1))
    (pss_cons (ps_if (pt_cmpR op_isN' (pv 5) pe_non (nomark _)) (pss_one (ps_set (i := 5) sc_T_joined.nd rfl (by first | exact Or.inl rfl | exact Or.inr rfl) (pv 2))) pss_nil)
    (pss_cons (ps_for PassesOwn.never rfl (pi_reversed (by rfl) T.z_reversed (pa_cons (pv 3) pa_nil)) (pg_name (i := 6) sc_T_joined.nd rfl (by first | exact Or.inl rfl | exact Or.inr rfl)) (pss_cons (ps_asg (pv 5) (pg_sub (pe_fld (pv 0) rfl) (pv 6) set_list))
    (pss_cons (ps_if (pt_cmpR op_notN' (pv 5) pe_non (nomark _)) (pss_one (ps_asg (pv 6) (pg_sub (pe_fld (pv 0) rfl) (pv 5) set_list))) pss_nil)
    (pss_cons (ps_expr (pe_meth (E := E0) (pv 0) T.ok.clT T.m_T_sided (ok_T_sided T) (hr.mono (by decide)) T.b_T_sided .nil pass0 (pa_cons (pv 6) pa_nil)))
    (pss_one (ps_set (i := 5) sc_T_joined.nd rfl (by first | exact Or.inl rfl | exact Or.inr rfl) (pv 6)))))))
    (pss_cons (ps_if (pt_cmpR op_notN' (pv 5) pe_non (nomark _)) (pss_one (ps_asg pe_non (pg_sub (pe_fld (pv 0) rfl) (pv 5) set_list))) pss_nil)
    (pss_one (ps_ret (pe_tup (pa_cons (pv 5) (pa_cons (pe_callB call_len' (by rfl) T.z_len PySem.boot_len (pa_cons (pv 3) pa_nil)) pa_nil)))))))))))
theorem ok_T_parted (T : Tx K mg) : FnOk P w K mg base CX0 1 T.f_T_parted T.fd_T_parted ["self", "top"] (sp_T_parted K T.A) := by
  refine T.F_T_parted.ok sc_T_parted (fun vs H Q E h => match vs, h with | [_, _], _ => rfl) (fun cdv Ar outer s H vs Q E hr h => ⟨t_T_parted K T.A E, ?_, match vs, h with | [v0, v1], h => pure_T_parted T.ok h⟩)
  exact (pss_cons (ps_set (i := 2) sc_T_parted.nd rfl (by first | exact Or.inl rfl | exact Or.inr rfl) (pe_ix ix_list (pe_fld (pv 0) rfl) (pv 1) (fun _ _ => rfl)))
    (pss_cons (ps_set (i := 3) sc_T_parted.nd rfl (by first | exact Or.inl rfl | exact Or.inr rfl) (pe_ix ix_list (pe_fld (pv 0) rfl) (pv 1) (fun _ _ => rfl)))
    (pss_cons (ps_if (pt_cmpR op_notN' (pv 2) pe_non (nomark _)) (pss_one (ps_asg pe_non (pg_sub (pe_fld (pv 0) rfl) (pv 2) set_list))) pss_nil)
    (pss_cons (ps_if (pt_cmpR op_notN' (pv 3) pe_non (nomark _)) (pss_one (ps_asg pe_non (pg_sub (pe_fld (pv 0) rfl) (pv 3) set_list))) pss_nil)
    (pss_one (ps_ret (pe_tup (pa_cons (pv 2) (pa_cons (pv 3) pa_nil)))))))))
theorem ok_T_released (T : Tx K mg) : FnOk P w K mg base CX0 3 T.f_T_released T.fd_T_released ["self", "thing"] (sp_T_released K T.A) := by
  refine T.F_T_released.ok sc_T_released (fun vs H Q E h => match vs, h with | [_, _], _ => rfl) (fun cdv Ar outer s H vs Q E hr h => ⟨t_T_released K T.A E, ?_, match vs, h with | [v0, v1], h => pure_T_released T.ok h⟩)
  exact (pss_cons (ps_set (i := 2) sc_T_released.nd rfl (by first | exact Or.inl rfl | exact Or.inr rfl) (pe_ix ix_list (pe_fld (pv 0) rfl) (pv 1) (fun _ _ => rfl)))
    (pss_cons (ps_asg pe_non (pg_sub (pe_fld (pv 0) rfl) (pv 1) set_list))
    (pss_cons (ps_if (pt_cmpR op_eq (pe_ix ix_list (pe_fld (pv 0) rfl) (pv 2) (fun _ _ => rfl)) (pv 1) (nomark _)) (pss_one (ps_asg pe_non (pg_sub (pe_fld (pv 0) rfl) (pv 2) set_list))) (pss_one (ps_asg pe_non (pg_sub (pe_fld (pv 0) rfl) (pv 2) set_list))))
    (pss_cons (ps_set (i := 3) sc_T_released.nd rfl (by first | exact Or.inl rfl | exact Or.inr rfl) pe_int)
    (pss_cons (ps_set (i := 4) sc_T_released.nd rfl (by first | exact Or.inl rfl | exact Or.inr rfl) pe_bl)
    (pss_cons (ps_while PassesOwn.never (PW.pt (pw_and (pt_cmpR op_notN' (pv 2) pe_non (nomark _)) (pw_and1 (pt_val (pv 4))))) (pss_cons (ps_set (i := 5) sc_T_released.nd rfl (by first | exact Or.inl rfl | exact Or.inr rfl) (pe_ix ix_list (pe_fld (pv 0) rfl) (pv 2) (fun _ _ => rfl)))
    (pss_cons (ps_expr (pe_meth (E := E0) (pv 0) T.ok.clT T.m_T_sided (ok_T_sided T) (hr.mono (by decide)) T.b_T_sided .nil pass0 (pa_cons (pv 2) pa_nil)))
    (pss_cons (ps_set (i := 3) sc_T_released.nd rfl (by first | exact Or.inl rfl | exact Or.inr rfl) (pe_op op_add (pv 3) pe_int))
    (pss_cons (ps_set (i := 4) sc_T_released.nd rfl (by first | exact Or.inl rfl | exact Or.inr rfl) (pe_cmpR op_ne (pe_ix ix_list (pe_fld (pv 0) rfl) (pv 2) (fun _ _ => rfl)) (pv 5) (nomark _)))
    (pss_one (ps_set (i := 2) sc_T_released.nd rfl (by first | exact Or.inl rfl | exact Or.inr rfl) (pe_ix ix_list (pe_fld (pv 0) rfl) (pv 2) (fun _ _ => rfl)))))))))
    (pss_one (ps_ret (pv 3)))))))))
theorem ok_T_top_of (T : Tx K mg) : FnOk P w K mg base CX0 1 T.f_T_top_of T.fd_T_top_of ["self", "thing"] (sp_T_top_of K T.A) := by
  refine T.F_T_top_of.ok sc_T_top_of (fun vs H Q E h => match vs, h with | [_, _], _ => rfl) (fun cdv Ar outer s H vs Q E hr h => ⟨t_T_top_of K T.A E, ?_, match vs, h with | [v0, v1], h => pure_T_top_of T.ok h⟩)
  exact (pss_cons (ps_while PassesOwn.never (pt_cmpR op_notN' (pe_ix ix_list (pe_fld (pv 0) rfl) (pv 1) (fun _ _ => rfl)) pe_non (nomark _)) (pss_one (ps_set (i := 1) sc_T_top_of.nd rfl (by first | exact Or.inl rfl | exact Or.inr rfl) (pe_ix ix_list (pe_fld (pv 0) rfl) (pv 1) (fun _ _ => rfl)))))
    (pss_one (ps_ret (pv 1))))
theorem ok_T_told (T : Tx K mg) : FnOk P w K mg base CX0 1 T.f_T_told T.fd_T_told ["self", "top"] (sp_T_told K T.A) := by
  refine T.F_T_told.ok sc_T_told (fun vs H Q E h => match vs, h with | [_, _], _ => rfl) (fun cdv Ar outer s H vs Q E hr h => ⟨t_T_told K T.A E, ?_, match vs, h with | [v0, v1], h => pure_T_told T.ok h⟩)
  exact (pss_cons (ps_set (i := 2) sc_T_told.nd rfl (by first | exact Or.inl rfl | exact Or.inr rfl) (pe_lst pa_nil))
    (pss_cons (ps_set (i := 3) sc_T_told.nd rfl (by first | exact Or.inl rfl | exact Or.inr rfl) (pe_lst (pa_cons (pv 1) pa_nil)))
    (pss_cons (ps_while PassesOwn.never (pt_cmpR op_gt (pe_callB call_len' (by rfl) T.z_len PySem.boot_len (pa_cons (pv 3) pa_nil)) pe_int (nomark _)) (pss_cons (ps_set (i := 4) sc_T_told.nd rfl (by first | exact Or.inl rfl | exact Or.inr rfl) (pe_bm0 PySem.F.plainAttrs_list PySem.F.slot_list_pop PySem.F.type_list_pop mt_pop (pv 3)))
    (pss_one (ps_if (pt_cmpR op_notN' (pv 4) pe_non (nomark _)) (pss_cons (ps_set (i := 5) sc_T_told.nd rfl (by first | exact Or.inl rfl | exact Or.inr rfl) (pe_ix ix_list (pe_fld (pv 0) rfl) (pv 4) (fun _ _ => rfl)))
    (pss_cons (ps_set (i := 6) sc_T_told.nd rfl (by first | exact Or.inl rfl | exact Or.inr rfl) (pe_ix ix_list (pe_fld (pv 0) rfl) (pv 4) (fun _ _ => rfl)))
    (pss_cons (ps_expr (pe_bm PySem.F.plainAttrs_list PySem.F.slot_list_append PySem.F.type_list_append mt_append (pv 2) (pa_cons (pe_tup (pa_cons (pv 4) (pa_cons (pe_ix ix_list (pe_fld (pv 0) rfl) (pv 4) (fun _ _ => rfl)) (pa_cons (pv 5) (pa_cons (pv 6) (pa_cons (pe_ix ix_list (pe_fld (pv 0) rfl) (pv 4) (fun _ _ => rfl)) pa_nil)))))) pa_nil)))
    (pss_cons (ps_expr (pe_bm PySem.F.plainAttrs_list PySem.F.slot_list_append PySem.F.type_list_append mt_append (pv 3) (pa_cons (pv 6) pa_nil)))
    (pss_one (ps_expr (pe_bm PySem.F.plainAttrs_list PySem.F.slot_list_append PySem.F.type_list_append mt_append (pv 3) (pa_cons (pv 5) pa_nil)))))))) pss_nil))))
    (pss_one (ps_ret (pv 2))))))
theorem ok_F_init (T : Tx K mg) : FnOk P w K mg base CX0 3 T.f_F_init T.fd_F_init ["self"] (sp_F_init K T.A) := by
  refine T.F_F_init.ok sc_F_init (fun vs H Q E h => match vs, h with | [_], _ => rfl) (fun cdv Ar outer s H vs Q E hr h => ⟨t_F_init K T.A E, ?_, match vs, h with | [v0], h => pure_F_init T.ok h⟩)
  exact (pss_cons (ps_fld (pv 0) (pe_make0 T.mk_Trees (ok_T_init T) (hr.mono (by decide)) (by rfl) T.g_Trees T.b_T_init .nil pass0) rfl)
    (pss_cons (ps_fld (pv 0) (pe_lst pa_nil) rfl)
    (pss_cons (ps_fld (pv 0) (pe_lst pa_nil) rfl)
    (pss_cons (ps_fld (pv 0) pe_dnewK rfl)
    (pss_cons (ps_fld (pv 0) (pe_lst pa_nil) rfl)
    (pss_one (ps_fld (pv 0) pe_int rfl)))))))
theorem ok_F_need_heap (T : Tx K mg) : FnOk P w K mg base (L2.CX P w) 1 T.f_F_need_heap T.fd_F_need_heap ["self", "heap"] (sp_F_need_heap K T.A) := by
  refine T.F_F_need_heap.okX sc_F_need_heap (fun vs H Q E h => match vs, h with | [_, _], _ => rfl) (fun cdv Ar outer s H vs Q E hr h => ⟨t_F_need_heap K T.A E, ?_, match vs, h with | [v0, v1], h => pure_F_need_heap T.ok h⟩)
  exact (pss_one (ps_if (pt_not (pt_chain op_le op_lt pe_int (pv 1) (pe_callB call_len' (by rfl) T.z_len PySem.boot_len (pa_cons (pe_fld (pv 0) rfl) pa_nil)))) (pss_one (ps_raise rfl (takes_of rfl rfl rfl rfl) (pmk_own PySem.F.excBase_ValueError T.x_NoHeap T.g_NoHeap T.k_NoHeap (raises_own T.e_NoHeap T.t_NoHeap) (by exact rfl)))) pss_nil))
theorem ok_F_need_thing (T : Tx K mg) : FnOk P w K mg base (L2.CX P w) 1 T.f_F_need_thing T.fd_F_need_thing ["self", "thing"] (sp_F_need_thing K T.A) := by
  refine T.F_F_need_thing.okX sc_F_need_thing (fun vs H Q E h => match vs, h with | [_, _], _ => rfl) (fun cdv Ar outer s H vs Q E hr h => ⟨t_F_need_thing K T.A E, ?_, match vs, h with | [v0, v1], h => pure_F_need_thing T.ok h⟩)
  exact (pss_one (ps_if (PW.pt (pw_or (pt_not (pt_chain op_le op_lt pe_int (pv 1) (pe_callB call_len' (by rfl) T.z_len PySem.boot_len (pa_cons (pe_fld (pv 0) rfl) pa_nil)))) (pw_or1 (pt_val (pe_ix ix_list (pe_fld (pv 0) rfl) (pv 1) (fun _ _ => rfl)))))) (pss_one (ps_raise rfl (takes_of rfl rfl rfl rfl) (pmk_own PySem.F.excBase_ValueError T.x_NoThing T.g_NoThing T.k_NoThing (raises_own T.e_NoThing T.t_NoThing) (by exact rfl)))) pss_nil))
theorem ok_F_laid (T : Tx K mg) : FnOk P w K mg base CX0 1 T.f_F_laid T.fd_F_laid ["self", "heap", "found", "looks"] (sp_F_laid K T.A) := by
  refine T.F_F_laid.ok sc_F_laid (fun vs H Q E h => match vs, h with | [_, _, _, _], _ => rfl) (fun cdv Ar outer s H vs Q E hr h => ⟨t_F_laid K T.A E, ?_, match vs, h with | [v0, v1, v2, v3], h => pure_F_laid T.ok h⟩)
  exact (pss_cons (ps_asg (pe_ix ix_tup (pv 2) pe_int (fun _ _ => rfl)) (pg_sub (pe_fld (pv 0) rfl) (pv 1) set_list))
    (pss_cons (ps_if (pt_cmpR op_notN' (pe_ix ix_tup (pv 2) pe_int (fun _ _ => rfl)) pe_non (nomark _)) (pss_one (ps_dput (hu_of hr) (pe_fld (pv 0) rfl) (pe_ix ix_tup (pv 2) pe_int (fun _ _ => rfl)) (pv 1) rfl)) pss_nil)
    (pss_one (ps_fld (pv 0) (pe_op op_add (pv 3) (pe_ix ix_tup (pv 2) pe_int (fun _ _ => rfl))) rfl))))
theorem ok_F_heap (T : Tx K mg) : FnOk P w K mg base CX0 1 T.f_F_heap T.fd_F_heap ["self"] (sp_F_heap K T.A) := by
  refine T.F_F_heap.ok sc_F_heap (fun vs H Q E h => match vs, h with | [_], _ => rfl) (fun cdv Ar outer s H vs Q E hr h => ⟨t_F_heap K T.A E, ?_, match vs, h with | [v0], h => pure_F_heap T.ok h⟩)
  exact (pss_cons (ps_expr (pe_bm PySem.F.plainAttrs_list PySem.F.slot_list_append PySem.F.type_list_append mt_append (pe_fld (pv 0) rfl) (pa_cons pe_non pa_nil)))
    (pss_cons (ps_expr (pe_bm PySem.F.plainAttrs_list PySem.F.slot_list_append PySem.F.type_list_append mt_append (pe_fld (pv 0) rfl) (pa_cons pe_int pa_nil)))
    (pss_one (ps_ret (pe_op op_sub (pe_callB call_len' (by rfl) T.z_len PySem.boot_len (pa_cons (pe_fld (pv 0) rfl) pa_nil)) pe_int)))))
theorem ok_F_put (T : Tx K mg) : FnOk P w K mg base (L2.CX P w) 4 T.f_F_put T.fd_F_put ["self", "heap", "weight"] (sp_F_put K T.A) := by
  refine T.F_F_put.okX sc_F_put (fun vs H Q E h => match vs, h with | [_, _, _], _ => rfl) (fun cdv Ar outer s H vs Q E hr h => ⟨t_F_put K T.A E, ?_, match vs, h with | [v0, v1, v2], h => pure_F_put T.ok h⟩)
  exact (pss_cons (ps_expr (pe_meth (E := E) (pv 0) T.ok.clF T.m_F_need_heap (ok_F_need_heap T) (hr.mono (by decide)) T.b_F_need_heap .nil (passes_call (takes_of rfl rfl rfl rfl) (fun _ _ _ _ h => h)) (pa_cons (pv 1) pa_nil)))
    (pss_cons (ps_set (i := 3) sc_F_put.nd rfl (by first | exact Or.inl rfl | exact Or.inr rfl) (pe_meth (E := E0) (pe_fld (pv 0) rfl) T.ok.clT T.m_T_grown (ok_T_grown T) (hr.mono (by decide)) T.b_T_grown .nil pass0 (pa_cons (pv 2) pa_nil)))
    (pss_cons (ps_expr (pe_bm PySem.F.plainAttrs_list PySem.F.slot_list_append PySem.F.type_list_append mt_append (pe_fld (pv 0) rfl) (pa_cons pe_bl pa_nil)))
    (pss_cons (ps_expr (pe_meth (E := E0) (pv 0) T.ok.clF T.m_F_laid (ok_F_laid T) (hr.mono (by decide)) T.b_F_laid .nil pass0 (pa_cons (pv 1) (pa_cons (pe_meth (E := E0) (pe_fld (pv 0) rfl) T.ok.clT T.m_T_joined (ok_T_joined T) (hr.mono (by decide)) T.b_T_joined .nil pass0 (pa_cons (pe_ix ix_list (pe_fld (pv 0) rfl) (pv 1) (fun _ _ => rfl)) (pa_cons (pv 3) pa_nil))) (pa_cons pe_int pa_nil)))))
    (pss_cons (ps_asg (pe_op op_add (pe_ix ix_list (pe_fld (pv 0) rfl) (pv 1) (fun _ _ => rfl)) pe_int) (pg_sub (pe_fld (pv 0) rfl) (pv 1) set_list))
    (pss_one (ps_ret (pv 3))))))))
theorem ok_F_least (T : Tx K mg) : FnOk P w K mg base (L2.CX P w) 2 T.f_F_least T.fd_F_least ["self", "heap"] (sp_F_least K T.A) := by
  refine T.F_F_least.okX sc_F_least (fun vs H Q E h => match vs, h with | [_, _], _ => rfl) (fun cdv Ar outer s H vs Q E hr h => ⟨t_F_least K T.A E, ?_, match vs, h with | [v0, v1], h => pure_F_least T.ok h⟩)
  exact (pss_cons (ps_expr (pe_meth (E := E) (pv 0) T.ok.clF T.m_F_need_heap (ok_F_need_heap T) (hr.mono (by decide)) T.b_F_need_heap .nil (passes_call (takes_of rfl rfl rfl rfl) (fun _ _ _ _ h => h)) (pa_cons (pv 1) pa_nil)))
    (pss_cons (ps_set (i := 2) sc_F_least.nd rfl (by first | exact Or.inl rfl | exact Or.inr rfl) (pe_ix ix_list (pe_fld (pv 0) rfl) (pv 1) (fun _ _ => rfl)))
    (pss_cons (ps_if (pt_cmpR op_isN' (pv 2) pe_non (nomark _)) (pss_one (ps_raise rfl (takes_of rfl rfl rfl rfl) (pmk_own PySem.F.excBase_ValueError T.x_Bare T.g_Bare T.k_Bare (raises_own T.e_Bare T.t_Bare) (by exact rfl)))) pss_nil)
    (pss_one (ps_ret (pe_tup (pa_cons (pe_ix ix_list (pe_fld (pe_fld (pv 0) rfl) rfl) (pv 2) (fun _ _ => rfl)) (pa_cons (pv 2) pa_nil))))))))
theorem ok_F_take (T : Tx K mg) : FnOk P w K mg base (L2.CX P w) 4 T.f_F_take T.fd_F_take ["self", "heap"] (sp_F_take K T.A) := by
  refine T.F_F_take.okX sc_F_take (fun vs H Q E h => match vs, h with | [_, _], _ => rfl) (fun cdv Ar outer s H vs Q E hr h => ⟨t_F_take K T.A E, ?_, match vs, h with | [v0, v1], h => pure_F_take T.ok h⟩)
  exact (pss_cons (ps_set (i := 2) sc_F_take.nd rfl (by first | exact Or.inl rfl | exact Or.inr rfl) (pe_meth (E := E) (pv 0) T.ok.clF T.m_F_least (ok_F_least T) (hr.mono (by decide)) T.b_F_least .nil (passes_call (takes_of rfl rfl rfl rfl) (fun _ _ _ _ h => h)) (pa_cons (pv 1) pa_nil)))
    (pss_cons (ps_set (i := 3) sc_F_take.nd rfl (by first | exact Or.inl rfl | exact Or.inr rfl) (pe_meth (E := E0) (pe_fld (pv 0) rfl) T.ok.clT T.m_T_parted (ok_T_parted T) (hr.mono (by decide)) T.b_T_parted .nil pass0 (pa_cons (pe_ix ix_tup (pv 2) pe_int (fun _ _ => rfl)) pa_nil)))
    (pss_cons (ps_asg pe_bl (pg_sub (pe_fld (pv 0) rfl) (pe_ix ix_tup (pv 2) pe_int (fun _ _ => rfl)) set_list))
    (pss_cons (ps_asg (pe_op op_sub (pe_ix ix_list (pe_fld (pv 0) rfl) (pv 1) (fun _ _ => rfl)) pe_int) (pg_sub (pe_fld (pv 0) rfl) (pv 1) set_list))
    (pss_cons (ps_expr (pe_meth (E := E0) (pv 0) T.ok.clF T.m_F_laid (ok_F_laid T) (hr.mono (by decide)) T.b_F_laid .nil pass0 (pa_cons (pv 1) (pa_cons (pe_meth (E := E0) (pe_fld (pv 0) rfl) T.ok.clT T.m_T_joined (ok_T_joined T) (hr.mono (by decide)) T.b_T_joined .nil pass0 (pa_cons (pe_ix ix_tup (pv 3) pe_int (fun _ _ => rfl)) (pa_cons (pe_ix ix_tup (pv 3) pe_int (fun _ _ => rfl)) pa_nil))) (pa_cons pe_int pa_nil)))))
    (pss_one (ps_ret (pv 2))))))))
theorem ok_F_pour (T : Tx K mg) : FnOk P w K mg base (L2.CX P w) 4 T.f_F_pour T.fd_F_pour ["self", "heap", "other"] (sp_F_pour K T.A) := by
  refine T.F_F_pour.okX sc_F_pour (fun vs H Q E h => match vs, h with | [_, _, _], _ => rfl) (fun cdv Ar outer s H vs Q E hr h => ⟨t_F_pour K T.A E, ?_, match vs, h with | [v0, v1, v2], h => pure_F_pour T.ok h⟩)
  exact (pss_cons (ps_expr (pe_meth (E := E) (pv 0) T.ok.clF T.m_F_need_heap (ok_F_need_heap T) (hr.mono (by decide)) T.b_F_need_heap .nil (passes_call (takes_of rfl rfl rfl rfl) (fun _ _ _ _ h => h)) (pa_cons (pv 1) pa_nil)))
    (pss_cons (ps_expr (pe_meth (E := E) (pv 0) T.ok.clF T.m_F_need_heap (ok_F_need_heap T) (hr.mono (by decide)) T.b_F_need_heap .nil (passes_call (takes_of rfl rfl rfl rfl) (fun _ _ _ _ h => h)) (pa_cons (pv 2) pa_nil)))
    (pss_cons (ps_if (pt_cmpR op_eq (pv 1) (pv 2) (nomark _)) (pss_one (ps_raise rfl (takes_of rfl rfl rfl rfl) (pmk_own PySem.F.excBase_ValueError T.x_Same T.g_Same T.k_Same (raises_own T.e_Same T.t_Same) (by exact rfl)))) pss_nil)
    (pss_cons (ps_set (i := 3) sc_F_pour.nd rfl (by first | exact Or.inl rfl | exact Or.inr rfl) (pe_meth (E := E0) (pe_fld (pv 0) rfl) T.ok.clT T.m_T_joined (ok_T_joined T) (hr.mono (by decide)) T.b_T_joined .nil pass0 (pa_cons (pe_ix ix_list (pe_fld (pv 0) rfl) (pv 1) (fun _ _ => rfl)) (pa_cons (pe_ix ix_list (pe_fld (pv 0) rfl) (pv 2) (fun _ _ => rfl)) pa_nil))))
    (pss_cons (ps_asg pe_non (pg_sub (pe_fld (pv 0) rfl) (pv 2) set_list))
    (pss_cons (ps_asg (pe_op op_add (pe_ix ix_list (pe_fld (pv 0) rfl) (pv 1) (fun _ _ => rfl)) (pe_ix ix_list (pe_fld (pv 0) rfl) (pv 2) (fun _ _ => rfl))) (pg_sub (pe_fld (pv 0) rfl) (pv 1) set_list))
    (pss_cons (ps_asg pe_int (pg_sub (pe_fld (pv 0) rfl) (pv 2) set_list))
    (pss_one (ps_expr (pe_meth (E := E0) (pv 0) T.ok.clF T.m_F_laid (ok_F_laid T) (hr.mono (by decide)) T.b_F_laid .nil pass0 (pa_cons (pv 1) (pa_cons (pv 3) (pa_cons pe_int pa_nil)))))))))))))
theorem ok_F_heap_of (T : Tx K mg) : FnOk P w K mg base (L2.CX P w) 2 T.f_F_heap_of T.fd_F_heap_of ["self", "thing"] (sp_F_heap_of K T.A) := by
  refine T.F_F_heap_of.okX sc_F_heap_of (fun vs H Q E h => match vs, h with | [_, _], _ => rfl) (fun cdv Ar outer s H vs Q E hr h => ⟨t_F_heap_of K T.A E, ?_, match vs, h with | [v0, v1], h => pure_F_heap_of T.ok h⟩)
  exact (pss_cons (ps_expr (pe_meth (E := E) (pv 0) T.ok.clF T.m_F_need_thing (ok_F_need_thing T) (hr.mono (by decide)) T.b_F_need_thing .nil (passes_call (takes_of rfl rfl rfl rfl) (fun _ _ _ _ h => h)) (pa_cons (pv 1) pa_nil)))
    (pss_one (ps_ret (pe_dget (hu_of hr) (pe_fld (pv 0) rfl) (pe_meth (E := E0) (pe_fld (pv 0) rfl) T.ok.clT T.m_T_top_of (ok_T_top_of T) (hr.mono (by decide)) T.b_T_top_of .nil pass0 (pa_cons (pv 1) pa_nil)) (fun _ _ => rfl)))))
theorem ok_F_sink (T : Tx K mg) : FnOk P w K mg base (L2.CX P w) 4 T.f_F_sink T.fd_F_sink ["self", "thing", "weight"] (sp_F_sink K T.A) := by
  refine T.F_F_sink.okX sc_F_sink (fun vs H Q E h => match vs, h with | [_, _, _], _ => rfl) (fun cdv Ar outer s H vs Q E hr h => ⟨t_F_sink K T.A E, ?_, match vs, h with | [v0, v1, v2], h => pure_F_sink T.ok h⟩)
  exact (pss_cons (ps_expr (pe_meth (E := E) (pv 0) T.ok.clF T.m_F_need_thing (ok_F_need_thing T) (hr.mono (by decide)) T.b_F_need_thing .nil (passes_call (takes_of rfl rfl rfl rfl) (fun _ _ _ _ h => h)) (pa_cons (pv 1) pa_nil)))
    (pss_cons (ps_if (pt_cmpR op_gt (pv 2) (pe_ix ix_list (pe_fld (pe_fld (pv 0) rfl) rfl) (pv 1) (fun _ _ => rfl)) (nomark _)) (pss_one (ps_raise rfl (takes_of rfl rfl rfl rfl) (pmk_own PySem.F.excBase_ValueError T.x_Heavier T.g_Heavier T.k_Heavier (raises_own T.e_Heavier T.t_Heavier) (by exact rfl)))) pss_nil)
    (pss_cons (ps_set (i := 3) sc_F_sink.nd rfl (by first | exact Or.inl rfl | exact Or.inr rfl) (pe_meth (E := E) (pv 0) T.ok.clF T.m_F_heap_of (ok_F_heap_of T) (hr.mono (by decide)) T.b_F_heap_of .nil (passes_call (takes_of rfl rfl rfl rfl) (fun _ _ _ _ h => h)) (pa_cons (pv 1) pa_nil)))
    (pss_cons (ps_asg (pv 2) (pg_sub (pe_fld (pe_fld (pv 0) rfl) rfl) (pv 1) set_list))
    (pss_cons (ps_set (i := 4) sc_F_sink.nd rfl (by first | exact Or.inl rfl | exact Or.inr rfl) (pe_ix ix_list (pe_fld (pe_fld (pv 0) rfl) rfl) (pv 1) (fun _ _ => rfl)))
    (pss_one (ps_if (PW.pt (pw_or (pt_cmpR op_isN' (pv 4) pe_non (nomark _)) (pw_or1 (pt_val (pe_meth (E := E0) (pe_fld (pv 0) rfl) T.ok.clT T.m_T_is_lesser (ok_T_is_lesser T) (hr.mono (by decide)) T.b_T_is_lesser .nil pass0 (pa_cons (pv 4) (pa_cons (pv 1) pa_nil))))))) (pss_one (ps_fld (pv 0) pe_int rfl)) (pss_cons (ps_set (i := 5) sc_F_sink.nd rfl (by first | exact Or.inl rfl | exact Or.inr rfl) (pe_meth (E := E0) (pe_fld (pv 0) rfl) T.ok.clT T.m_T_released (ok_T_released T) (hr.mono (by decide)) T.b_T_released .nil pass0 (pa_cons (pv 1) pa_nil)))
    (pss_one (ps_expr (pe_meth (E := E0) (pv 0) T.ok.clF T.m_F_laid (ok_F_laid T) (hr.mono (by decide)) T.b_F_laid .nil pass0 (pa_cons (pv 3) (pa_cons (pe_meth (E := E0) (pe_fld (pv 0) rfl) T.ok.clT T.m_T_joined (ok_T_joined T) (hr.mono (by decide)) T.b_T_joined .nil pass0 (pa_cons (pe_ix ix_list (pe_fld (pv 0) rfl) (pv 3) (fun _ _ => rfl)) (pa_cons (pv 1) pa_nil))) (pa_cons (pv 5) pa_nil))))))))))))))
theorem ok_F_things (T : Tx K mg) : FnOk P w K mg base (L2.CX P w) 2 T.f_F_things T.fd_F_things ["self", "heap"] (sp_F_things K T.A) := by
  refine T.F_F_things.okX sc_F_things (fun vs H Q E h => match vs, h with | [_, _], _ => rfl) (fun cdv Ar outer s H vs Q E hr h => ⟨t_F_things K T.A E, ?_, match vs, h with | [v0, v1], h => pure_F_things T.ok h⟩)
  exact (pss_cons (ps_expr (pe_meth (E := E) (pv 0) T.ok.clF T.m_F_need_heap (ok_F_need_heap T) (hr.mono (by decide)) T.b_F_need_heap .nil (passes_call (takes_of rfl rfl rfl rfl) (fun _ _ _ _ h => h)) (pa_cons (pv 1) pa_nil)))
    (pss_one (ps_ret (pe_ix ix_list (pe_fld (pv 0) rfl) (pv 1) (fun _ _ => rfl)))))
theorem ok_F_tree (T : Tx K mg) : FnOk P w K mg base (L2.CX P w) 2 T.f_F_tree T.fd_F_tree ["self", "heap"] (sp_F_tree K T.A) := by
  refine T.F_F_tree.okX sc_F_tree (fun vs H Q E h => match vs, h with | [_, _], _ => rfl) (fun cdv Ar outer s H vs Q E hr h => ⟨t_F_tree K T.A E, ?_, match vs, h with | [v0, v1], h => pure_F_tree T.ok h⟩)
  exact (pss_cons (ps_expr (pe_meth (E := E) (pv 0) T.ok.clF T.m_F_need_heap (ok_F_need_heap T) (hr.mono (by decide)) T.b_F_need_heap .nil (passes_call (takes_of rfl rfl rfl rfl) (fun _ _ _ _ h => h)) (pa_cons (pv 1) pa_nil)))
    (pss_one (ps_ret (pe_meth (E := E0) (pe_fld (pv 0) rfl) T.ok.clT T.m_T_told (ok_T_told T) (hr.mono (by decide)) T.b_T_told .nil pass0 (pa_cons (pe_ix ix_list (pe_fld (pv 0) rfl) (pv 1) (fun _ _ => rfl)) pa_nil)))))
theorem ok_F_work (T : Tx K mg) : FnOk P w K mg base CX0 1 T.f_F_work T.fd_F_work ["self"] (sp_F_work K T.A) := by
  refine T.F_F_work.ok sc_F_work (fun vs H Q E h => match vs, h with | [_], _ => rfl) (fun cdv Ar outer s H vs Q E hr h => ⟨t_F_work K T.A E, ?_, match vs, h with | [v0], h => pure_F_work T.ok h⟩)
  exact (pss_one (ps_ret (pe_fld (pv 0) rfl)))
theorem ok_l_cell (T : Tx K mg) : FnOk P w K mg base CX0 1 T.f_l_cell T.fd_l_cell ["_law_script", "_law_k"] (sp_l_cell K T.A) := by
  refine T.F_l_cell.ok sc_l_cell (fun vs H Q E h => match vs, h with | [_, _], _ => rfl) (fun cdv Ar outer s H vs Q E hr h => ⟨t_l_cell K T.A E, ?_, match vs, h with | [v0, v1], h => pure_l_cell T.ok h⟩)
  exact (pss_cons (ps_if (pt_cmpR op_lt (pv 1) (pe_callB call_len' (by rfl) T.z_len PySem.boot_len (pa_cons (pv 0) pa_nil)) (nomark _)) (pss_one (ps_ret (pe_ix ix_list (pv 0) (pv 1) (fun _ _ => rfl)))) pss_nil)
    (pss_one (ps_ret pe_int)))
theorem ok_l_weight (T : Tx K mg) : FnOk P w K mg base CX0 1 T.f_l_weight T.fd_l_weight ["_law_cell_here", "_law_k"] (sp_l_weight K T.A) := by
  refine T.F_l_weight.ok sc_l_weight (fun vs H Q E h => match vs, h with | [_, _], _ => rfl) (fun cdv Ar outer s H vs Q E hr h => ⟨t_l_weight K T.A E, ?_, match vs, h with | [v0, v1], h => pure_l_weight T.ok h⟩)
  exact (pss_cons (ps_if (pt_cmpR op_eq (pe_op op_mod (pv 0) pe_int) pe_int (nomark _)) (pss_one (ps_ret (pe_op op_sub (pe_op op_mod (pe_op op_fdiv (pv 0) pe_int) pe_int) pe_int))) pss_nil)
    (pss_cons (ps_if (pt_cmpR op_eq (pe_op op_mod (pv 0) pe_int) pe_int (nomark _)) (pss_one (ps_ret (pe_op op_sub (pe_op op_mod (pe_op op_fdiv (pv 0) pe_int) pe_int) pe_int))) pss_nil)
    (pss_cons (ps_if (pt_cmpR op_eq (pe_op op_mod (pv 0) pe_int) pe_int (nomark _)) (pss_one (ps_ret (pe_op op_mod (pe_op op_fdiv (pv 0) pe_int) pe_int))) pss_nil)
    (pss_one (ps_ret (pe_un un_neg (pv 1)))))))
theorem ok_l_noted (T : Tx K mg) : FnOk P w K mg base CX0 1 T.f_l_noted T.fd_l_noted ["_law_notes", "_law_rows"] (sp_l_noted K T.A) := by
  refine T.F_l_noted.ok sc_l_noted (fun vs H Q E h => match vs, h with | [_, _], _ => rfl) (fun cdv Ar outer s H vs Q E hr h => ⟨t_l_noted K T.A E, ?_, match vs, h with | [v0, v1], h => pure_l_noted T.ok h⟩)
  exact (pss_one (ps_for PassesOwn.never rfl (pi_list (pv 1)) (pg_name (i := 2) sc_l_noted.nd rfl (by first | exact Or.inl rfl | exact Or.inr rfl)) (pss_one (ps_dput (hu_of hr) (pv 0) (pe_ix ix_tup (pv 2) pe_int (fun _ _ => rfl)) (pe_lst (pa_cons (pe_ix ix_tup (pv 2) pe_int (fun _ _ => rfl)) (pa_cons (pe_ix ix_tup (pv 2) pe_int (fun _ _ => rfl)) (pa_cons (pe_ix ix_tup (pv 2) pe_int (fun _ _ => rfl)) (pa_cons (pe_ix ix_tup (pv 2) pe_int (fun _ _ => rfl)) pa_nil))))) rfl))))
theorem ok_l_run (T : Tx K mg) : FnOk P w K mg base CX0 1 T.f_l_run T.fd_l_run ["_law_notes", "_law_part"] (sp_l_run K T.A) := by
  refine T.F_l_run.ok sc_l_run (fun vs H Q E h => match vs, h with | [_, _], _ => rfl) (fun cdv Ar outer s H vs Q E hr h => ⟨t_l_run K T.A E, ?_, match vs, h with | [v0, v1], h => pure_l_run T.ok h⟩)
  exact (pss_cons (ps_if (pt_cmpR op_isN' (pv 1) pe_non (nomark _)) (pss_one (ps_ret pe_int)) pss_nil)
    (pss_one (ps_ret (pe_ix ix_list (pe_dget (hu_of hr) (pv 0) (pv 1) (fun _ _ => rfl)) pe_int (fun _ _ => rfl)))))
theorem ok_l_sided (T : Tx K mg) : FnOk P w K mg base CX0 2 T.f_l_sided T.fd_l_sided ["_law_notes", "_law_thing"] (sp_l_sided K T.A) := by
  refine T.F_l_sided.ok sc_l_sided (fun vs H Q E h => match vs, h with | [_, _], _ => rfl) (fun cdv Ar outer s H vs Q E hr h => ⟨t_l_sided K T.A E, ?_, match vs, h with | [v0, v1], h => pure_l_sided T.ok h⟩)
  exact (pss_cons (ps_set (i := 2) sc_l_sided.nd rfl (by first | exact Or.inl rfl | exact Or.inr rfl) (pe_dget (hu_of hr) (pv 0) (pv 1) (fun _ _ => rfl)))
    (pss_cons (ps_if (pt_cmpR op_gt (pe_call (E := E0) (ok_l_run T) (hr.mono (by decide)) (by rfl) T.g_l_run T.F_l_run.kp T.b_l_run .nil pass0 (pa_cons (pv 0) (pa_cons (pe_ix ix_list (pv 2) pe_int (fun _ _ => rfl)) pa_nil))) (pe_call (E := E0) (ok_l_run T) (hr.mono (by decide)) (by rfl) T.g_l_run T.F_l_run.kp T.b_l_run .nil pass0 (pa_cons (pv 0) (pa_cons (pe_ix ix_list (pv 2) pe_int (fun _ _ => rfl)) pa_nil))) (nomark _)) (pss_cons (ps_set (i := 3) sc_l_sided.nd rfl (by first | exact Or.inl rfl | exact Or.inr rfl) (pe_ix ix_list (pv 2) pe_int (fun _ _ => rfl)))
    (pss_cons (ps_asg (pe_ix ix_list (pv 2) pe_int (fun _ _ => rfl)) (pg_sub (pv 2) pe_int set_list))
    (pss_one (ps_asg (pv 3) (pg_sub (pv 2) pe_int set_list))))) pss_nil)
    (pss_one (ps_asg (pe_op op_add pe_int (pe_call (E := E0) (ok_l_run T) (hr.mono (by decide)) (by rfl) T.g_l_run T.F_l_run.kp T.b_l_run .nil pass0 (pa_cons (pv 0) (pa_cons (pe_ix ix_list (pv 2) pe_int (fun _ _ => rfl)) pa_nil)))) (pg_sub (pv 2) pe_int set_list)))))
theorem ok_l_joined (T : Tx K mg) : FnOk P w K mg base CX0 3 T.f_l_joined T.fd_l_joined ["_law_notes", "_law_one", "_law_other"] (sp_l_joined K T.A) := by
  refine T.F_l_joined.ok sc_l_joined (fun vs H Q E h => match vs, h with | [_, _, _], _ => rfl) (fun cdv Ar outer s H vs Q E hr h => ⟨t_l_joined K T.A E, ?_, match vs, h with | [v0, v1, v2], h => pure_l_joined T.ok h⟩)
  exact (pss_cons (ps_set (i := 3) sc_l_joined.nd rfl (by first | exact Or.inl rfl | exact Or.inr rfl) (pe_lst pa_nil))
    (pss_cons (ps_while PassesOwn.never (PW.pt (pw_and (pt_cmpR op_notN' (pv 1) pe_non (nomark _)) (pw_and1 (pt_cmpR op_notN' (pv 2) pe_non (nomark _))))) (pss_one (ps_if (pt_cmpR (op_ltT hr.units0) (pe_tup (pa_cons (pe_ix ix_list (pe_dget (hu_of hr) (pv 0) (pv 2) (fun _ _ => rfl)) pe_int (fun _ _ => rfl)) (pa_cons (pv 2) pa_nil))) (pe_tup (pa_cons (pe_ix ix_list (pe_dget (hu_of hr) (pv 0) (pv 1) (fun _ _ => rfl)) pe_int (fun _ _ => rfl)) (pa_cons (pv 1) pa_nil))) (nomark _)) (pss_cons (ps_expr (pe_bm PySem.F.plainAttrs_list PySem.F.slot_list_append PySem.F.type_list_append mt_append (pv 3) (pa_cons (pv 2) pa_nil)))
    (pss_one (ps_set (i := 2) sc_l_joined.nd rfl (by first | exact Or.inl rfl | exact Or.inr rfl) (pe_ix ix_list (pe_dget (hu_of hr) (pv 0) (pv 2) (fun _ _ => rfl)) pe_int (fun _ _ => rfl))))) (pss_cons (ps_expr (pe_bm PySem.F.plainAttrs_list PySem.F.slot_list_append PySem.F.type_list_append mt_append (pv 3) (pa_cons (pv 1) pa_nil)))
    (pss_one (ps_set (i := 1) sc_l_joined.nd rfl (by first | exact Or.inl rfl | exact Or.inr rfl) (pe_ix ix_list (pe_dget (hu_of hr) (pv 0) (pv 1) (fun _ _ => rfl)) pe_int (fun _ _ => rfl))))))))
    (pss_cons (ps_set (i := 4) sc_l_joined.nd rfl (by first | exact Or.inl rfl | exact Or.inr rfl) (pv 1))
    (pss_cons (ps_if (pt_cmpR op_isN' (pv 4) pe_non (nomark _)) (pss_one (ps_set (i := 4) sc_l_joined.nd rfl (by first | exact Or.inl rfl | exact Or.inr rfl) (pv 2))) pss_nil)
    (pss_cons (ps_for PassesOwn.never rfl (pi_range1 (by rfl) T.z_range (pa_cons (pe_callB call_len' (by rfl) T.z_len PySem.boot_len (pa_cons (pv 3) pa_nil)) pa_nil)) (pg_name (i := 5) sc_l_joined.nd rfl (by first | exact Or.inl rfl | exact Or.inr rfl)) (pss_cons (ps_set (i := 6) sc_l_joined.nd rfl (by first | exact Or.inl rfl | exact Or.inr rfl) (pe_ix ix_list (pv 3) (pe_op op_sub (pe_op op_sub (pe_callB call_len' (by rfl) T.z_len PySem.boot_len (pa_cons (pv 3) pa_nil)) pe_int) (pv 5)) (fun _ _ => rfl)))
    (pss_cons (ps_asg (pv 4) (pg_sub (pe_dget (hu_of hr) (pv 0) (pv 6) (fun _ _ => rfl)) pe_int set_list))
    (pss_cons (ps_expr (pe_call (E := E0) (ok_l_sided T) (hr.mono (by decide)) (by rfl) T.g_l_sided T.F_l_sided.kp T.b_l_sided .nil pass0 (pa_cons (pv 0) (pa_cons (pv 6) pa_nil))))
    (pss_one (ps_set (i := 4) sc_l_joined.nd rfl (by first | exact Or.inl rfl | exact Or.inr rfl) (pv 6)))))))
    (pss_one (ps_ret (pe_tup (pa_cons (pv 4) (pa_cons (pe_callB call_len' (by rfl) T.z_len PySem.boot_len (pa_cons (pv 3) pa_nil)) pa_nil))))))))))
theorem ok_l_above (T : Tx K mg) : FnOk P w K mg base CX0 1 T.f_l_above T.fd_l_above ["_law_notes", "_law_thing"] (sp_l_above K T.A) := by
  refine T.F_l_above.ok sc_l_above (fun vs H Q E h => match vs, h with | [_, _], _ => rfl) (fun cdv Ar outer s H vs Q E hr h => ⟨t_l_above K T.A E, ?_, match vs, h with | [v0, v1], h => pure_l_above T.ok h⟩)
  exact (pss_cons (ps_lock (ps_for PassesOwn.never rfl (pi_keys (pv 0)) (pg_name (i := 2) sc_l_above.nd rfl (by first | exact Or.inl rfl | exact Or.inr rfl)) (pss_one (ps_if (PW.pt (pw_or (pt_cmpR op_eq (pe_ix ix_list (pe_dget (hu_of hr) (pv 0) (pv 2) (fun _ _ => rfl)) pe_int (fun _ _ => rfl)) (pv 1) (nomark _)) (pw_or1 (pt_cmpR op_eq (pe_ix ix_list (pe_dget (hu_of hr) (pv 0) (pv 2) (fun _ _ => rfl)) pe_int (fun _ _ => rfl)) (pv 1) (nomark _))))) (pss_one (ps_ret (pv 2))) pss_nil))))
    (pss_one (ps_ret pe_non)))
theorem ok_l_sunk (T : Tx K mg) : FnOk P w K mg base CX0 4 T.f_l_sunk T.fd_l_sunk ["_law_notes", "_law_top_here", "_law_thing", "_law_weight_here"] (sp_l_sunk K T.A) := by
  refine T.F_l_sunk.ok sc_l_sunk (fun vs H Q E h => match vs, h with | [_, _, _, _], _ => rfl) (fun cdv Ar outer s H vs Q E hr h => ⟨t_l_sunk K T.A E, ?_, match vs, h with | [v0, v1, v2, v3], h => pure_l_sunk T.ok h⟩)
  exact (pss_cons (ps_asg (pv 3) (pg_sub (pe_dget (hu_of hr) (pv 0) (pv 2) (fun _ _ => rfl)) pe_int set_list))
    (pss_cons (ps_set (i := 4) sc_l_sunk.nd rfl (by first | exact Or.inl rfl | exact Or.inr rfl) (pe_call (E := E0) (ok_l_above T) (hr.mono (by decide)) (by rfl) T.g_l_above T.F_l_above.kp T.b_l_above .nil pass0 (pa_cons (pv 0) (pa_cons (pv 2) pa_nil))))
    (pss_cons (ps_if (PW.pt (pw_or (pt_cmpR op_isN' (pv 4) pe_non (nomark _)) (pw_or1 (pt_cmpR (op_ltT hr.units0) (pe_tup (pa_cons (pe_ix ix_list (pe_dget (hu_of hr) (pv 0) (pv 4) (fun _ _ => rfl)) pe_int (fun _ _ => rfl)) (pa_cons (pv 4) pa_nil))) (pe_tup (pa_cons (pv 3) (pa_cons (pv 2) pa_nil))) (nomark _))))) (pss_one (ps_ret (pe_tup (pa_cons (pv 1) (pa_cons pe_int pa_nil))))) pss_nil)
    (pss_cons (ps_set (i := 5) sc_l_sunk.nd rfl (by first | exact Or.inl rfl | exact Or.inr rfl) pe_int)
    (pss_cons (ps_if (pt_cmpR op_eq (pe_ix ix_list (pe_dget (hu_of hr) (pv 0) (pv 4) (fun _ _ => rfl)) pe_int (fun _ _ => rfl)) (pv 2) (nomark _)) (pss_one (ps_set (i := 5) sc_l_sunk.nd rfl (by first | exact Or.inl rfl | exact Or.inr rfl) pe_int)) pss_nil)
    (pss_cons (ps_asg pe_non (pg_sub (pe_dget (hu_of hr) (pv 0) (pv 4) (fun _ _ => rfl)) (pv 5) set_list))
    (pss_cons (ps_set (i := 6) sc_l_sunk.nd rfl (by first | exact Or.inl rfl | exact Or.inr rfl) pe_int)
    (pss_cons (ps_set (i := 7) sc_l_sunk.nd rfl (by first | exact Or.inl rfl | exact Or.inr rfl) pe_bl)
    (pss_cons (ps_while PassesOwn.never (PW.pt (pw_and (pt_cmpR op_notN' (pv 4) pe_non (nomark _)) (pw_and1 (pt_val (pv 7))))) (pss_cons (ps_set (i := 8) sc_l_sunk.nd rfl (by first | exact Or.inl rfl | exact Or.inr rfl) (pe_ix ix_list (pe_dget (hu_of hr) (pv 0) (pv 4) (fun _ _ => rfl)) pe_int (fun _ _ => rfl)))
    (pss_cons (ps_expr (pe_call (E := E0) (ok_l_sided T) (hr.mono (by decide)) (by rfl) T.g_l_sided T.F_l_sided.kp T.b_l_sided .nil pass0 (pa_cons (pv 0) (pa_cons (pv 4) pa_nil))))
    (pss_cons (ps_set (i := 6) sc_l_sunk.nd rfl (by first | exact Or.inl rfl | exact Or.inr rfl) (pe_op op_add (pv 6) pe_int))
    (pss_cons (ps_set (i := 7) sc_l_sunk.nd rfl (by first | exact Or.inl rfl | exact Or.inr rfl) (pe_cmpR op_ne (pe_ix ix_list (pe_dget (hu_of hr) (pv 0) (pv 4) (fun _ _ => rfl)) pe_int (fun _ _ => rfl)) (pv 8) (nomark _)))
    (pss_one (ps_set (i := 4) sc_l_sunk.nd rfl (by first | exact Or.inl rfl | exact Or.inr rfl) (pe_call (E := E0) (ok_l_above T) (hr.mono (by decide)) (by rfl) T.g_l_above T.F_l_above.kp T.b_l_above .nil pass0 (pa_cons (pv 0) (pa_cons (pv 4) pa_nil))))))))))
    (pss_cons (ps_set (i := 9) sc_l_sunk.nd rfl (by first | exact Or.inl rfl | exact Or.inr rfl) (pe_call (E := E0) (ok_l_joined T) (hr.mono (by decide)) (by rfl) T.g_l_joined T.F_l_joined.kp T.b_l_joined .nil pass0 (pa_cons (pv 0) (pa_cons (pv 1) (pa_cons (pv 2) pa_nil)))))
    (pss_one (ps_ret (pe_tup (pa_cons (pe_ix ix_tup (pv 9) pe_int (fun _ _ => rfl)) (pa_cons (pe_op op_add (pv 6) (pe_ix ix_tup (pv 9) pe_int (fun _ _ => rfl))) pa_nil)))))))))))))))
theorem ok_l_told (T : Tx K mg) : FnOk P w K mg base CX0 1 T.f_l_told T.fd_l_told ["_law_notes", "_law_top_here"] (sp_l_told K T.A) := by
  refine T.F_l_told.ok sc_l_told (fun vs H Q E h => match vs, h with | [_, _], _ => rfl) (fun cdv Ar outer s H vs Q E hr h => ⟨t_l_told K T.A E, ?_, match vs, h with | [v0, v1], h => pure_l_told T.ok h⟩)
  exact (pss_cons (ps_set (i := 2) sc_l_told.nd rfl (by first | exact Or.inl rfl | exact Or.inr rfl) (pe_lst pa_nil))
    (pss_cons (ps_set (i := 3) sc_l_told.nd rfl (by first | exact Or.inl rfl | exact Or.inr rfl) (pe_lst (pa_cons (pv 1) pa_nil)))
    (pss_cons (ps_while PassesOwn.never (pt_cmpR (op_neD (units64 hr)) (pv 3) (pe_lst pa_nil) (nomark _)) (pss_cons (ps_set (i := 4) sc_l_told.nd rfl (by first | exact Or.inl rfl | exact Or.inr rfl) (pe_bm0 PySem.F.plainAttrs_list PySem.F.slot_list_pop PySem.F.type_list_pop mt_pop (pv 3)))
    (pss_one (ps_if (pt_cmpR op_notN' (pv 4) pe_non (nomark _)) (pss_cons (ps_set (i := 5) sc_l_told.nd rfl (by first | exact Or.inl rfl | exact Or.inr rfl) (pe_dget (hu_of hr) (pv 0) (pv 4) (fun _ _ => rfl)))
    (pss_cons (ps_expr (pe_bm PySem.F.plainAttrs_list PySem.F.slot_list_append PySem.F.type_list_append mt_append (pv 2) (pa_cons (pe_tup (pa_cons (pv 4) (pa_cons (pe_ix ix_list (pv 5) pe_int (fun _ _ => rfl)) (pa_cons (pe_ix ix_list (pv 5) pe_int (fun _ _ => rfl)) (pa_cons (pe_ix ix_list (pv 5) pe_int (fun _ _ => rfl)) (pa_cons (pe_ix ix_list (pv 5) pe_int (fun _ _ => rfl)) pa_nil)))))) pa_nil)))
    (pss_cons (ps_expr (pe_bm PySem.F.plainAttrs_list PySem.F.slot_list_append PySem.F.type_list_append mt_append (pv 3) (pa_cons (pe_ix ix_list (pv 5) pe_int (fun _ _ => rfl)) pa_nil)))
    (pss_one (ps_expr (pe_bm PySem.F.plainAttrs_list PySem.F.slot_list_append PySem.F.type_list_append mt_append (pv 3) (pa_cons (pe_ix ix_list (pv 5) pe_int (fun _ _ => rfl)) pa_nil))))))) pss_nil))))
    (pss_one (ps_ret (pv 2))))))
theorem ok_l_top (T : Tx K mg) : FnOk P w K mg base CX0 1 T.f_l_top T.fd_l_top ["_law_rows"] (sp_l_top K T.A) := by
  refine T.F_l_top.ok sc_l_top (fun vs H Q E h => match vs, h with | [_], _ => rfl) (fun cdv Ar outer s H vs Q E hr h => ⟨t_l_top K T.A E, ?_, match vs, h with | [v0], h => pure_l_top T.ok h⟩)
  exact (pss_cons (ps_if (pt_cmpR (op_eqD (units64 hr)) (pv 0) (pe_lst pa_nil) (nomark _)) (pss_one (ps_ret pe_non)) pss_nil)
    (pss_one (ps_ret (pe_ix ix_tup (pe_ix ix_list (pv 0) pe_int (fun _ _ => rfl)) pe_int (fun _ _ => rfl)))))
theorem ok_l_due (T : Tx K mg) : FnOk P w K mg base CX0 5 T.f_l_due T.fd_l_due ["_law_field", "_law_heaps", "_law_notes", "_law_rows", "_law_cell_here", "_law_more"] (sp_l_due K T.A) := by
  refine T.F_l_due.ok sc_l_due (fun vs H Q E h => match vs, h with | [_, _, _, _, _, _], _ => rfl) (fun cdv Ar outer s H vs Q E hr h => ⟨t_l_due K T.A E, ?_, match vs, h with | [v0, v1, v2, v3, v4, v5], h => pure_l_due T.ok h⟩)
  exact (pss_cons (ps_set (i := 6) sc_l_due.nd rfl (by first | exact Or.inl rfl | exact Or.inr rfl) (pe_call (E := E0) (ok_l_top T) (hr.mono (by decide)) (by rfl) T.g_l_top T.F_l_top.kp T.b_l_top .nil pass0 (pa_cons (pe_ix ix_list (pv 3) pe_int (fun _ _ => rfl)) pa_nil)))
    (pss_cons (ps_if (pt_cmpR op_eq (pe_op op_mod (pv 4) pe_int) pe_int (nomark _)) (pss_cons (ps_set (i := 7) sc_l_due.nd rfl (by first | exact Or.inl rfl | exact Or.inr rfl) (pe_call (E := E0) (ok_l_weight T) (hr.mono (by decide)) (by rfl) T.g_l_weight T.F_l_weight.kp T.b_l_weight .nil pass0 (pa_cons (pv 5) (pa_cons (pe_op op_mod (pv 5) pe_int) pa_nil))))
    (pss_cons (ps_set (i := 8) sc_l_due.nd rfl (by first | exact Or.inl rfl | exact Or.inr rfl) (pe_meth (E := E0) (pv 0) T.ok.clF T.m_F_put (ok_F_put T) (hr.mono (by decide)) T.b_F_put .nil passL (pa_cons (pe_ix ix_list (pv 1) pe_int (fun _ _ => rfl)) (pa_cons (pv 7) pa_nil))))
    (pss_cons (ps_dput (hu_of hr) (pv 2) (pv 8) (pe_lst (pa_cons (pv 7) (pa_cons pe_non (pa_cons pe_non (pa_cons pe_int pa_nil))))) rfl)
    (pss_one (ps_ret (pe_call (E := E0) (ok_l_joined T) (hr.mono (by decide)) (by rfl) T.g_l_joined T.F_l_joined.kp T.b_l_joined .nil pass0 (pa_cons (pv 2) (pa_cons (pv 6) (pa_cons (pv 8) pa_nil))))))))) pss_nil)
    (pss_cons (ps_if (PW.pt (pw_and (pt_cmpR op_eq (pe_op op_mod (pv 4) pe_int) pe_int (nomark _)) (pw_and1 (pt_cmpR op_notN' (pv 6) pe_non (nomark _))))) (pss_cons (ps_expr (pe_meth (E := E0) (pv 0) T.ok.clF T.m_F_take (ok_F_take T) (hr.mono (by decide)) T.b_F_take .nil passL (pa_cons (pe_ix ix_list (pv 1) pe_int (fun _ _ => rfl)) pa_nil)))
    (pss_one (ps_ret (pe_call (E := E0) (ok_l_joined T) (hr.mono (by decide)) (by rfl) T.g_l_joined T.F_l_joined.kp T.b_l_joined .nil pass0 (pa_cons (pv 2) (pa_cons (pe_ix ix_list (pe_dget (hu_of hr) (pv 2) (pv 6) (fun _ _ => rfl)) pe_int (fun _ _ => rfl)) (pa_cons (pe_ix ix_list (pe_dget (hu_of hr) (pv 2) (pv 6) (fun _ _ => rfl)) pe_int (fun _ _ => rfl)) pa_nil))))))) pss_nil)
    (pss_cons (ps_if (PW.pt (pw_or (pt_cmpR op_eq (pe_op op_mod (pv 4) pe_int) pe_int (nomark _)) (pw_or1 (pt_cmpR op_isN' (pv 6) pe_non (nomark _))))) (pss_cons (ps_expr (pe_meth (E := E0) (pv 0) T.ok.clF T.m_F_pour (ok_F_pour T) (hr.mono (by decide)) T.b_F_pour .nil passL (pa_cons (pe_ix ix_list (pv 1) pe_int (fun _ _ => rfl)) (pa_cons (pe_ix ix_list (pv 1) pe_int (fun _ _ => rfl)) pa_nil))))
    (pss_one (ps_ret (pe_call (E := E0) (ok_l_joined T) (hr.mono (by decide)) (by rfl) T.g_l_joined T.F_l_joined.kp T.b_l_joined .nil pass0 (pa_cons (pv 2) (pa_cons (pv 6) (pa_cons (pe_call (E := E0) (ok_l_top T) (hr.mono (by decide)) (by rfl) T.g_l_top T.F_l_top.kp T.b_l_top .nil pass0 (pa_cons (pe_ix ix_list (pv 3) pe_int (fun _ _ => rfl)) pa_nil)) pa_nil))))))) pss_nil)
    (pss_cons (ps_set (i := 8) sc_l_due.nd rfl (by first | exact Or.inl rfl | exact Or.inr rfl) (pe_ix ix_tup (pe_ix ix_list (pe_ix ix_list (pv 3) pe_int (fun _ _ => rfl)) (pe_op op_mod (pv 5) (pe_callB call_len' (by rfl) T.z_len PySem.boot_len (pa_cons (pe_ix ix_list (pv 3) pe_int (fun _ _ => rfl)) pa_nil))) (fun _ _ => rfl)) pe_int (fun _ _ => rfl)))
    (pss_cons (ps_set (i := 9) sc_l_due.nd rfl (by first | exact Or.inl rfl | exact Or.inr rfl) (pe_op op_fdiv (pv 5) (pe_callB call_len' (by rfl) T.z_len PySem.boot_len (pa_cons (pe_ix ix_list (pv 3) pe_int (fun _ _ => rfl)) pa_nil))))
    (pss_cons (ps_set (i := 7) sc_l_due.nd rfl (by first | exact Or.inl rfl | exact Or.inr rfl) (pe_op op_sub (pe_ix ix_list (pe_dget (hu_of hr) (pv 2) (pv 8) (fun _ _ => rfl)) pe_int (fun _ _ => rfl)) (pe_op op_mul (pe_op op_mod (pe_op op_fdiv (pv 9) pe_int) pe_int) (pe_op op_add pe_int (pe_op op_mul (pe_op op_mod (pv 9) pe_int) pe_int)))))
    (pss_cons (ps_expr (pe_meth (E := E0) (pv 0) T.ok.clF T.m_F_sink (ok_F_sink T) (hr.mono (by decide)) T.b_F_sink .nil passL (pa_cons (pv 8) (pa_cons (pv 7) pa_nil))))
    (pss_one (ps_ret (pe_call (E := E0) (ok_l_sunk T) (hr.mono (by decide)) (by rfl) T.g_l_sunk T.F_l_sunk.kp T.b_l_sunk .nil pass0 (pa_cons (pv 2) (pa_cons (pv 6) (pa_cons (pv 8) (pa_cons (pv 7) pa_nil)))))))))))))))
theorem ok_l_done (T : Tx K mg) : FnOk P w K mg base CX0 5 T.f_l_done T.fd_l_done ["_law_field", "_law_heap", "_law_other", "_law_kind", "_law_more", "_law_k"] (sp_l_done K T.A) := by
  refine T.F_l_done.ok sc_l_done (fun vs H Q E h => match vs, h with | [_, _, _, _, _, _], _ => rfl) (fun cdv Ar outer s H vs Q E hr h => ⟨t_l_done K T.A E, ?_, match vs, h with | [v0, v1, v2, v3, v4, v5], h => pure_l_done T.ok h⟩)
  exact (pss_cons (ps_set (i := 6) sc_l_done.nd rfl (by first | exact Or.inl rfl | exact Or.inr rfl) (pe_meth (E := E0) (pv 0) T.ok.clF T.m_F_tree (ok_F_tree T) (hr.mono (by decide)) T.b_F_tree .nil passL (pa_cons (pv 1) pa_nil)))
    (pss_one (ps_if (PW.pt (pw_and (pt_cmpR op_eq (pv 3) pe_int (nomark _)) (pw_and1 (pt_cmpR (op_neD (units64 hr)) (pv 6) (pe_lst pa_nil) (nomark _))))) (pss_one (ps_expr (pe_meth (E := E0) (pv 0) T.ok.clF T.m_F_take (ok_F_take T) (hr.mono (by decide)) T.b_F_take .nil passL (pa_cons (pv 1) pa_nil)))) (pss_one (ps_if (PW.pt (pw_and (pt_cmpR op_eq (pv 3) pe_int (nomark _)) (pw_and1 (pt_cmpR (op_neD (units64 hr)) (pv 6) (pe_lst pa_nil) (nomark _))))) (pss_cons (ps_set (i := 7) sc_l_done.nd rfl (by first | exact Or.inl rfl | exact Or.inr rfl) (pe_ix ix_list (pv 6) (pe_op op_mod (pv 4) (pe_callB call_len' (by rfl) T.z_len PySem.boot_len (pa_cons (pv 6) pa_nil))) (fun _ _ => rfl)))
    (pss_one (ps_expr (pe_meth (E := E0) (pv 0) T.ok.clF T.m_F_sink (ok_F_sink T) (hr.mono (by decide)) T.b_F_sink .nil passL (pa_cons (pe_ix ix_tup (pv 7) pe_int (fun _ _ => rfl)) (pa_cons (pe_op op_sub (pe_ix ix_tup (pv 7) pe_int (fun _ _ => rfl)) (pe_op op_mod (pe_op op_fdiv (pv 4) (pe_callB call_len' (by rfl) T.z_len PySem.boot_len (pa_cons (pv 6) pa_nil))) pe_int)) pa_nil)))))) (pss_one (ps_if (PW.pt (pw_and (pt_cmpR op_eq (pv 3) pe_int (nomark _)) (pw_and1 (pt_cmpR op_eq (pe_op op_mod (pv 4) pe_int) pe_int (nomark _))))) (pss_one (ps_expr (pe_meth (E := E0) (pv 0) T.ok.clF T.m_F_pour (ok_F_pour T) (hr.mono (by decide)) T.b_F_pour .nil passL (pa_cons (pv 1) (pa_cons (pv 2) pa_nil))))) (pss_one (ps_expr (pe_meth (E := E0) (pv 0) T.ok.clF T.m_F_put (ok_F_put T) (hr.mono (by decide)) T.b_F_put .nil passL (pa_cons (pv 1) (pa_cons (pe_call (E := E0) (ok_l_weight T) (hr.mono (by decide)) (by rfl) T.g_l_weight T.F_l_weight.kp T.b_l_weight .nil pass0 (pa_cons (pv 4) (pa_cons (pv 5) pa_nil))) pa_nil))))))))))))
theorem ok_law (T : Tx K mg) : FnOk P w K mg base CX0 6 T.f_law T.fd_law ["_law_script"] (sp_law K T.A) := by
  refine T.F_law.ok sc_law (fun vs H Q E h => match vs, h with | [_], _ => rfl) (fun cdv Ar outer s H vs Q E hr h => ⟨t_law K T.A E, ?_, match vs, h with | [v0], h => pure_law T.ok h⟩)
  exact (pss_cons (ps_set (i := 1) sc_law.nd rfl (by first | exact Or.inl rfl | exact Or.inr rfl) (pe_make0 T.mk_Field (ok_F_init T) (hr.mono (by decide)) (by rfl) T.g_Field T.b_F_init .nil pass0))
    (pss_cons (ps_set (i := 2) sc_law.nd rfl (by first | exact Or.inl rfl | exact Or.inr rfl) (pe_call (E := E0) (ok_l_cell T) (hr.mono (by decide)) (by rfl) T.g_l_cell T.F_l_cell.kp T.b_l_cell .nil pass0 (pa_cons (pv 0) (pa_cons pe_int pa_nil))))
    (pss_cons (ps_set (i := 3) sc_law.nd rfl (by first | exact Or.inl rfl | exact Or.inr rfl) (pe_op op_mod (pe_call (E := E0) (ok_l_cell T) (hr.mono (by decide)) (by rfl) T.g_l_cell T.F_l_cell.kp T.b_l_cell .nil pass0 (pa_cons (pv 0) (pa_cons pe_int pa_nil))) pe_int))
    (pss_cons (ps_if (pt_cmpR op_eq (pe_op op_mod (pe_op op_fdiv (pe_call (E := E0) (ok_l_cell T) (hr.mono (by decide)) (by rfl) T.g_l_cell T.F_l_cell.kp T.b_l_cell .nil pass0 (pa_cons (pv 0) (pa_cons pe_int pa_nil))) pe_int) pe_int) pe_int (nomark _)) (pss_one (ps_set (i := 3) sc_law.nd rfl (by first | exact Or.inl rfl | exact Or.inr rfl) (pe_op op_mod (pe_op op_fdiv (pe_call (E := E0) (ok_l_cell T) (hr.mono (by decide)) (by rfl) T.g_l_cell T.F_l_cell.kp T.b_l_cell .nil pass0 (pa_cons (pv 0) (pa_cons pe_int pa_nil))) pe_int) pe_int))) pss_nil)
    (pss_cons (ps_if (pt_cmpR (op_neD (units64 hr)) (pe_lc (own := [("_law_k", 4)]) (g := gName 4) (tt := tYes) (te := (tMeth T.A.CF "heap" (sp_F_heap K T.A) [] E0 (tVar 1) tNil)) rfl sc_law.nd (pi_range1 (by rfl) T.z_range (pa_cons (pe_op op_add (pv 3) pe_int) pa_nil)) (blkOk_by (own := [("_law_k", 4)]) (N := N_law) (sc := defScope s_law) (by decide +kernel)) (fun _ _ _ _ _ => pg_name (i := 4) sc_law.nd rfl (Or.inl rfl)) (fun _ _ _ _ _ => pts_nil) (fun _ _ _ _ _ => (pe_meth0 (E := E0) (pv 1) T.ok.clF T.m_F_heap (ok_F_heap T) (hr.mono (by decide)) T.b_F_heap .nil pass0))) (pe_listRg rfl (by rfl) T.z_list (prg_1 (by rfl) T.z_range (pe_op op_add (pv 3) pe_int))) (nomark _)) (pss_one (ps_ret pe_bl)) pss_nil)
    (pss_cons (ps_set (i := 5) sc_law.nd rfl (by first | exact Or.inl rfl | exact Or.inr rfl) (pe_lst (pa_cons (pv 3) (pa_cons (pe_op op_add (pv 3) pe_int) pa_nil))))
    (pss_cons (ps_if (pt_cmpR op_eq (pe_op op_mod (pe_op op_fdiv (pv 2) pe_int) pe_int) pe_int (nomark _)) (pss_one (ps_set (i := 5) sc_law.nd rfl (by first | exact Or.inl rfl | exact Or.inr rfl) (pe_lst (pa_cons (pe_op op_add (pv 3) pe_int) (pa_cons (pv 3) pa_nil))))) pss_nil)
    (pss_cons (ps_for PassesOwn.never rfl (pi_range2 (by rfl) T.z_range (pa_cons pe_int (pa_cons (pe_callB (call_min2' rfl) (by rfl) T.z_min (by decide +kernel) (pa_cons pe_int (pa_cons (pe_callB call_len' (by rfl) T.z_len PySem.boot_len (pa_cons (pv 0) pa_nil)) pa_nil))) pa_nil))) (pg_name (i := 4) sc_law.nd rfl (by first | exact Or.inl rfl | exact Or.inr rfl)) (pss_cons (ps_set (i := 6) sc_law.nd rfl (by first | exact Or.inl rfl | exact Or.inr rfl) (pe_op op_mod (pe_ix ix_list (pv 0) (pv 4) (fun _ _ => rfl)) pe_int))
    (pss_one (ps_expr (pe_call (E := E0) (ok_l_done T) (hr.mono (by decide)) (by rfl) T.g_l_done T.F_l_done.kp T.b_l_done .nil pass0 (pa_cons (pv 1) (pa_cons (pe_ix ix_list (pv 5) (pv 6) (fun _ _ => rfl)) (pa_cons (pe_ix ix_list (pv 5) (pe_op op_sub pe_int (pv 6)) (fun _ _ => rfl)) (pa_cons (pe_op op_mod (pe_op op_fdiv (pe_ix ix_list (pv 0) (pv 4) (fun _ _ => rfl)) pe_int) pe_int) (pa_cons (pe_op op_fdiv (pe_ix ix_list (pv 0) (pv 4) (fun _ _ => rfl)) pe_int) (pa_cons (pv 4) pa_nil)))))))))))
    (pss_cons (ps_set (i := 7) sc_law.nd rfl (by first | exact Or.inl rfl | exact Or.inr rfl) (pe_lst (pa_cons (pe_meth (E := E0) (pv 1) T.ok.clF T.m_F_tree (ok_F_tree T) (hr.mono (by decide)) T.b_F_tree .nil passL (pa_cons (pe_ix ix_list (pv 5) pe_int (fun _ _ => rfl)) pa_nil)) (pa_cons (pe_meth (E := E0) (pv 1) T.ok.clF T.m_F_tree (ok_F_tree T) (hr.mono (by decide)) T.b_F_tree .nil passL (pa_cons (pe_ix ix_list (pv 5) pe_int (fun _ _ => rfl)) pa_nil)) pa_nil))))
    (pss_cons (ps_set (i := 8) sc_law.nd rfl (by first | exact Or.inl rfl | exact Or.inr rfl) pe_dnewK)
    (pss_cons (ps_expr (pe_call (E := E0) (ok_l_noted T) (hr.mono (by decide)) (by rfl) T.g_l_noted T.F_l_noted.kp T.b_l_noted .nil pass0 (pa_cons (pv 8) (pa_cons (pe_ix ix_list (pv 7) pe_int (fun _ _ => rfl)) pa_nil))))
    (pss_cons (ps_expr (pe_call (E := E0) (ok_l_noted T) (hr.mono (by decide)) (by rfl) T.g_l_noted T.F_l_noted.kp T.b_l_noted .nil pass0 (pa_cons (pv 8) (pa_cons (pe_ix ix_list (pv 7) pe_int (fun _ _ => rfl)) pa_nil))))
    (pss_cons (ps_set (i := 9) sc_law.nd rfl (by first | exact Or.inl rfl | exact Or.inr rfl) (pe_call (E := E0) (ok_l_due T) (hr.mono (by decide)) (by rfl) T.g_l_due T.F_l_due.kp T.b_l_due .nil pass0 (pa_cons (pv 1) (pa_cons (pv 5) (pa_cons (pv 8) (pa_cons (pv 7) (pa_cons (pv 2) (pa_cons (pe_call (E := E0) (ok_l_cell T) (hr.mono (by decide)) (by rfl) T.g_l_cell T.F_l_cell.kp T.b_l_cell .nil pass0 (pa_cons (pv 0) (pa_cons pe_int pa_nil))) pa_nil))))))))
    (pss_cons (ps_if (PW.pt (pw_or (pt_cmpR op_ne (pe_meth0 (E := E0) (pv 1) T.ok.clF T.m_F_work (ok_F_work T) (hr.mono (by decide)) T.b_F_work .nil pass0) (pe_ix ix_tup (pv 9) pe_int (fun _ _ => rfl)) (nomark _)) (pw_or1 (pt_cmpR (op_neD (units64 hr)) (pe_meth (E := E0) (pv 1) T.ok.clF T.m_F_tree (ok_F_tree T) (hr.mono (by decide)) T.b_F_tree .nil passL (pa_cons (pe_ix ix_list (pv 5) pe_int (fun _ _ => rfl)) pa_nil)) (pe_call (E := E0) (ok_l_told T) (hr.mono (by decide)) (by rfl) T.g_l_told T.F_l_told.kp T.b_l_told .nil pass0 (pa_cons (pv 8) (pa_cons (pe_ix ix_tup (pv 9) pe_int (fun _ _ => rfl)) pa_nil))) (nomark _))))) (pss_one (ps_ret pe_bl)) pss_nil)
    (pss_cons (ps_if (PW.pt (pw_or (pt_cmpR op_eq (pe_op op_mod (pv 2) pe_int) pe_int (nomark _)) (pw_or1 (PW.pt (pw_and (pt_cmpR (op_eqD (units64 hr)) (pe_ix ix_list (pv 7) pe_int (fun _ _ => rfl)) (pe_lst pa_nil) (nomark _)) (pw_and1 (pt_cmpR op_ne (pe_op op_mod (pv 2) pe_int) pe_int (nomark _)))))))) (pss_one (ps_ret (pe_cmpR (op_eqD (units64 hr)) (pe_meth (E := E0) (pv 1) T.ok.clF T.m_F_tree (ok_F_tree T) (hr.mono (by decide)) T.b_F_tree .nil passL (pa_cons (pe_ix ix_list (pv 5) pe_int (fun _ _ => rfl)) pa_nil)) (pe_lst pa_nil) (nomark _)))) pss_nil)
    (pss_one (ps_ret (pe_cmpR (op_eqD (units64 hr)) (pe_meth (E := E0) (pv 1) T.ok.clF T.m_F_tree (ok_F_tree T) (hr.mono (by decide)) T.b_F_tree .nil passL (pa_cons (pe_ix ix_list (pv 5) pe_int (fun _ _ => rfl)) pa_nil)) (pe_ix ix_list (pv 7) pe_int (fun _ _ => rfl)) (nomark _)))))))))))))))))))
end
theorem all_mk {P : Program} {w : World} {K : PySem.W.Frag} {h : Heap} {mg : Str → Option Value} {fa : Addr} (X : K.In h) (G : h.Ns mainGlobals mg) (hfa : mg "law" = some (.ref fa))
    {CF CT : Addr}
    (aCF : PySem.W.nsIn K mainGlobals "Field" = some (some (.ref CF)))
    (pgCF : PySem.W.plainGet K CF Str.empty = true)
    (hdCF : PySem.W.hasDictIn K CF = true)
    (poCF : PySem.W.plainOver K CF = true)
    (saCF : PySem.W.findIn K (.ref CF) "__setattr__" = some (some (.builtin "object.__setattr__")))
    (mkCF : PySem.W.makesIn K CF = true)
    (kcCF : PySem.W.keepIn K (.ref CF) = true)
    (nCFtrees : PySem.W.findIn K (.ref CF) "trees" = some none)
    (nCFtops : PySem.W.findIn K (.ref CF) "tops" = some none)
    (nCFsizes : PySem.W.findIn K (.ref CF) "sizes" = some none)
    (nCFhomes : PySem.W.findIn K (.ref CF) "homes" = some none)
    (nCFgone : PySem.W.findIn K (.ref CF) "gone" = some none)
    (nCFspent : PySem.W.findIn K (.ref CF) "spent" = some none)
    (aCT : PySem.W.nsIn K mainGlobals "Trees" = some (some (.ref CT)))
    (pgCT : PySem.W.plainGet K CT Str.empty = true)
    (hdCT : PySem.W.hasDictIn K CT = true)
    (poCT : PySem.W.plainOver K CT = true)
    (saCT : PySem.W.findIn K (.ref CT) "__setattr__" = some (some (.builtin "object.__setattr__")))
    (mkCT : PySem.W.makesIn K CT = true)
    (kcCT : PySem.W.keepIn K (.ref CT) = true)
    (nCTweights : PySem.W.findIn K (.ref CT) "weights" = some none)
    (nCTlefts : PySem.W.findIn K (.ref CT) "lefts" = some none)
    (nCTrights : PySem.W.findIn K (.ref CT) "rights" = some none)
    (nCTuppers : PySem.W.findIn K (.ref CT) "uppers" = some none)
    (nCTruns : PySem.W.findIn K (.ref CT) "runs" = some none)
    {xNH : Addr}
    (axNH : PySem.W.nsIn K mainGlobals "NoHeap" = some (some (.ref xNH)))
    (xxNH : PySem.W.excIn K xNH [.type "ValueError", .type "Exception", .type "BaseException", .type "object"] "ValueError.__new__" = true)
    (kxNH : PySem.W.keepIn K (.ref xNH) = true)
    (exNH : PySem.W.subIn K (.ref xNH) (.type "BaseException") = some true)
    (txNH : PySem.W.typeIn K (.ref xNH) = some (.type "type"))
    (ixNH : PySem.W.isClsIn K xNH = true)
    {xNT : Addr}
    (axNT : PySem.W.nsIn K mainGlobals "NoThing" = some (some (.ref xNT)))
    (xxNT : PySem.W.excIn K xNT [.type "ValueError", .type "Exception", .type "BaseException", .type "object"] "ValueError.__new__" = true)
    (kxNT : PySem.W.keepIn K (.ref xNT) = true)
    (exNT : PySem.W.subIn K (.ref xNT) (.type "BaseException") = some true)
    (txNT : PySem.W.typeIn K (.ref xNT) = some (.type "type"))
    (ixNT : PySem.W.isClsIn K xNT = true)
    {xBA : Addr}
    (axBA : PySem.W.nsIn K mainGlobals "Bare" = some (some (.ref xBA)))
    (xxBA : PySem.W.excIn K xBA [.type "ValueError", .type "Exception", .type "BaseException", .type "object"] "ValueError.__new__" = true)
    (kxBA : PySem.W.keepIn K (.ref xBA) = true)
    (exBA : PySem.W.subIn K (.ref xBA) (.type "BaseException") = some true)
    (txBA : PySem.W.typeIn K (.ref xBA) = some (.type "type"))
    (ixBA : PySem.W.isClsIn K xBA = true)
    {xSA : Addr}
    (axSA : PySem.W.nsIn K mainGlobals "Same" = some (some (.ref xSA)))
    (xxSA : PySem.W.excIn K xSA [.type "ValueError", .type "Exception", .type "BaseException", .type "object"] "ValueError.__new__" = true)
    (kxSA : PySem.W.keepIn K (.ref xSA) = true)
    (exSA : PySem.W.subIn K (.ref xSA) (.type "BaseException") = some true)
    (txSA : PySem.W.typeIn K (.ref xSA) = some (.type "type"))
    (ixSA : PySem.W.isClsIn K xSA = true)
    {xHV : Addr}
    (axHV : PySem.W.nsIn K mainGlobals "Heavier" = some (some (.ref xHV)))
    (xxHV : PySem.W.excIn K xHV [.type "ValueError", .type "Exception", .type "BaseException", .type "object"] "ValueError.__new__" = true)
    (kxHV : PySem.W.keepIn K (.ref xHV) = true)
    (exHV : PySem.W.subIn K (.ref xHV) (.type "BaseException") = some true)
    (txHV : PySem.W.typeIn K (.ref xHV) = some (.type "type"))
    (ixHV : PySem.W.isClsIn K xHV = true)
    {f_T_init : Addr} {od_T_init an_T_init : Option Addr} {sl_T_init : Array (Option Value)} {oc_T_init kV_T_init dc_T_init pm_T_init cd_T_init ct_T_init : Value}
    (a_T_init : PySem.W.findIn K (.ref CT) "__init__" = some (some (.ref f_T_init)))
    (i_T_init : PySem.W.isFn K (.ref f_T_init) = true)
    (l_T_init : K.lookup f_T_init = some ⟨oc_T_init, od_T_init, .func (PySem.W.fnOf "__init__" "Trees.__init__" (defArgs s_T_init) (defBody s_T_init) (defScope s_T_init) .none kV_T_init dc_T_init pm_T_init an_T_init cd_T_init ct_T_init), sl_T_init⟩)
    (c_T_init : PySem.W.codeIn K cd_T_init "Trees.__init__" = true)
    (k_T_init : PySem.W.keepIn K (.ref f_T_init) = true)
    {f_T_grown : Addr} {od_T_grown an_T_grown : Option Addr} {sl_T_grown : Array (Option Value)} {oc_T_grown kV_T_grown dc_T_grown pm_T_grown cd_T_grown ct_T_grown : Value}
    (a_T_grown : PySem.W.findIn K (.ref CT) "grown" = some (some (.ref f_T_grown)))
    (i_T_grown : PySem.W.isFn K (.ref f_T_grown) = true)
    (l_T_grown : K.lookup f_T_grown = some ⟨oc_T_grown, od_T_grown, .func (PySem.W.fnOf "grown" "Trees.grown" (defArgs s_T_grown) (defBody s_T_grown) (defScope s_T_grown) .none kV_T_grown dc_T_grown pm_T_grown an_T_grown cd_T_grown ct_T_grown), sl_T_grown⟩)
    (c_T_grown : PySem.W.codeIn K cd_T_grown "Trees.grown" = true)
    (k_T_grown : PySem.W.keepIn K (.ref f_T_grown) = true)
    {f_T_is_lesser : Addr} {od_T_is_lesser an_T_is_lesser : Option Addr} {sl_T_is_lesser : Array (Option Value)} {oc_T_is_lesser kV_T_is_lesser dc_T_is_lesser pm_T_is_lesser cd_T_is_lesser ct_T_is_lesser : Value}
    (a_T_is_lesser : PySem.W.findIn K (.ref CT) "is_lesser" = some (some (.ref f_T_is_lesser)))
    (i_T_is_lesser : PySem.W.isFn K (.ref f_T_is_lesser) = true)
    (l_T_is_lesser : K.lookup f_T_is_lesser = some ⟨oc_T_is_lesser, od_T_is_lesser, .func (PySem.W.fnOf "is_lesser" "Trees.is_lesser" (defArgs s_T_is_lesser) (defBody s_T_is_lesser) (defScope s_T_is_lesser) .none kV_T_is_lesser dc_T_is_lesser pm_T_is_lesser an_T_is_lesser cd_T_is_lesser ct_T_is_lesser), sl_T_is_lesser⟩)
    (c_T_is_lesser : PySem.W.codeIn K cd_T_is_lesser "Trees.is_lesser" = true)
    (k_T_is_lesser : PySem.W.keepIn K (.ref f_T_is_lesser) = true)
    {f_T_run_of : Addr} {od_T_run_of an_T_run_of : Option Addr} {sl_T_run_of : Array (Option Value)} {oc_T_run_of kV_T_run_of dc_T_run_of pm_T_run_of cd_T_run_of ct_T_run_of : Value}
    (a_T_run_of : PySem.W.findIn K (.ref CT) "run_of" = some (some (.ref f_T_run_of)))
    (i_T_run_of : PySem.W.isFn K (.ref f_T_run_of) = true)
    (l_T_run_of : K.lookup f_T_run_of = some ⟨oc_T_run_of, od_T_run_of, .func (PySem.W.fnOf "run_of" "Trees.run_of" (defArgs s_T_run_of) (defBody s_T_run_of) (defScope s_T_run_of) .none kV_T_run_of dc_T_run_of pm_T_run_of an_T_run_of cd_T_run_of ct_T_run_of), sl_T_run_of⟩)
    (c_T_run_of : PySem.W.codeIn K cd_T_run_of "Trees.run_of" = true)
    (k_T_run_of : PySem.W.keepIn K (.ref f_T_run_of) = true)
    {f_T_sided : Addr} {od_T_sided an_T_sided : Option Addr} {sl_T_sided : Array (Option Value)} {oc_T_sided kV_T_sided dc_T_sided pm_T_sided cd_T_sided ct_T_sided : Value}
    (a_T_sided : PySem.W.findIn K (.ref CT) "sided" = some (some (.ref f_T_sided)))
    (i_T_sided : PySem.W.isFn K (.ref f_T_sided) = true)
    (l_T_sided : K.lookup f_T_sided = some ⟨oc_T_sided, od_T_sided, .func (PySem.W.fnOf "sided" "Trees.sided" (defArgs s_T_sided) (defBody s_T_sided) (defScope s_T_sided) .none kV_T_sided dc_T_sided pm_T_sided an_T_sided cd_T_sided ct_T_sided), sl_T_sided⟩)
    (c_T_sided : PySem.W.codeIn K cd_T_sided "Trees.sided" = true)
    (k_T_sided : PySem.W.keepIn K (.ref f_T_sided) = true)
    {f_T_joined : Addr} {od_T_joined an_T_joined : Option Addr} {sl_T_joined : Array (Option Value)} {oc_T_joined kV_T_joined dc_T_joined pm_T_joined cd_T_joined ct_T_joined : Value}
    (a_T_joined : PySem.W.findIn K (.ref CT) "joined" = some (some (.ref f_T_joined)))
    (i_T_joined : PySem.W.isFn K (.ref f_T_joined) = true)
    (l_T_joined : K.lookup f_T_joined = some ⟨oc_T_joined, od_T_joined, .func (PySem.W.fnOf "joined" "Trees.joined" (defArgs s_T_joined) (defBody s_T_joined) (defScope s_T_joined) .none kV_T_joined dc_T_joined pm_T_joined an_T_joined cd_T_joined ct_T_joined), sl_T_joined⟩)
    (c_T_joined : PySem.W.codeIn K cd_T_joined "Trees.joined" = true)
    (k_T_joined : PySem.W.keepIn K (.ref f_T_joined) = true)
    {f_T_parted : Addr} {od_T_parted an_T_parted : Option Addr} {sl_T_parted : Array (Option Value)} {oc_T_parted kV_T_parted dc_T_parted pm_T_parted cd_T_parted ct_T_parted : Value}
    (a_T_parted : PySem.W.findIn K (.ref CT) "parted" = some (some (.ref f_T_parted)))
    (i_T_parted : PySem.W.isFn K (.ref f_T_parted) = true)
    (l_T_parted : K.lookup f_T_parted = some ⟨oc_T_parted, od_T_parted, .func (PySem.W.fnOf "parted" "Trees.parted" (defArgs s_T_parted) (defBody s_T_parted) (defScope s_T_parted) .none kV_T_parted dc_T_parted pm_T_parted an_T_parted cd_T_parted ct_T_parted), sl_T_parted⟩)
    (c_T_parted : PySem.W.codeIn K cd_T_parted "Trees.parted" = true)
    (k_T_parted : PySem.W.keepIn K (.ref f_T_parted) = true)
    {f_T_released : Addr} {od_T_released an_T_released : Option Addr} {sl_T_released : Array (Option Value)} {oc_T_released kV_T_released dc_T_released pm_T_released cd_T_released ct_T_released : Value}
    (a_T_released : PySem.W.findIn K (.ref CT) "released" = some (some (.ref f_T_released)))
    (i_T_released : PySem.W.isFn K (.ref f_T_released) = true)
    (l_T_released : K.lookup f_T_released = some ⟨oc_T_released, od_T_released, .func (PySem.W.fnOf "released" "Trees.released" (defArgs s_T_released) (defBody s_T_released) (defScope s_T_released) .none kV_T_released dc_T_released pm_T_released an_T_released cd_T_released ct_T_released), sl_T_released⟩)
    (c_T_released : PySem.W.codeIn K cd_T_released "Trees.released" = true)
    (k_T_released : PySem.W.keepIn K (.ref f_T_released) = true)
    {f_T_top_of : Addr} {od_T_top_of an_T_top_of : Option Addr} {sl_T_top_of : Array (Option Value)} {oc_T_top_of kV_T_top_of dc_T_top_of pm_T_top_of cd_T_top_of ct_T_top_of : Value}
    (a_T_top_of : PySem.W.findIn K (.ref CT) "top_of" = some (some (.ref f_T_top_of)))
    (i_T_top_of : PySem.W.isFn K (.ref f_T_top_of) = true)
    (l_T_top_of : K.lookup f_T_top_of = some ⟨oc_T_top_of, od_T_top_of, .func (PySem.W.fnOf "top_of" "Trees.top_of" (defArgs s_T_top_of) (defBody s_T_top_of) (defScope s_T_top_of) .none kV_T_top_of dc_T_top_of pm_T_top_of an_T_top_of cd_T_top_of ct_T_top_of), sl_T_top_of⟩)
    (c_T_top_of : PySem.W.codeIn K cd_T_top_of "Trees.top_of" = true)
    (k_T_top_of : PySem.W.keepIn K (.ref f_T_top_of) = true)
    {f_T_told : Addr} {od_T_told an_T_told : Option Addr} {sl_T_told : Array (Option Value)} {oc_T_told kV_T_told dc_T_told pm_T_told cd_T_told ct_T_told : Value}
    (a_T_told : PySem.W.findIn K (.ref CT) "told" = some (some (.ref f_T_told)))
    (i_T_told : PySem.W.isFn K (.ref f_T_told) = true)
    (l_T_told : K.lookup f_T_told = some ⟨oc_T_told, od_T_told, .func (PySem.W.fnOf "told" "Trees.told" (defArgs s_T_told) (defBody s_T_told) (defScope s_T_told) .none kV_T_told dc_T_told pm_T_told an_T_told cd_T_told ct_T_told), sl_T_told⟩)
    (c_T_told : PySem.W.codeIn K cd_T_told "Trees.told" = true)
    (k_T_told : PySem.W.keepIn K (.ref f_T_told) = true)
    {f_F_init : Addr} {od_F_init an_F_init : Option Addr} {sl_F_init : Array (Option Value)} {oc_F_init kV_F_init dc_F_init pm_F_init cd_F_init ct_F_init : Value}
    (a_F_init : PySem.W.findIn K (.ref CF) "__init__" = some (some (.ref f_F_init)))
    (i_F_init : PySem.W.isFn K (.ref f_F_init) = true)
    (l_F_init : K.lookup f_F_init = some ⟨oc_F_init, od_F_init, .func (PySem.W.fnOf "__init__" "Field.__init__" (defArgs s_F_init) (defBody s_F_init) (defScope s_F_init) .none kV_F_init dc_F_init pm_F_init an_F_init cd_F_init ct_F_init), sl_F_init⟩)
    (c_F_init : PySem.W.codeIn K cd_F_init "Field.__init__" = true)
    (k_F_init : PySem.W.keepIn K (.ref f_F_init) = true)
    {f_F_need_heap : Addr} {od_F_need_heap an_F_need_heap : Option Addr} {sl_F_need_heap : Array (Option Value)} {oc_F_need_heap kV_F_need_heap dc_F_need_heap pm_F_need_heap cd_F_need_heap ct_F_need_heap : Value}
    (a_F_need_heap : PySem.W.findIn K (.ref CF) "need_heap" = some (some (.ref f_F_need_heap)))
    (i_F_need_heap : PySem.W.isFn K (.ref f_F_need_heap) = true)
    (l_F_need_heap : K.lookup f_F_need_heap = some ⟨oc_F_need_heap, od_F_need_heap, .func (PySem.W.fnOf "need_heap" "Field.need_heap" (defArgs s_F_need_heap) (defBody s_F_need_heap) (defScope s_F_need_heap) .none kV_F_need_heap dc_F_need_heap pm_F_need_heap an_F_need_heap cd_F_need_heap ct_F_need_heap), sl_F_need_heap⟩)
    (c_F_need_heap : PySem.W.codeIn K cd_F_need_heap "Field.need_heap" = true)
    (k_F_need_heap : PySem.W.keepIn K (.ref f_F_need_heap) = true)
    {f_F_need_thing : Addr} {od_F_need_thing an_F_need_thing : Option Addr} {sl_F_need_thing : Array (Option Value)} {oc_F_need_thing kV_F_need_thing dc_F_need_thing pm_F_need_thing cd_F_need_thing ct_F_need_thing : Value}
    (a_F_need_thing : PySem.W.findIn K (.ref CF) "need_thing" = some (some (.ref f_F_need_thing)))
    (i_F_need_thing : PySem.W.isFn K (.ref f_F_need_thing) = true)
    (l_F_need_thing : K.lookup f_F_need_thing = some ⟨oc_F_need_thing, od_F_need_thing, .func (PySem.W.fnOf "need_thing" "Field.need_thing" (defArgs s_F_need_thing) (defBody s_F_need_thing) (defScope s_F_need_thing) .none kV_F_need_thing dc_F_need_thing pm_F_need_thing an_F_need_thing cd_F_need_thing ct_F_need_thing), sl_F_need_thing⟩)
    (c_F_need_thing : PySem.W.codeIn K cd_F_need_thing "Field.need_thing" = true)
    (k_F_need_thing : PySem.W.keepIn K (.ref f_F_need_thing) = true)
    {f_F_laid : Addr} {od_F_laid an_F_laid : Option Addr} {sl_F_laid : Array (Option Value)} {oc_F_laid kV_F_laid dc_F_laid pm_F_laid cd_F_laid ct_F_laid : Value}
    (a_F_laid : PySem.W.findIn K (.ref CF) "laid" = some (some (.ref f_F_laid)))
    (i_F_laid : PySem.W.isFn K (.ref f_F_laid) = true)
    (l_F_laid : K.lookup f_F_laid = some ⟨oc_F_laid, od_F_laid, .func (PySem.W.fnOf "laid" "Field.laid" (defArgs s_F_laid) (defBody s_F_laid) (defScope s_F_laid) .none kV_F_laid dc_F_laid pm_F_laid an_F_laid cd_F_laid ct_F_laid), sl_F_laid⟩)
    (c_F_laid : PySem.W.codeIn K cd_F_laid "Field.laid" = true)
    (k_F_laid : PySem.W.keepIn K (.ref f_F_laid) = true)
    {f_F_heap : Addr} {od_F_heap an_F_heap : Option Addr} {sl_F_heap : Array (Option Value)} {oc_F_heap kV_F_heap dc_F_heap pm_F_heap cd_F_heap ct_F_heap : Value}
    (a_F_heap : PySem.W.findIn K (.ref CF) "heap" = some (some (.ref f_F_heap)))
    (i_F_heap : PySem.W.isFn K (.ref f_F_heap) = true)
    (l_F_heap : K.lookup f_F_heap = some ⟨oc_F_heap, od_F_heap, .func (PySem.W.fnOf "heap" "Field.heap" (defArgs s_F_heap) (defBody s_F_heap) (defScope s_F_heap) .none kV_F_heap dc_F_heap pm_F_heap an_F_heap cd_F_heap ct_F_heap), sl_F_heap⟩)
    (c_F_heap : PySem.W.codeIn K cd_F_heap "Field.heap" = true)
    (k_F_heap : PySem.W.keepIn K (.ref f_F_heap) = true)
    {f_F_put : Addr} {od_F_put an_F_put : Option Addr} {sl_F_put : Array (Option Value)} {oc_F_put kV_F_put dc_F_put pm_F_put cd_F_put ct_F_put : Value}
    (a_F_put : PySem.W.findIn K (.ref CF) "put" = some (some (.ref f_F_put)))
    (i_F_put : PySem.W.isFn K (.ref f_F_put) = true)
    (l_F_put : K.lookup f_F_put = some ⟨oc_F_put, od_F_put, .func (PySem.W.fnOf "put" "Field.put" (defArgs s_F_put) (defBody s_F_put) (defScope s_F_put) .none kV_F_put dc_F_put pm_F_put an_F_put cd_F_put ct_F_put), sl_F_put⟩)
    (c_F_put : PySem.W.codeIn K cd_F_put "Field.put" = true)
    (k_F_put : PySem.W.keepIn K (.ref f_F_put) = true)
    {f_F_least : Addr} {od_F_least an_F_least : Option Addr} {sl_F_least : Array (Option Value)} {oc_F_least kV_F_least dc_F_least pm_F_least cd_F_least ct_F_least : Value}
    (a_F_least : PySem.W.findIn K (.ref CF) "least" = some (some (.ref f_F_least)))
    (i_F_least : PySem.W.isFn K (.ref f_F_least) = true)
    (l_F_least : K.lookup f_F_least = some ⟨oc_F_least, od_F_least, .func (PySem.W.fnOf "least" "Field.least" (defArgs s_F_least) (defBody s_F_least) (defScope s_F_least) .none kV_F_least dc_F_least pm_F_least an_F_least cd_F_least ct_F_least), sl_F_least⟩)
    (c_F_least : PySem.W.codeIn K cd_F_least "Field.least" = true)
    (k_F_least : PySem.W.keepIn K (.ref f_F_least) = true)
    {f_F_take : Addr} {od_F_take an_F_take : Option Addr} {sl_F_take : Array (Option Value)} {oc_F_take kV_F_take dc_F_take pm_F_take cd_F_take ct_F_take : Value}
    (a_F_take : PySem.W.findIn K (.ref CF) "take" = some (some (.ref f_F_take)))
    (i_F_take : PySem.W.isFn K (.ref f_F_take) = true)
    (l_F_take : K.lookup f_F_take = some ⟨oc_F_take, od_F_take, .func (PySem.W.fnOf "take" "Field.take" (defArgs s_F_take) (defBody s_F_take) (defScope s_F_take) .none kV_F_take dc_F_take pm_F_take an_F_take cd_F_take ct_F_take), sl_F_take⟩)
    (c_F_take : PySem.W.codeIn K cd_F_take "Field.take" = true)
    (k_F_take : PySem.W.keepIn K (.ref f_F_take) = true)
    {f_F_pour : Addr} {od_F_pour an_F_pour : Option Addr} {sl_F_pour : Array (Option Value)} {oc_F_pour kV_F_pour dc_F_pour pm_F_pour cd_F_pour ct_F_pour : Value}
    (a_F_pour : PySem.W.findIn K (.ref CF) "pour" = some (some (.ref f_F_pour)))
    (i_F_pour : PySem.W.isFn K (.ref f_F_pour) = true)
    (l_F_pour : K.lookup f_F_pour = some ⟨oc_F_pour, od_F_pour, .func (PySem.W.fnOf "pour" "Field.pour" (defArgs s_F_pour) (defBody s_F_pour) (defScope s_F_pour) .none kV_F_pour dc_F_pour pm_F_pour an_F_pour cd_F_pour ct_F_pour), sl_F_pour⟩)
    (c_F_pour : PySem.W.codeIn K cd_F_pour "Field.pour" = true)
    (k_F_pour : PySem.W.keepIn K (.ref f_F_pour) = true)
    {f_F_sink : Addr} {od_F_sink an_F_sink : Option Addr} {sl_F_sink : Array (Option Value)} {oc_F_sink kV_F_sink dc_F_sink pm_F_sink cd_F_sink ct_F_sink : Value}
    (a_F_sink : PySem.W.findIn K (.ref CF) "sink" = some (some (.ref f_F_sink)))
    (i_F_sink : PySem.W.isFn K (.ref f_F_sink) = true)
    (l_F_sink : K.lookup f_F_sink = some ⟨oc_F_sink, od_F_sink, .func (PySem.W.fnOf "sink" "Field.sink" (defArgs s_F_sink) (defBody s_F_sink) (defScope s_F_sink) .none kV_F_sink dc_F_sink pm_F_sink an_F_sink cd_F_sink ct_F_sink), sl_F_sink⟩)
    (c_F_sink : PySem.W.codeIn K cd_F_sink "Field.sink" = true)
    (k_F_sink : PySem.W.keepIn K (.ref f_F_sink) = true)
    {f_F_heap_of : Addr} {od_F_heap_of an_F_heap_of : Option Addr} {sl_F_heap_of : Array (Option Value)} {oc_F_heap_of kV_F_heap_of dc_F_heap_of pm_F_heap_of cd_F_heap_of ct_F_heap_of : Value}
    (a_F_heap_of : PySem.W.findIn K (.ref CF) "heap_of" = some (some (.ref f_F_heap_of)))
    (i_F_heap_of : PySem.W.isFn K (.ref f_F_heap_of) = true)
    (l_F_heap_of : K.lookup f_F_heap_of = some ⟨oc_F_heap_of, od_F_heap_of, .func (PySem.W.fnOf "heap_of" "Field.heap_of" (defArgs s_F_heap_of) (defBody s_F_heap_of) (defScope s_F_heap_of) .none kV_F_heap_of dc_F_heap_of pm_F_heap_of an_F_heap_of cd_F_heap_of ct_F_heap_of), sl_F_heap_of⟩)
    (c_F_heap_of : PySem.W.codeIn K cd_F_heap_of "Field.heap_of" = true)
    (k_F_heap_of : PySem.W.keepIn K (.ref f_F_heap_of) = true)
    {f_F_things : Addr} {od_F_things an_F_things : Option Addr} {sl_F_things : Array (Option Value)} {oc_F_things kV_F_things dc_F_things pm_F_things cd_F_things ct_F_things : Value}
    (a_F_things : PySem.W.findIn K (.ref CF) "things" = some (some (.ref f_F_things)))
    (i_F_things : PySem.W.isFn K (.ref f_F_things) = true)
    (l_F_things : K.lookup f_F_things = some ⟨oc_F_things, od_F_things, .func (PySem.W.fnOf "things" "Field.things" (defArgs s_F_things) (defBody s_F_things) (defScope s_F_things) .none kV_F_things dc_F_things pm_F_things an_F_things cd_F_things ct_F_things), sl_F_things⟩)
    (c_F_things : PySem.W.codeIn K cd_F_things "Field.things" = true)
    (k_F_things : PySem.W.keepIn K (.ref f_F_things) = true)
    {f_F_tree : Addr} {od_F_tree an_F_tree : Option Addr} {sl_F_tree : Array (Option Value)} {oc_F_tree kV_F_tree dc_F_tree pm_F_tree cd_F_tree ct_F_tree : Value}
    (a_F_tree : PySem.W.findIn K (.ref CF) "tree" = some (some (.ref f_F_tree)))
    (i_F_tree : PySem.W.isFn K (.ref f_F_tree) = true)
    (l_F_tree : K.lookup f_F_tree = some ⟨oc_F_tree, od_F_tree, .func (PySem.W.fnOf "tree" "Field.tree" (defArgs s_F_tree) (defBody s_F_tree) (defScope s_F_tree) .none kV_F_tree dc_F_tree pm_F_tree an_F_tree cd_F_tree ct_F_tree), sl_F_tree⟩)
    (c_F_tree : PySem.W.codeIn K cd_F_tree "Field.tree" = true)
    (k_F_tree : PySem.W.keepIn K (.ref f_F_tree) = true)
    {f_F_work : Addr} {od_F_work an_F_work : Option Addr} {sl_F_work : Array (Option Value)} {oc_F_work kV_F_work dc_F_work pm_F_work cd_F_work ct_F_work : Value}
    (a_F_work : PySem.W.findIn K (.ref CF) "work" = some (some (.ref f_F_work)))
    (i_F_work : PySem.W.isFn K (.ref f_F_work) = true)
    (l_F_work : K.lookup f_F_work = some ⟨oc_F_work, od_F_work, .func (PySem.W.fnOf "work" "Field.work" (defArgs s_F_work) (defBody s_F_work) (defScope s_F_work) .none kV_F_work dc_F_work pm_F_work an_F_work cd_F_work ct_F_work), sl_F_work⟩)
    (c_F_work : PySem.W.codeIn K cd_F_work "Field.work" = true)
    (k_F_work : PySem.W.keepIn K (.ref f_F_work) = true)
    {f_l_cell : Addr} {od_l_cell an_l_cell : Option Addr} {sl_l_cell : Array (Option Value)} {oc_l_cell kV_l_cell dc_l_cell pm_l_cell cd_l_cell ct_l_cell : Value}
    (a_l_cell : PySem.W.nsIn K mainGlobals "_law_cell" = some (some (.ref f_l_cell)))
    (l_l_cell : K.lookup f_l_cell = some ⟨oc_l_cell, od_l_cell, .func (PySem.W.fnOf "_law_cell" "_law_cell" (defArgs s_l_cell) (defBody s_l_cell) (defScope s_l_cell) .none kV_l_cell dc_l_cell pm_l_cell an_l_cell cd_l_cell ct_l_cell), sl_l_cell⟩)
    (c_l_cell : PySem.W.codeIn K cd_l_cell "_law_cell" = true)
    (k_l_cell : PySem.W.keepIn K (.ref f_l_cell) = true)
    {f_l_weight : Addr} {od_l_weight an_l_weight : Option Addr} {sl_l_weight : Array (Option Value)} {oc_l_weight kV_l_weight dc_l_weight pm_l_weight cd_l_weight ct_l_weight : Value}
    (a_l_weight : PySem.W.nsIn K mainGlobals "_law_weight" = some (some (.ref f_l_weight)))
    (l_l_weight : K.lookup f_l_weight = some ⟨oc_l_weight, od_l_weight, .func (PySem.W.fnOf "_law_weight" "_law_weight" (defArgs s_l_weight) (defBody s_l_weight) (defScope s_l_weight) .none kV_l_weight dc_l_weight pm_l_weight an_l_weight cd_l_weight ct_l_weight), sl_l_weight⟩)
    (c_l_weight : PySem.W.codeIn K cd_l_weight "_law_weight" = true)
    (k_l_weight : PySem.W.keepIn K (.ref f_l_weight) = true)
    {f_l_noted : Addr} {od_l_noted an_l_noted : Option Addr} {sl_l_noted : Array (Option Value)} {oc_l_noted kV_l_noted dc_l_noted pm_l_noted cd_l_noted ct_l_noted : Value}
    (a_l_noted : PySem.W.nsIn K mainGlobals "_law_noted" = some (some (.ref f_l_noted)))
    (l_l_noted : K.lookup f_l_noted = some ⟨oc_l_noted, od_l_noted, .func (PySem.W.fnOf "_law_noted" "_law_noted" (defArgs s_l_noted) (defBody s_l_noted) (defScope s_l_noted) .none kV_l_noted dc_l_noted pm_l_noted an_l_noted cd_l_noted ct_l_noted), sl_l_noted⟩)
    (c_l_noted : PySem.W.codeIn K cd_l_noted "_law_noted" = true)
    (k_l_noted : PySem.W.keepIn K (.ref f_l_noted) = true)
    {f_l_run : Addr} {od_l_run an_l_run : Option Addr} {sl_l_run : Array (Option Value)} {oc_l_run kV_l_run dc_l_run pm_l_run cd_l_run ct_l_run : Value}
    (a_l_run : PySem.W.nsIn K mainGlobals "_law_run" = some (some (.ref f_l_run)))
    (l_l_run : K.lookup f_l_run = some ⟨oc_l_run, od_l_run, .func (PySem.W.fnOf "_law_run" "_law_run" (defArgs s_l_run) (defBody s_l_run) (defScope s_l_run) .none kV_l_run dc_l_run pm_l_run an_l_run cd_l_run ct_l_run), sl_l_run⟩)
    (c_l_run : PySem.W.codeIn K cd_l_run "_law_run" = true)
    (k_l_run : PySem.W.keepIn K (.ref f_l_run) = true)
    {f_l_sided : Addr} {od_l_sided an_l_sided : Option Addr} {sl_l_sided : Array (Option Value)} {oc_l_sided kV_l_sided dc_l_sided pm_l_sided cd_l_sided ct_l_sided : Value}
    (a_l_sided : PySem.W.nsIn K mainGlobals "_law_sided" = some (some (.ref f_l_sided)))
    (l_l_sided : K.lookup f_l_sided = some ⟨oc_l_sided, od_l_sided, .func (PySem.W.fnOf "_law_sided" "_law_sided" (defArgs s_l_sided) (defBody s_l_sided) (defScope s_l_sided) .none kV_l_sided dc_l_sided pm_l_sided an_l_sided cd_l_sided ct_l_sided), sl_l_sided⟩)
    (c_l_sided : PySem.W.codeIn K cd_l_sided "_law_sided" = true)
    (k_l_sided : PySem.W.keepIn K (.ref f_l_sided) = true)
    {f_l_joined : Addr} {od_l_joined an_l_joined : Option Addr} {sl_l_joined : Array (Option Value)} {oc_l_joined kV_l_joined dc_l_joined pm_l_joined cd_l_joined ct_l_joined : Value}
    (a_l_joined : PySem.W.nsIn K mainGlobals "_law_joined" = some (some (.ref f_l_joined)))
    (l_l_joined : K.lookup f_l_joined = some ⟨oc_l_joined, od_l_joined, .func (PySem.W.fnOf "_law_joined" "_law_joined" (defArgs s_l_joined) (defBody s_l_joined) (defScope s_l_joined) .none kV_l_joined dc_l_joined pm_l_joined an_l_joined cd_l_joined ct_l_joined), sl_l_joined⟩)
    (c_l_joined : PySem.W.codeIn K cd_l_joined "_law_joined" = true)
    (k_l_joined : PySem.W.keepIn K (.ref f_l_joined) = true)
    {f_l_above : Addr} {od_l_above an_l_above : Option Addr} {sl_l_above : Array (Option Value)} {oc_l_above kV_l_above dc_l_above pm_l_above cd_l_above ct_l_above : Value}
    (a_l_above : PySem.W.nsIn K mainGlobals "_law_above" = some (some (.ref f_l_above)))
    (l_l_above : K.lookup f_l_above = some ⟨oc_l_above, od_l_above, .func (PySem.W.fnOf "_law_above" "_law_above" (defArgs s_l_above) (defBody s_l_above) (defScope s_l_above) .none kV_l_above dc_l_above pm_l_above an_l_above cd_l_above ct_l_above), sl_l_above⟩)
    (c_l_above : PySem.W.codeIn K cd_l_above "_law_above" = true)
    (k_l_above : PySem.W.keepIn K (.ref f_l_above) = true)
    {f_l_sunk : Addr} {od_l_sunk an_l_sunk : Option Addr} {sl_l_sunk : Array (Option Value)} {oc_l_sunk kV_l_sunk dc_l_sunk pm_l_sunk cd_l_sunk ct_l_sunk : Value}
    (a_l_sunk : PySem.W.nsIn K mainGlobals "_law_sunk" = some (some (.ref f_l_sunk)))
    (l_l_sunk : K.lookup f_l_sunk = some ⟨oc_l_sunk, od_l_sunk, .func (PySem.W.fnOf "_law_sunk" "_law_sunk" (defArgs s_l_sunk) (defBody s_l_sunk) (defScope s_l_sunk) .none kV_l_sunk dc_l_sunk pm_l_sunk an_l_sunk cd_l_sunk ct_l_sunk), sl_l_sunk⟩)
    (c_l_sunk : PySem.W.codeIn K cd_l_sunk "_law_sunk" = true)
    (k_l_sunk : PySem.W.keepIn K (.ref f_l_sunk) = true)
    {f_l_told : Addr} {od_l_told an_l_told : Option Addr} {sl_l_told : Array (Option Value)} {oc_l_told kV_l_told dc_l_told pm_l_told cd_l_told ct_l_told : Value}
    (a_l_told : PySem.W.nsIn K mainGlobals "_law_told" = some (some (.ref f_l_told)))
    (l_l_told : K.lookup f_l_told = some ⟨oc_l_told, od_l_told, .func (PySem.W.fnOf "_law_told" "_law_told" (defArgs s_l_told) (defBody s_l_told) (defScope s_l_told) .none kV_l_told dc_l_told pm_l_told an_l_told cd_l_told ct_l_told), sl_l_told⟩)
    (c_l_told : PySem.W.codeIn K cd_l_told "_law_told" = true)
    (k_l_told : PySem.W.keepIn K (.ref f_l_told) = true)
    {f_l_top : Addr} {od_l_top an_l_top : Option Addr} {sl_l_top : Array (Option Value)} {oc_l_top kV_l_top dc_l_top pm_l_top cd_l_top ct_l_top : Value}
    (a_l_top : PySem.W.nsIn K mainGlobals "_law_top" = some (some (.ref f_l_top)))
    (l_l_top : K.lookup f_l_top = some ⟨oc_l_top, od_l_top, .func (PySem.W.fnOf "_law_top" "_law_top" (defArgs s_l_top) (defBody s_l_top) (defScope s_l_top) .none kV_l_top dc_l_top pm_l_top an_l_top cd_l_top ct_l_top), sl_l_top⟩)
    (c_l_top : PySem.W.codeIn K cd_l_top "_law_top" = true)
    (k_l_top : PySem.W.keepIn K (.ref f_l_top) = true)
    {f_l_due : Addr} {od_l_due an_l_due : Option Addr} {sl_l_due : Array (Option Value)} {oc_l_due kV_l_due dc_l_due pm_l_due cd_l_due ct_l_due : Value}
    (a_l_due : PySem.W.nsIn K mainGlobals "_law_due" = some (some (.ref f_l_due)))
    (l_l_due : K.lookup f_l_due = some ⟨oc_l_due, od_l_due, .func (PySem.W.fnOf "_law_due" "_law_due" (defArgs s_l_due) (defBody s_l_due) (defScope s_l_due) .none kV_l_due dc_l_due pm_l_due an_l_due cd_l_due ct_l_due), sl_l_due⟩)
    (c_l_due : PySem.W.codeIn K cd_l_due "_law_due" = true)
    (k_l_due : PySem.W.keepIn K (.ref f_l_due) = true)
    {f_l_done : Addr} {od_l_done an_l_done : Option Addr} {sl_l_done : Array (Option Value)} {oc_l_done kV_l_done dc_l_done pm_l_done cd_l_done ct_l_done : Value}
    (a_l_done : PySem.W.nsIn K mainGlobals "_law_done" = some (some (.ref f_l_done)))
    (l_l_done : K.lookup f_l_done = some ⟨oc_l_done, od_l_done, .func (PySem.W.fnOf "_law_done" "_law_done" (defArgs s_l_done) (defBody s_l_done) (defScope s_l_done) .none kV_l_done dc_l_done pm_l_done an_l_done cd_l_done ct_l_done), sl_l_done⟩)
    (c_l_done : PySem.W.codeIn K cd_l_done "_law_done" = true)
    (k_l_done : PySem.W.keepIn K (.ref f_l_done) = true)
    {f_law : Addr} {od_law an_law : Option Addr} {sl_law : Array (Option Value)} {oc_law kV_law dc_law pm_law cd_law ct_law : Value}
    (a_law : PySem.W.nsIn K mainGlobals "law" = some (some (.ref f_law)))
    (l_law : K.lookup f_law = some ⟨oc_law, od_law, .func (PySem.W.fnOf "law" "law" (defArgs s_law) (defBody s_law) (defScope s_law) .none kV_law dc_law pm_law an_law cd_law ct_law), sl_law⟩)
    (c_law : PySem.W.codeIn K cd_law "law" = true)
    (k_law : PySem.W.keepIn K (.ref f_law) = true)
    (z_len : PySem.W.nsIn K mainGlobals "len" = some none)
    (z_list : PySem.W.nsIn K mainGlobals "list" = some none)
    (z_min : PySem.W.nsIn K mainGlobals "min" = some none)
    (z_range : PySem.W.nsIn K mainGlobals "range" = some none)
    (z_reversed : PySem.W.nsIn K mainGlobals "reversed" = some none)
    : ∃ fd : FuncData, (∀ (s : Shared) (u : Value), BindsTo s fd ⟨[u], []⟩ [("_law_script", u)]) ∧ ∀ base : Heap, K.In base → base.Ns mainGlobals mg → FnOk P w K mg base CX0 6 fa fd ["_law_script"] (spLaw K) := by
  have e := hfa.symm.trans (PySem.W.mg_of X G a_law)
  cases e
  have F_T_init := fun_mk (st := s_T_init) l_T_init c_T_init k_T_init
  have b_T_init := F_T_init.binds (ps := ["self"]) fun _ _ _ _ _ _ us hl => match us, hl with | [_], _ => rfl
  have F_T_grown := fun_mk (st := s_T_grown) l_T_grown c_T_grown k_T_grown
  have b_T_grown := F_T_grown.binds (ps := ["self", "weight"]) fun _ _ _ _ _ _ us hl => match us, hl with | [_, _], _ => rfl
  have F_T_is_lesser := fun_mk (st := s_T_is_lesser) l_T_is_lesser c_T_is_lesser k_T_is_lesser
  have b_T_is_lesser := F_T_is_lesser.binds (ps := ["self", "one", "other"]) fun _ _ _ _ _ _ us hl => match us, hl with | [_, _, _], _ => rfl
  have F_T_run_of := fun_mk (st := s_T_run_of) l_T_run_of c_T_run_of k_T_run_of
  have b_T_run_of := F_T_run_of.binds (ps := ["self", "top"]) fun _ _ _ _ _ _ us hl => match us, hl with | [_, _], _ => rfl
  have F_T_sided := fun_mk (st := s_T_sided) l_T_sided c_T_sided k_T_sided
  have b_T_sided := F_T_sided.binds (ps := ["self", "thing"]) fun _ _ _ _ _ _ us hl => match us, hl with | [_, _], _ => rfl
  have F_T_joined := fun_mk (st := s_T_joined) l_T_joined c_T_joined k_T_joined
  have b_T_joined := F_T_joined.binds (ps := ["self", "one", "other"]) fun _ _ _ _ _ _ us hl => match us, hl with | [_, _, _], _ => rfl
  have F_T_parted := fun_mk (st := s_T_parted) l_T_parted c_T_parted k_T_parted
  have b_T_parted := F_T_parted.binds (ps := ["self", "top"]) fun _ _ _ _ _ _ us hl => match us, hl with | [_, _], _ => rfl
  have F_T_released := fun_mk (st := s_T_released) l_T_released c_T_released k_T_released
  have b_T_released := F_T_released.binds (ps := ["self", "thing"]) fun _ _ _ _ _ _ us hl => match us, hl with | [_, _], _ => rfl
  have F_T_top_of := fun_mk (st := s_T_top_of) l_T_top_of c_T_top_of k_T_top_of
  have b_T_top_of := F_T_top_of.binds (ps := ["self", "thing"]) fun _ _ _ _ _ _ us hl => match us, hl with | [_, _], _ => rfl
  have F_T_told := fun_mk (st := s_T_told) l_T_told c_T_told k_T_told
  have b_T_told := F_T_told.binds (ps := ["self", "top"]) fun _ _ _ _ _ _ us hl => match us, hl with | [_, _], _ => rfl
  have F_F_init := fun_mk (st := s_F_init) l_F_init c_F_init k_F_init
  have b_F_init := F_F_init.binds (ps := ["self"]) fun _ _ _ _ _ _ us hl => match us, hl with | [_], _ => rfl
  have F_F_need_heap := fun_mk (st := s_F_need_heap) l_F_need_heap c_F_need_heap k_F_need_heap
  have b_F_need_heap := F_F_need_heap.binds (ps := ["self", "heap"]) fun _ _ _ _ _ _ us hl => match us, hl with | [_, _], _ => rfl
  have F_F_need_thing := fun_mk (st := s_F_need_thing) l_F_need_thing c_F_need_thing k_F_need_thing
  have b_F_need_thing := F_F_need_thing.binds (ps := ["self", "thing"]) fun _ _ _ _ _ _ us hl => match us, hl with | [_, _], _ => rfl
  have F_F_laid := fun_mk (st := s_F_laid) l_F_laid c_F_laid k_F_laid
  have b_F_laid := F_F_laid.binds (ps := ["self", "heap", "found", "looks"]) fun _ _ _ _ _ _ us hl => match us, hl with | [_, _, _, _], _ => rfl
  have F_F_heap := fun_mk (st := s_F_heap) l_F_heap c_F_heap k_F_heap
  have b_F_heap := F_F_heap.binds (ps := ["self"]) fun _ _ _ _ _ _ us hl => match us, hl with | [_], _ => rfl
  have F_F_put := fun_mk (st := s_F_put) l_F_put c_F_put k_F_put
  have b_F_put := F_F_put.binds (ps := ["self", "heap", "weight"]) fun _ _ _ _ _ _ us hl => match us, hl with | [_, _, _], _ => rfl
  have F_F_least := fun_mk (st := s_F_least) l_F_least c_F_least k_F_least
  have b_F_least := F_F_least.binds (ps := ["self", "heap"]) fun _ _ _ _ _ _ us hl => match us, hl with | [_, _], _ => rfl
  have F_F_take := fun_mk (st := s_F_take) l_F_take c_F_take k_F_take
  have b_F_take := F_F_take.binds (ps := ["self", "heap"]) fun _ _ _ _ _ _ us hl => match us, hl with | [_, _], _ => rfl
  have F_F_pour := fun_mk (st := s_F_pour) l_F_pour c_F_pour k_F_pour
  have b_F_pour := F_F_pour.binds (ps := ["self", "heap", "other"]) fun _ _ _ _ _ _ us hl => match us, hl with | [_, _, _], _ => rfl
  have F_F_sink := fun_mk (st := s_F_sink) l_F_sink c_F_sink k_F_sink
  have b_F_sink := F_F_sink.binds (ps := ["self", "thing", "weight"]) fun _ _ _ _ _ _ us hl => match us, hl with | [_, _, _], _ => rfl
  have F_F_heap_of := fun_mk (st := s_F_heap_of) l_F_heap_of c_F_heap_of k_F_heap_of
  have b_F_heap_of := F_F_heap_of.binds (ps := ["self", "thing"]) fun _ _ _ _ _ _ us hl => match us, hl with | [_, _], _ => rfl
  have F_F_things := fun_mk (st := s_F_things) l_F_things c_F_things k_F_things
  have b_F_things := F_F_things.binds (ps := ["self", "heap"]) fun _ _ _ _ _ _ us hl => match us, hl with | [_, _], _ => rfl
  have F_F_tree := fun_mk (st := s_F_tree) l_F_tree c_F_tree k_F_tree
  have b_F_tree := F_F_tree.binds (ps := ["self", "heap"]) fun _ _ _ _ _ _ us hl => match us, hl with | [_, _], _ => rfl
  have F_F_work := fun_mk (st := s_F_work) l_F_work c_F_work k_F_work
  have b_F_work := F_F_work.binds (ps := ["self"]) fun _ _ _ _ _ _ us hl => match us, hl with | [_], _ => rfl
  have F_l_cell := fun_mk (st := s_l_cell) l_l_cell c_l_cell k_l_cell
  have b_l_cell := F_l_cell.binds (ps := ["_law_script", "_law_k"]) fun _ _ _ _ _ _ us hl => match us, hl with | [_, _], _ => rfl
  have F_l_weight := fun_mk (st := s_l_weight) l_l_weight c_l_weight k_l_weight
  have b_l_weight := F_l_weight.binds (ps := ["_law_cell_here", "_law_k"]) fun _ _ _ _ _ _ us hl => match us, hl with | [_, _], _ => rfl
  have F_l_noted := fun_mk (st := s_l_noted) l_l_noted c_l_noted k_l_noted
  have b_l_noted := F_l_noted.binds (ps := ["_law_notes", "_law_rows"]) fun _ _ _ _ _ _ us hl => match us, hl with | [_, _], _ => rfl
  have F_l_run := fun_mk (st := s_l_run) l_l_run c_l_run k_l_run
  have b_l_run := F_l_run.binds (ps := ["_law_notes", "_law_part"]) fun _ _ _ _ _ _ us hl => match us, hl with | [_, _], _ => rfl
  have F_l_sided := fun_mk (st := s_l_sided) l_l_sided c_l_sided k_l_sided
  have b_l_sided := F_l_sided.binds (ps := ["_law_notes", "_law_thing"]) fun _ _ _ _ _ _ us hl => match us, hl with | [_, _], _ => rfl
  have F_l_joined := fun_mk (st := s_l_joined) l_l_joined c_l_joined k_l_joined
  have b_l_joined := F_l_joined.binds (ps := ["_law_notes", "_law_one", "_law_other"]) fun _ _ _ _ _ _ us hl => match us, hl with | [_, _, _], _ => rfl
  have F_l_above := fun_mk (st := s_l_above) l_l_above c_l_above k_l_above
  have b_l_above := F_l_above.binds (ps := ["_law_notes", "_law_thing"]) fun _ _ _ _ _ _ us hl => match us, hl with | [_, _], _ => rfl
  have F_l_sunk := fun_mk (st := s_l_sunk) l_l_sunk c_l_sunk k_l_sunk
  have b_l_sunk := F_l_sunk.binds (ps := ["_law_notes", "_law_top_here", "_law_thing", "_law_weight_here"]) fun _ _ _ _ _ _ us hl => match us, hl with | [_, _, _, _], _ => rfl
  have F_l_told := fun_mk (st := s_l_told) l_l_told c_l_told k_l_told
  have b_l_told := F_l_told.binds (ps := ["_law_notes", "_law_top_here"]) fun _ _ _ _ _ _ us hl => match us, hl with | [_, _], _ => rfl
  have F_l_top := fun_mk (st := s_l_top) l_l_top c_l_top k_l_top
  have b_l_top := F_l_top.binds (ps := ["_law_rows"]) fun _ _ _ _ _ _ us hl => match us, hl with | [_], _ => rfl
  have F_l_due := fun_mk (st := s_l_due) l_l_due c_l_due k_l_due
  have b_l_due := F_l_due.binds (ps := ["_law_field", "_law_heaps", "_law_notes", "_law_rows", "_law_cell_here", "_law_more"]) fun _ _ _ _ _ _ us hl => match us, hl with | [_, _, _, _, _, _], _ => rfl
  have F_l_done := fun_mk (st := s_l_done) l_l_done c_l_done k_l_done
  have b_l_done := F_l_done.binds (ps := ["_law_field", "_law_heap", "_law_other", "_law_kind", "_law_more", "_law_k"]) fun _ _ _ _ _ _ us hl => match us, hl with | [_, _, _, _, _, _], _ => rfl
  have F_law := fun_mk (st := s_law) l_law c_law k_law
  have b_law := F_law.binds (ps := ["_law_script"]) fun _ _ _ _ _ _ us hl => match us, hl with | [_], _ => rfl
  let T : Tx K mg := {
    A := (Ad.mk CF CT 0 xNH xNT xBA xSA xHV)
    ok := ⟨⟨pgCF, hdCF, poCF, saCF⟩, ⟨pgCT, hdCT, poCT, saCT⟩, nCFtrees, nCFtops, nCFsizes, nCFhomes, nCFgone, nCFspent, nCTweights, nCTlefts, nCTrights, nCTuppers, nCTruns⟩
    f_T_init := f_T_init, fd_T_init := _, F_T_init := F_T_init, b_T_init := b_T_init
    f_T_grown := f_T_grown, fd_T_grown := _, F_T_grown := F_T_grown, b_T_grown := b_T_grown
    m_T_grown := ⟨a_T_grown, i_T_grown, k_T_grown⟩
    f_T_is_lesser := f_T_is_lesser, fd_T_is_lesser := _, F_T_is_lesser := F_T_is_lesser, b_T_is_lesser := b_T_is_lesser
    m_T_is_lesser := ⟨a_T_is_lesser, i_T_is_lesser, k_T_is_lesser⟩
    f_T_run_of := f_T_run_of, fd_T_run_of := _, F_T_run_of := F_T_run_of, b_T_run_of := b_T_run_of
    m_T_run_of := ⟨a_T_run_of, i_T_run_of, k_T_run_of⟩
    f_T_sided := f_T_sided, fd_T_sided := _, F_T_sided := F_T_sided, b_T_sided := b_T_sided
    m_T_sided := ⟨a_T_sided, i_T_sided, k_T_sided⟩
    f_T_joined := f_T_joined, fd_T_joined := _, F_T_joined := F_T_joined, b_T_joined := b_T_joined
    m_T_joined := ⟨a_T_joined, i_T_joined, k_T_joined⟩
    f_T_parted := f_T_parted, fd_T_parted := _, F_T_parted := F_T_parted, b_T_parted := b_T_parted
    m_T_parted := ⟨a_T_parted, i_T_parted, k_T_parted⟩
    f_T_released := f_T_released, fd_T_released := _, F_T_released := F_T_released, b_T_released := b_T_released
    m_T_released := ⟨a_T_released, i_T_released, k_T_released⟩
    f_T_top_of := f_T_top_of, fd_T_top_of := _, F_T_top_of := F_T_top_of, b_T_top_of := b_T_top_of
    m_T_top_of := ⟨a_T_top_of, i_T_top_of, k_T_top_of⟩
    f_T_told := f_T_told, fd_T_told := _, F_T_told := F_T_told, b_T_told := b_T_told
    m_T_told := ⟨a_T_told, i_T_told, k_T_told⟩
    f_F_init := f_F_init, fd_F_init := _, F_F_init := F_F_init, b_F_init := b_F_init
    f_F_need_heap := f_F_need_heap, fd_F_need_heap := _, F_F_need_heap := F_F_need_heap, b_F_need_heap := b_F_need_heap
    m_F_need_heap := ⟨a_F_need_heap, i_F_need_heap, k_F_need_heap⟩
    f_F_need_thing := f_F_need_thing, fd_F_need_thing := _, F_F_need_thing := F_F_need_thing, b_F_need_thing := b_F_need_thing
    m_F_need_thing := ⟨a_F_need_thing, i_F_need_thing, k_F_need_thing⟩
    f_F_laid := f_F_laid, fd_F_laid := _, F_F_laid := F_F_laid, b_F_laid := b_F_laid
    m_F_laid := ⟨a_F_laid, i_F_laid, k_F_laid⟩
    f_F_heap := f_F_heap, fd_F_heap := _, F_F_heap := F_F_heap, b_F_heap := b_F_heap
    m_F_heap := ⟨a_F_heap, i_F_heap, k_F_heap⟩
    f_F_put := f_F_put, fd_F_put := _, F_F_put := F_F_put, b_F_put := b_F_put
    m_F_put := ⟨a_F_put, i_F_put, k_F_put⟩
    f_F_least := f_F_least, fd_F_least := _, F_F_least := F_F_least, b_F_least := b_F_least
    m_F_least := ⟨a_F_least, i_F_least, k_F_least⟩
    f_F_take := f_F_take, fd_F_take := _, F_F_take := F_F_take, b_F_take := b_F_take
    m_F_take := ⟨a_F_take, i_F_take, k_F_take⟩
    f_F_pour := f_F_pour, fd_F_pour := _, F_F_pour := F_F_pour, b_F_pour := b_F_pour
    m_F_pour := ⟨a_F_pour, i_F_pour, k_F_pour⟩
    f_F_sink := f_F_sink, fd_F_sink := _, F_F_sink := F_F_sink, b_F_sink := b_F_sink
    m_F_sink := ⟨a_F_sink, i_F_sink, k_F_sink⟩
    f_F_heap_of := f_F_heap_of, fd_F_heap_of := _, F_F_heap_of := F_F_heap_of, b_F_heap_of := b_F_heap_of
    m_F_heap_of := ⟨a_F_heap_of, i_F_heap_of, k_F_heap_of⟩
    f_F_things := f_F_things, fd_F_things := _, F_F_things := F_F_things, b_F_things := b_F_things
    m_F_things := ⟨a_F_things, i_F_things, k_F_things⟩
    f_F_tree := f_F_tree, fd_F_tree := _, F_F_tree := F_F_tree, b_F_tree := b_F_tree
    m_F_tree := ⟨a_F_tree, i_F_tree, k_F_tree⟩
    f_F_work := f_F_work, fd_F_work := _, F_F_work := F_F_work, b_F_work := b_F_work
    m_F_work := ⟨a_F_work, i_F_work, k_F_work⟩
    f_l_cell := f_l_cell, fd_l_cell := _, F_l_cell := F_l_cell, b_l_cell := b_l_cell
    g_l_cell := PySem.W.mg_of X G a_l_cell
    f_l_weight := f_l_weight, fd_l_weight := _, F_l_weight := F_l_weight, b_l_weight := b_l_weight
    g_l_weight := PySem.W.mg_of X G a_l_weight
    f_l_noted := f_l_noted, fd_l_noted := _, F_l_noted := F_l_noted, b_l_noted := b_l_noted
    g_l_noted := PySem.W.mg_of X G a_l_noted
    f_l_run := f_l_run, fd_l_run := _, F_l_run := F_l_run, b_l_run := b_l_run
    g_l_run := PySem.W.mg_of X G a_l_run
    f_l_sided := f_l_sided, fd_l_sided := _, F_l_sided := F_l_sided, b_l_sided := b_l_sided
    g_l_sided := PySem.W.mg_of X G a_l_sided
    f_l_joined := f_l_joined, fd_l_joined := _, F_l_joined := F_l_joined, b_l_joined := b_l_joined
    g_l_joined := PySem.W.mg_of X G a_l_joined
    f_l_above := f_l_above, fd_l_above := _, F_l_above := F_l_above, b_l_above := b_l_above
    g_l_above := PySem.W.mg_of X G a_l_above
    f_l_sunk := f_l_sunk, fd_l_sunk := _, F_l_sunk := F_l_sunk, b_l_sunk := b_l_sunk
    g_l_sunk := PySem.W.mg_of X G a_l_sunk
    f_l_told := f_l_told, fd_l_told := _, F_l_told := F_l_told, b_l_told := b_l_told
    g_l_told := PySem.W.mg_of X G a_l_told
    f_l_top := f_l_top, fd_l_top := _, F_l_top := F_l_top, b_l_top := b_l_top
    g_l_top := PySem.W.mg_of X G a_l_top
    f_l_due := f_l_due, fd_l_due := _, F_l_due := F_l_due, b_l_due := b_l_due
    g_l_due := PySem.W.mg_of X G a_l_due
    f_l_done := f_l_done, fd_l_done := _, F_l_done := F_l_done, b_l_done := b_l_done
    g_l_done := PySem.W.mg_of X G a_l_done
    f_law := fa, fd_law := _, F_law := F_law, b_law := b_law
    g_law := PySem.W.mg_of X G a_law
    mk_Field := ⟨mkCF, a_F_init, i_F_init, kcCF⟩, g_Field := PySem.W.mg_of X G aCF
    mk_Trees := ⟨mkCT, a_T_init, i_T_init, kcCT⟩, g_Trees := PySem.W.mg_of X G aCT
    g_NoHeap := PySem.W.mg_of X G axNH, x_NoHeap := xxNH, k_NoHeap := kxNH, e_NoHeap := exNH, t_NoHeap := txNH
    g_NoThing := PySem.W.mg_of X G axNT, x_NoThing := xxNT, k_NoThing := kxNT, e_NoThing := exNT, t_NoThing := txNT
    g_Bare := PySem.W.mg_of X G axBA, x_Bare := xxBA, k_Bare := kxBA, e_Bare := exBA, t_Bare := txBA
    g_Same := PySem.W.mg_of X G axSA, x_Same := xxSA, k_Same := kxSA, e_Same := exSA, t_Same := txSA
    g_Heavier := PySem.W.mg_of X G axHV, x_Heavier := xxHV, k_Heavier := kxHV, e_Heavier := exHV, t_Heavier := txHV
    xs := trivial
    z_len := PySem.W.mg_none_of X G z_len
    z_list := PySem.W.mg_none_of X G z_list
    z_min := PySem.W.mg_none_of X G z_min
    z_range := PySem.W.mg_none_of X G z_range
    z_reversed := PySem.W.mg_none_of X G z_reversed
    }
  exact ⟨_, fun s u => .of_eq rfl, fun base _ _ => ok_law T⟩
end Sk11
open PySem PySem.W PyProof.Rows
set_option maxRecDepth 100000 in
set_option maxHeartbeats 0 in
theorem PySem.Challenge.cw_splitheap_k11_whole_work_holds : PySem.Challenge.rw_splitheap_k11_whole_work.Holds := by
  w_on; o_law; k_head; (case hw => w_witness2)
  k_fill
  refine G.walk_law (k := 6) (x := "_law_script") (l := PySem.Challenge.rw_splitheap_k11_whole_work) rfl rfl ⟨rfl, by decide, by decide⟩ (fun w h Y => PySem.W.kIn_of Y) ?F
  case F =>
    intro w mg fa h KX G hmg
    refine' Sk11.all_mk KX G hmg ?aCF ?pgCF ?hdCF ?poCF ?saCF ?mkCF ?kcCF ?nCFtrees ?nCFtops ?nCFsizes ?nCFhomes ?nCFgone ?nCFspent ?aCT ?pgCT ?hdCT ?poCT ?saCT ?mkCT ?kcCT ?nCTweights ?nCTlefts ?nCTrights ?nCTuppers ?nCTruns ?axNH ?xxNH ?kxNH ?exNH ?txNH ?ixNH ?axNT ?xxNT ?kxNT ?exNT ?txNT ?ixNT ?axBA ?xxBA ?kxBA ?exBA ?txBA ?ixBA ?axSA ?xxSA ?kxSA ?exSA ?txSA ?ixSA ?axHV ?xxHV ?kxHV ?exHV ?txHV ?ixHV ?a_T_init ?i_T_init ?l_T_init ?c_T_init ?k_T_init ?a_T_grown ?i_T_grown ?l_T_grown ?c_T_grown ?k_T_grown ?a_T_is_lesser ?i_T_is_lesser ?l_T_is_lesser ?c_T_is_lesser ?k_T_is_lesser ?a_T_run_of ?i_T_run_of ?l_T_run_of ?c_T_run_of ?k_T_run_of ?a_T_sided ?i_T_sided ?l_T_sided ?c_T_sided ?k_T_sided ?a_T_joined ?i_T_joined ?l_T_joined ?c_T_joined ?k_T_joined ?a_T_parted ?i_T_parted ?l_T_parted ?c_T_parted ?k_T_parted ?a_T_released ?i_T_released ?l_T_released ?c_T_released ?k_T_released ?a_T_top_of ?i_T_top_of ?l_T_top_of ?c_T_top_of ?k_T_top_of ?a_T_told ?i_T_told ?l_T_told ?c_T_told ?k_T_told ?a_F_init ?i_F_init ?l_F_init ?c_F_init ?k_F_init ?a_F_need_heap ?i_F_need_heap ?l_F_need_heap ?c_F_need_heap ?k_F_need_heap ?a_F_need_thing ?i_F_need_thing ?l_F_need_thing ?c_F_need_thing ?k_F_need_thing ?a_F_laid ?i_F_laid ?l_F_laid ?c_F_laid ?k_F_laid ?a_F_heap ?i_F_heap ?l_F_heap ?c_F_heap ?k_F_heap ?a_F_put ?i_F_put ?l_F_put ?c_F_put ?k_F_put ?a_F_least ?i_F_least ?l_F_least ?c_F_least ?k_F_least ?a_F_take ?i_F_take ?l_F_take ?c_F_take ?k_F_take ?a_F_pour ?i_F_pour ?l_F_pour ?c_F_pour ?k_F_pour ?a_F_sink ?i_F_sink ?l_F_sink ?c_F_sink ?k_F_sink ?a_F_heap_of ?i_F_heap_of ?l_F_heap_of ?c_F_heap_of ?k_F_heap_of ?a_F_things ?i_F_things ?l_F_things ?c_F_things ?k_F_things ?a_F_tree ?i_F_tree ?l_F_tree ?c_F_tree ?k_F_tree ?a_F_work ?i_F_work ?l_F_work ?c_F_work ?k_F_work ?a_l_cell ?l_l_cell ?c_l_cell ?k_l_cell ?a_l_weight ?l_l_weight ?c_l_weight ?k_l_weight ?a_l_noted ?l_l_noted ?c_l_noted ?k_l_noted ?a_l_run ?l_l_run ?c_l_run ?k_l_run ?a_l_sided ?l_l_sided ?c_l_sided ?k_l_sided ?a_l_joined ?l_l_joined ?c_l_joined ?k_l_joined ?a_l_above ?l_l_above ?c_l_above ?k_l_above ?a_l_sunk ?l_l_sunk ?c_l_sunk ?k_l_sunk ?a_l_told ?l_l_told ?c_l_told ?k_l_told ?a_l_top ?l_l_top ?c_l_top ?k_l_top ?a_l_due ?l_l_due ?c_l_due ?k_l_due ?a_l_done ?l_l_done ?c_l_done ?k_l_done ?a_law ?l_law ?c_law ?k_law ?z_len ?z_list ?z_min ?z_range ?z_reversed
    (case aCF => k_is)
    (case pgCF => k_is)
    (case hdCF => k_is)
    (case poCF => k_is)
    (case saCF => k_is)
    (case mkCF => k_is)
    (case kcCF => k_is)
    (case nCFtrees => k_is)
    (case nCFtops => k_is)
    (case nCFsizes => k_is)
    (case nCFhomes => k_is)
    (case nCFgone => k_is)
    (case nCFspent => k_is)
    (case aCT => k_is)
    (case pgCT => k_is)
    (case hdCT => k_is)
    (case poCT => k_is)
    (case saCT => k_is)
    (case mkCT => k_is)
    (case kcCT => k_is)
    (case nCTweights => k_is)
    (case nCTlefts => k_is)
    (case nCTrights => k_is)
    (case nCTuppers => k_is)
    (case nCTruns => k_is)
    (case axNH => k_is)
    (case xxNH => k_exc)
    (case kxNH => k_is)
    (case exNH => k_is)
    (case txNH => k_is)
    (case ixNH => k_is)
    (case axNT => k_is)
    (case xxNT => k_exc)
    (case kxNT => k_is)
    (case exNT => k_is)
    (case txNT => k_is)
    (case ixNT => k_is)
    (case axBA => k_is)
    (case xxBA => k_exc)
    (case kxBA => k_is)
    (case exBA => k_is)
    (case txBA => k_is)
    (case ixBA => k_is)
    (case axSA => k_is)
    (case xxSA => k_exc)
    (case kxSA => k_is)
    (case exSA => k_is)
    (case txSA => k_is)
    (case ixSA => k_is)
    (case axHV => k_is)
    (case xxHV => k_exc)
    (case kxHV => k_is)
    (case exHV => k_is)
    (case txHV => k_is)
    (case ixHV => k_is)
    (case a_T_init => k_is)
    (case i_T_init => k_is)
    (case l_T_init => k_is)
    (case c_T_init => k_is)
    (case k_T_init => k_is)
    (case a_T_grown => k_is)
    (case i_T_grown => k_is)
    (case l_T_grown => k_is)
    (case c_T_grown => k_is)
    (case k_T_grown => k_is)
    (case a_T_is_lesser => k_is)
    (case i_T_is_lesser => k_is)
    (case l_T_is_lesser => k_is)
    (case c_T_is_lesser => k_is)
    (case k_T_is_lesser => k_is)
    (case a_T_run_of => k_is)
    (case i_T_run_of => k_is)
    (case l_T_run_of => k_is)
    (case c_T_run_of => k_is)
    (case k_T_run_of => k_is)
    (case a_T_sided => k_is)
    (case i_T_sided => k_is)
    (case l_T_sided => k_is)
    (case c_T_sided => k_is)
    (case k_T_sided => k_is)
    (case a_T_joined => k_is)
    (case i_T_joined => k_is)
    (case l_T_joined => k_is)
    (case c_T_joined => k_is)
    (case k_T_joined => k_is)
    (case a_T_parted => k_is)
    (case i_T_parted => k_is)
    (case l_T_parted => k_is)
    (case c_T_parted => k_is)
    (case k_T_parted => k_is)
    (case a_T_released => k_is)
    (case i_T_released => k_is)
    (case l_T_released => k_is)
    (case c_T_released => k_is)
    (case k_T_released => k_is)
    (case a_T_top_of => k_is)
    (case i_T_top_of => k_is)
    (case l_T_top_of => k_is)
    (case c_T_top_of => k_is)
    (case k_T_top_of => k_is)
    (case a_T_told => k_is)
    (case i_T_told => k_is)
    (case l_T_told => k_is)
    (case c_T_told => k_is)
    (case k_T_told => k_is)
    (case a_F_init => k_is)
    (case i_F_init => k_is)
    (case l_F_init => k_is)
    (case c_F_init => k_is)
    (case k_F_init => k_is)
    (case a_F_need_heap => k_is)
    (case i_F_need_heap => k_is)
    (case l_F_need_heap => k_is)
    (case c_F_need_heap => k_is)
    (case k_F_need_heap => k_is)
    (case a_F_need_thing => k_is)
    (case i_F_need_thing => k_is)
    (case l_F_need_thing => k_is)
    (case c_F_need_thing => k_is)
    (case k_F_need_thing => k_is)
    (case a_F_laid => k_is)
    (case i_F_laid => k_is)
    (case l_F_laid => k_is)
    (case c_F_laid => k_is)
    (case k_F_laid => k_is)
    (case a_F_heap => k_is)
    (case i_F_heap => k_is)
    (case l_F_heap => k_is)
    (case c_F_heap => k_is)
    (case k_F_heap => k_is)
    (case a_F_put => k_is)
    (case i_F_put => k_is)
    (case l_F_put => k_is)
    (case c_F_put => k_is)
    (case k_F_put => k_is)
    (case a_F_least => k_is)
    (case i_F_least => k_is)
    (case l_F_least => k_is)
    (case c_F_least => k_is)
    (case k_F_least => k_is)
    (case a_F_take => k_is)
    (case i_F_take => k_is)
    (case l_F_take => k_is)
    (case c_F_take => k_is)
    (case k_F_take => k_is)
    (case a_F_pour => k_is)
    (case i_F_pour => k_is)
    (case l_F_pour => k_is)
    (case c_F_pour => k_is)
    (case k_F_pour => k_is)
    (case a_F_sink => k_is)
    (case i_F_sink => k_is)
    (case l_F_sink => k_is)
    (case c_F_sink => k_is)
    (case k_F_sink => k_is)
    (case a_F_heap_of => k_is)
    (case i_F_heap_of => k_is)
    (case l_F_heap_of => k_is)
    (case c_F_heap_of => k_is)
    (case k_F_heap_of => k_is)
    (case a_F_things => k_is)
    (case i_F_things => k_is)
    (case l_F_things => k_is)
    (case c_F_things => k_is)
    (case k_F_things => k_is)
    (case a_F_tree => k_is)
    (case i_F_tree => k_is)
    (case l_F_tree => k_is)
    (case c_F_tree => k_is)
    (case k_F_tree => k_is)
    (case a_F_work => k_is)
    (case i_F_work => k_is)
    (case l_F_work => k_is)
    (case c_F_work => k_is)
    (case k_F_work => k_is)
    (case a_l_cell => k_is)
    (case l_l_cell => k_is)
    (case c_l_cell => k_is)
    (case k_l_cell => k_is)
    (case a_l_weight => k_is)
    (case l_l_weight => k_is)
    (case c_l_weight => k_is)
    (case k_l_weight => k_is)
    (case a_l_noted => k_is)
    (case l_l_noted => k_is)
    (case c_l_noted => k_is)
    (case k_l_noted => k_is)
    (case a_l_run => k_is)
    (case l_l_run => k_is)
    (case c_l_run => k_is)
    (case k_l_run => k_is)
    (case a_l_sided => k_is)
    (case l_l_sided => k_is)
    (case c_l_sided => k_is)
    (case k_l_sided => k_is)
    (case a_l_joined => k_is)
    (case l_l_joined => k_is)
    (case c_l_joined => k_is)
    (case k_l_joined => k_is)
    (case a_l_above => k_is)
    (case l_l_above => k_is)
    (case c_l_above => k_is)
    (case k_l_above => k_is)
    (case a_l_sunk => k_is)
    (case l_l_sunk => k_is)
    (case c_l_sunk => k_is)
    (case k_l_sunk => k_is)
    (case a_l_told => k_is)
    (case l_l_told => k_is)
    (case c_l_told => k_is)
    (case k_l_told => k_is)
    (case a_l_top => k_is)
    (case l_l_top => k_is)
    (case c_l_top => k_is)
    (case k_l_top => k_is)
    (case a_l_due => k_is)
    (case l_l_due => k_is)
    (case c_l_due => k_is)
    (case k_l_due => k_is)
    (case a_l_done => k_is)
    (case l_l_done => k_is)
    (case c_l_done => k_is)
    (case k_l_done => k_is)
    (case a_law => k_is)
    (case l_law => k_is)
    (case c_law => k_is)
    (case k_law => k_is)
    (case z_len => k_is)
    (case z_list => k_is)
    (case z_min => k_is)
    (case z_range => k_is)
    (case z_reversed => k_is)
#print axioms PySem.Challenge.cw_splitheap_k11_whole_work_holds
