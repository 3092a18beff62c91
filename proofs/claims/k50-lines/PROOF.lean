import PyProof.Rows.All
import Wide.All
import OpenK.AllK
import Wide.FinOn
import HandS.ForMost
import HandS.ForExc
import HandS.Codes
import HandS.Wide
import HandS.SortInts
import HandS.SortRule
import HandS.DictComp
import HandS.DictTup
import HandS.TupLen
import HandS.TupAny
import HandS.TupMul
import HandS.IsInst
import HandS.Flow
import HandS.Small
import HandS.Sort
import HandS.TupLe
import HandS.Conv
import HandS.More
import HandS.Defaults
import HandS.MakeKw
import HandS.Zip
import KE.SortData
import KE.KDictPairs
import KE.DataMinMax
import HandS.Text
import HandS.RaiseMore
import KE.IntTextLaws
import PySem.Challenge.RW_laterline_k50_lines_read_and_shown
set_option Elab.async false
set_option linter.all false
set_option maxRecDepth 100000
set_option maxHeartbeats 4000000
/-! Lt: small steps for reading a body's term: one lemma a construct, each leaves the next reading. -/
namespace Lt
open PySem PySem.Spec PyProof.Rows L2
abbrev St := L2.St

/-! ### several rules for one operator -/
def rAdd3 (K : PySem.W.Frag) : R2 := fun x y H Q => rI0 (fun i j => .int (i + j)) x y H Q ∨ (∃ i j, x = .str i ∧ y = .str j ∧ i.length + j.length ≤ sizeLine ∧ Q (.str (i ++ j)) H) ∨ rCat x y H Q ∨ rCatA K x y H Q
def rMul3 (K : PySem.W.Frag) : R2 := fun x y H Q => rI CMul (fun i j => .int (i * j)) x y H Q ∨ rI CMulW (fun i j => .int (i * j)) x y H Q ∨ rRep x y H Q ∨ rRepT K x y H Q
def rEq3 (K : PySem.W.Frag) : R2 := fun x y H Q => rEq x y H Q ∨ rEqD K x y H Q ∨ rEqDA x y H Q
def rNe3 (K : PySem.W.Frag) : R2 := fun x y H Q => rNe x y H Q ∨ rNeD K x y H Q ∨ rNeDA x y H Q
def rLtS : R2 := fun x y H Q => ∃ i j, x = .str i ∧ y = .str j ∧ Q (.bl (decide (i.cps.toList < j.cps.toList))) H
def rLt3 (K : PySem.W.Frag) : R2 := fun x y H Q => rI0 (fun i j => .bl (decide (i < j))) x y H Q ∨ rLtS x y H Q ∨ rLtT K x y H Q
def rIs3 : R2 := fun x y H Q => (y = .non ∧ Q (.bl (decide (x = .non))) H) ∨ (∃ a b, x = .bl a ∧ y = .bl b ∧ Q (.bl (decide (a = b))) H)
def rIsNot3 : R2 := fun x y H Q => (y = .non ∧ Q (.bl (!decide (x = .non))) H) ∨ (∃ a b, x = .bl a ∧ y = .bl b ∧ Q (.bl (!decide (a = b))) H)
def rInSg : R2 := fun x y H Q => ∃ (c : Nat) (z : Str), x = .str ⟨#[c]⟩ ∧ y = .str z ∧ Q (.bl (decide (c ∈ z.cps.toList))) H
def rIn3 (K : PySem.W.Frag) : R2 := fun x y H Q => rIn K false x y H Q ∨ rInSg x y H Q
def rNotInSg : R2 := fun x y H Q => ∃ (c : Nat) (z : Str), x = .str ⟨#[c]⟩ ∧ y = .str z ∧ Q (.bl (!decide (c ∈ z.cps.toList))) H
def rNotIn3 (K : PySem.W.Frag) : R2 := fun x y H Q => rIn K true x y H Q ∨ rNotInSg x y H Q
def rLen3 (K : PySem.W.Frag) : List V → Hp → VK → Prop := fun xs H Q => (∃ x n, xs = [x] ∧ LenV K x H n ∧ Q (.int n) H) ∨ (∃ a kvs, xs = [V.ref a] ∧ H a = some (.dK kvs) ∧ Q (.int kvs.length) H) ∨ rLenT xs H Q
section
variable {X : Cx}
theorem op_add3 : OpR X (binaryOp .Add) (rAdd3 X.K) := op_add.or (op_add_str.or (op_cat.or op_catA))
theorem op_mul3 : OpR X (binaryOp .Mult) (rMul3 X.K) := op_mul.or (op_mulW.or (op_rep.or op_repT))
theorem op_eq3 (hu : X.A.units + 64 < cLine) : OpR X (compareOp .Eq) (rEq3 X.K) := op_eq.or ((op_eqD hu).or (op_eq_dictA (by omega)))
theorem op_ne3 (hu : X.A.units + 64 < cLine) : OpR X (compareOp .NotEq) (rNe3 X.K) := op_ne.or ((op_neD hu).or (op_ne_dictA (by omega)))
theorem op_lt3 (hu : X.A.units + 64 < cLine) : OpR X (compareOp .Lt) (rLt3 X.K) := op_lt.or (op_lt_str.or (op_ltT (by omega)))
theorem op_is3 : OpR X (compareOp .Is) rIs3 := op_isN.or op_is_bl
theorem op_isnot3 : OpR X (compareOp .IsNot) rIsNot3 := op_notN.or op_isnot_bl
theorem op_in3 : OpR X (compareOp .In) (rIn3 X.K) := op_in_seq.or op_in_sign
theorem op_notin3 : OpR X (compareOp .NotIn) (rNotIn3 X.K) := op_notIn_seq.or op_notIn_sign
theorem call_len3 : CallR X (.builtin "len") (rLen3 X.K) := call_len.or (call_lenD.or call_len_dT)
end

/-! ### steps -/
section
variable {t u : TS} {n b c : St → Hp → Prop} {R : VK} {σ : St} {H : Hp} {Q : VK} {te ta tb : TE} {tc td : TT} {B : Bool → Hp → Prop} {K : PySem.W.Frag} {g : TG} {gs : TGs} {G : St → Hp → Prop}
theorem s_next (h : n σ H) : tNext ⟨n, R, b, c⟩ σ H := h
theorem s_seq (h : t ⟨u ⟨n, R, b, c⟩, R, b, c⟩ σ H) : tSeq t u ⟨n, R, b, c⟩ σ H := h
theorem s_brk (h : b σ H) : tBreak ⟨n, R, b, c⟩ σ H := h
theorem s_cont (h : c σ H) : tCont ⟨n, R, b, c⟩ σ H := h
theorem s_drop (h : te σ H fun _ H1 => n σ H1) : tDrop te ⟨n, R, b, c⟩ σ H := h
theorem s_ret (h : te σ H R) : tRet te ⟨n, R, b, c⟩ σ H := h
theorem s_retN (h : R .non H) : tRetN ⟨n, R, b, c⟩ σ H := h
theorem s_ifs (h : tc σ H fun k H1 => if k = true then t ⟨n, R, b, c⟩ σ H1 else u ⟨n, R, b, c⟩ σ H1) : tIfS tc t u ⟨n, R, b, c⟩ σ H := h
theorem s_asg (h : te σ H fun x H1 => g x σ H1 n) : tAsg te g ⟨n, R, b, c⟩ σ H := h
theorem s_gname {i : Nat} {v : V} (h : G (σ.set i (some v)) H) : gName i v σ H G := h
theorem s_gnil (h : G σ H) : gNil [] σ H G := ⟨rfl, h⟩
theorem s_gcons {v : V} {r : List V} (h : g v σ H fun σ' H' => gs r σ' H' G) : gCons g gs (v :: r) σ H G := ⟨v, r, rfl, h⟩
theorem s_gtup {k : Nat} {a : Addr} {xs : List V} (hs : SqT K H a xs) (hl : xs.length = k) (h : gs xs σ H G) : gTup K k gs (.ref a) σ H G := ⟨a, xs, rfl, hs, hl, h⟩
theorem s_glst {k : Nat} {a : Addr} {xs : List V} (hs : SqL K H a xs) (hl : xs.length = k) (h : gs xs σ H G) : gLst K k gs (.ref a) σ H G := ⟨a, xs, rfl, hs, hl, h⟩
theorem s_gsub {to ti : TE} {ts : TSet} {v : V} (h : to σ H fun o H1 => ti σ H1 fun i H2 => ts o i v H2 fun H3 => G σ H3) : gSub to ti ts v σ H G := h
theorem s_var {i : Nat} {v : V} (e : σ[i]? = some (some v)) (h : Q v H) : tVar i σ H Q := ⟨v, e, h⟩
theorem s_c {v : V} (h : Q v H) : tC v σ H Q := h
theorem s_op {r : R2} (h : ta σ H fun x H1 => tb σ H1 fun y H2 => r x y H2 Q) : tOp r ta tb σ H Q := h
theorem s_un {r : V → Hp → VK → Prop} (h : ta σ H fun x H1 => r x H1 Q) : tUn r ta σ H Q := h
theorem s_cb {r : List V → Hp → VK → Prop} {ts : TA} (h : ts σ H fun vs H1 => r vs H1 Q) : tCB r ts σ H Q := h
theorem s_nil {Q : List V → Hp → Prop} (h : Q [] H) : tNil σ H Q := h
theorem s_cons {Q : List V → Hp → Prop} {tr : TA} (h : ta σ H fun x H1 => tr σ H1 fun xs H2 => Q (x :: xs) H2) : tCons ta tr σ H Q := h
theorem s_call {sp : Sp} {dvs : List V} {E : XK} {ts : TA} (h : ts σ H fun vs H1 => sp (vs ++ dvs) H1 Q E) : tCall sp dvs E ts σ H Q := h
theorem s_meth {C : Addr} {m : Str} {sp : Sp} {dvs : List V} {E : XK} {ts : TA} (h : ta σ H fun x H1 => ∃ a dx fs, x = .ref a ∧ H1 a = some (.ins C dx fs) ∧ fs.lookup m = none ∧ ts σ H1 fun vs H2 => sp (x :: (vs ++ dvs)) H2 Q E) : tMeth C m sp dvs E ta ts σ H Q := h
theorem s_meth2 {C a dx : Addr} {fs : List (Str × V)} {m : Str} {F : Prop} (h1 : H a = some (.ins C dx fs)) (h2 : fs.lookup m = none) (h : F) : ∃ a' dx fs, V.ref a = .ref a' ∧ H a' = some (.ins C dx fs) ∧ fs.lookup m = none ∧ F := ⟨a, dx, fs, rfl, h1, h2, h⟩
theorem s_test (h : te σ H fun x H' => ∃ k, x = .bl k ∧ B k H') : tTest te σ H B := h
theorem s_tb (h : te σ H fun x H' => ∃ k, x = .bl k ∧ B k H') : tB te σ H B := h
theorem s_exbl {k : Bool} {F : Bool → Prop} (h : F k) : ∃ k', V.bl k = .bl k' ∧ F k' := ⟨k, rfl, h⟩
theorem s_and (h : tc σ H fun k H1 => if k = true then td σ H1 B else B false H1) : tAnd tc td σ H B := h
theorem s_or (h : tc σ H fun k H1 => if k = true then B true H1 else td σ H1 B) : tOr tc td σ H B := h
theorem s_not (h : tc σ H fun k H1 => B (!k) H1) : tNot tc σ H B := h
theorem s_andV (h : ta σ H fun x H1 => ∃ k, x = .bl k ∧ if k = true then tb σ H1 Q else Q (.bl false) H1) : tAndV ta tb σ H Q := h
theorem s_orV (h : ta σ H fun x H1 => ∃ k, x = .bl k ∧ if k = true then Q (.bl true) H1 else tb σ H1 Q) : tOrV ta tb σ H Q := h
theorem s_notV (h : ta σ H fun x H1 => ∃ k, x = .bl k ∧ Q (.bl (!k)) H1) : tNotV ta σ H Q := h
theorem s_ifx (h : tc σ H fun k H1 => if k = true then ta σ H1 Q else tb σ H1 Q) : tIf tc ta tb σ H Q := h
theorem s_yes (h : B true H) : tYes σ H B := h
theorem s_tup {ts : TA} (h : ts σ H fun xs H1 => xs.length ≤ sizeLine ∧ ∀ p, H1 p = none → Q (.ref p) (upd H1 p (.tup xs))) : tTup ts σ H Q := h
theorem s_lst {ts : TA} (h : ts σ H fun xs H1 => xs.length ≤ sizeLine ∧ ∀ p, H1 p = none → Q (.ref p) (upd H1 p (.lst xs))) : tLst ts σ H Q := h
theorem s_fld {f : Str} (h : ta σ H fun x H1 => ∃ a C dx fs v, x = .ref a ∧ H1 a = some (.ins C dx fs) ∧ Cls K C ∧ NoAttr K C f ∧ fs.lookup f = some v ∧ Q v H1) : tFld K ta f σ H Q := h
theorem s_fld2 {a C dx : Addr} {fs : List (Str × V)} {v : V} {f : Str} {F : V → Prop} (h1 : H a = some (.ins C dx fs)) (h2 : Cls K C) (h3 : NoAttr K C f) (h4 : fs.lookup f = some v) (h : F v) :
    ∃ a' C dx fs v, V.ref a = .ref a' ∧ H a' = some (.ins C dx fs) ∧ Cls K C ∧ NoAttr K C f ∧ fs.lookup f = some v ∧ F v := ⟨a, C, dx, fs, v, rfl, h1, h2, h3, h4, h⟩
theorem s_sl {r : V → Option Int → Option Int → Hp → VK → Prop} {tl th : TO} (h : te σ H fun x H1 => tl σ H1 fun l H2 => th σ H2 fun u H3 => r x l u H3 Q) : tSl r te tl th σ H Q := h
theorem s_nopart {Q : Option Int → Hp → Prop} (h : Q none H) : tNoPart σ H Q := h
theorem s_part {Q : Option Int → Hp → Prop} (h : te σ H fun x H1 => ∃ i, x = .int i ∧ Q (some i) H1) : tPart te σ H Q := h
theorem s_exint {i : Int} {F : Int → Prop} (h : F i) : ∃ k, V.int i = .int k ∧ F k := ⟨i, rfl, h⟩
theorem s_for {wi : TI} (h : wi σ H fun J H1 => ∃ W : Nat → Nat → St → Hp → Prop, (∃ m, W 0 m σ H1) ∧ ∀ i m σ H, W i m σ H →
  (J.stop i H ∧ n σ H) ∨ (J.go i H ∧ ∃ N : St → Hp → Prop, (∀ σ' H', N σ' H' → ∃ m', m' < m ∧ W (i + 1) m' σ' H') ∧ ∀ x H', J.yld i H x H' → g x σ H' fun σ2 H2 => t ⟨N, R, n, N⟩ σ2 H2)) : tFor wi g t ⟨n, R, b, c⟩ σ H := h
theorem s_ilist {tl : TE} {R : It → Hp → Prop} (h : tl σ H fun x H1 => ∃ a, x = .ref a ∧ (∃ xs, SqL K H1 a xs) ∧ R (Itl K a) H1) : iList K tl σ H R := h
theorem s_ilist2 {a : Addr} {xs : List V} {F : Addr → Prop} (h1 : SqL K H a xs) (h : F a) : ∃ a', V.ref a = .ref a' ∧ (∃ xs, SqL K H a' xs) ∧ F a' := ⟨a, rfl, ⟨xs, h1⟩, h⟩
theorem s_itup {tl : TE} {R : It → Hp → Prop} (h : tl σ H fun x H1 => ∃ a, x = .ref a ∧ (∃ xs, SqT K H1 a xs) ∧ R (Itt K a) H1) : iTup K tl σ H R := h
theorem s_itup2 {a : Addr} {xs : List V} {F : Addr → Prop} (h1 : SqT K H a xs) (h : F a) : ∃ a', V.ref a = .ref a' ∧ (∃ xs, SqT K H a' xs) ∧ F a' := ⟨a, rfl, ⟨xs, h1⟩, h⟩
theorem s_irng1 {ts : TA} {R : It → Hp → Prop} (h : ts σ H fun vs H1 => ∃ j : Int, vs = [.int j] ∧ -(2 ^ 62) ≤ j ∧ j < 2 ^ 62 ∧ R (Itr 0 j.toNat) H1) : iRng1 ts σ H R := h
theorem s_irng2 {ts : TA} {R : It → Hp → Prop} (h : ts σ H fun vs H1 => ∃ i j : Int, vs = [.int i, .int j] ∧ (-(2 ^ 62) ≤ i ∧ i < 2 ^ 62 ∧ -(2 ^ 62) ≤ j ∧ j < 2 ^ 62) ∧ R (Itr i (j - i).toNat) H1) : iRng2 ts σ H R := h
theorem s_sfld {tv : TE} {f : Str} (h : tv σ H fun y H1 => ta σ H1 fun x H2 => ∃ a C dx fs, x = .ref a ∧ H2 a = some (.ins C dx fs) ∧ Cls K C ∧ NoAttr K C f ∧ fs.length < 1000 ∧ n σ (upd H2 a (.ins C dx (putF f y fs)))) : sFld K ta tv f ⟨n, R, b, c⟩ σ H := h
theorem s_sfld2 {a C dx : Addr} {fs : List (Str × V)} {f : Str} {F : Addr → Addr → Addr → List (Str × V) → Prop} (h1 : H a = some (.ins C dx fs)) (h2 : Cls K C) (h3 : NoAttr K C f) (h4 : fs.length < 1000) (h : F a C dx fs) :
    ∃ a' C dx fs, V.ref a = .ref a' ∧ H a' = some (.ins C dx fs) ∧ Cls K C ∧ NoAttr K C f ∧ fs.length < 1000 ∧ F a' C dx fs := ⟨a, C, dx, fs, rfl, h1, h2, h3, h4, h⟩
theorem s_bm {T : String} {r : V → List V → Hp → VK → Prop} {ts : TA} (h : te σ H fun x H1 => tyV K T x H1 ∧ ts σ H1 fun xs H2 => r x xs H2 Q) : tBM K T r te ts σ H Q := h
theorem s_bm0 {T : String} {r : V → List V → Hp → VK → Prop} (h : te σ H fun x H1 => tyV K T x H1 ∧ r x [] H1 Q) : tBM0 K T r te σ H Q := h
theorem s_dget {ty : TE} (h : te σ H fun x H1 => ty σ H1 fun y H2 => ∃ a v, x = .ref a ∧ DGet H2 a y (some v) ∧ Q v H2) : tDGet te ty σ H Q := h
theorem s_din {ty : TE} (h : ty σ H fun y H1 => te σ H1 fun x H2 => ∃ a o, x = .ref a ∧ DGet H2 a y o ∧ Q (.bl o.isSome) H2) : tDIn ty te σ H Q := h
theorem s_dnotin {ty : TE} (h : ty σ H fun y H1 => te σ H1 fun x H2 => ∃ a o, x = .ref a ∧ DGet H2 a y o ∧ Q (.bl (!o.isSome)) H2) : tDNotIn ty te σ H Q := h
theorem s_dput {ty tv : TE} (h : tv σ H fun v H1 => te σ H1 fun x H2 => ty σ H2 fun y H3 => ∃ a H4, x = .ref a ∧ DPut H3 a y v H4 ∧ n σ H4) : sDPut te ty tv ⟨n, R, b, c⟩ σ H := h
theorem s_dget2 {ty tx : TE} (h : te σ H fun x H1 => ∃ a, x = .ref a ∧ IsD H1 a ∧ ty σ H1 fun y H2 => tx σ H2 fun z H3 => ∃ o, DGet H3 a y o ∧ Q (o.getD z) H3) : tDGet2 te ty tx σ H Q := h
theorem s_dget1 {ty : TE} (h : te σ H fun x H1 => ∃ a, x = .ref a ∧ IsD H1 a ∧ ty σ H1 fun y H2 => ∃ o, DGet H2 a y o ∧ Q (o.getD .non) H2) : tDGet1 te ty σ H Q := h
theorem s_dnew (h : ∀ p, H p = none → Q (.ref p) (upd H p (.dK []))) : tDNewK σ H Q := h
/-! operators on known values -/
theorem s_i0 {g : Int → Int → V} {i j : Int} (h : Q (g i j) H) : rI0 g (.int i) (.int j) H Q := ⟨i, j, rfl, rfl, h⟩
theorem s_i1 {g : Int → Int → V} {C : Int → Int → Prop} {i j : Int} (hc : C i j) (h : Q (g i j) H) : rI C g (.int i) (.int j) H Q := ⟨i, j, rfl, rfl, hc, h⟩
theorem s_addI {i j : Int} (h : Q (.int (i + j)) H) : rAdd3 K (.int i) (.int j) H Q := .inl ⟨i, j, rfl, rfl, h⟩
theorem s_addS {i j : Str} (hl : i.length + j.length ≤ sizeLine) (h : Q (.str (i ++ j)) H) : rAdd3 K (.str i) (.str j) H Q := .inr (.inl ⟨i, j, rfl, rfl, hl, h⟩)
theorem s_addL {i j : Addr} {xs ys : List V} (h1 : H i = some (.lst xs)) (h2 : H j = some (.lst ys)) (hl : xs.length + ys.length ≤ sizeLine) (h : ∀ p, H p = none → Q (.ref p) (upd H p (.lst (xs ++ ys)))) : rAdd3 K (.ref i) (.ref j) H Q := .inr (.inr (.inl ⟨i, j, xs, ys, rfl, rfl, h1, h2, hl, h⟩))
theorem s_mulI {i j : Int} (hc : CMul i j) (h : Q (.int (i * j)) H) : rMul3 K (.int i) (.int j) H Q := .inl ⟨i, j, rfl, rfl, hc, h⟩
theorem s_mulW {i j : Int} (hc : CMulW i j) (h : Q (.int (i * j)) H) : rMul3 K (.int i) (.int j) H Q := .inr (.inl ⟨i, j, rfl, rfl, hc, h⟩)
theorem s_mulL {l : Addr} {xs : List V} {k : Int} (h0 : H l = some (.lst xs)) (h1 : -(2 ^ 63) ≤ k) (h2 : k < 2 ^ 63) (h3 : xs.length * k.toNat ≤ sizeLine) (h : ∀ p, H p = none → Q (.ref p) (upd H p (.lst (List.replicate k.toNat xs).flatten))) : rMul3 K (.ref l) (.int k) H Q := .inr (.inr (.inl ⟨l, k, xs, rfl, rfl, h0, h1, h2, h3, h⟩))
theorem s_eqI {i j : Int} (h : Q (.bl (decide (i = j))) H) : rEq3 K (.int i) (.int j) H Q := .inl ⟨rfl, by rw [show decide (V.int i = V.int j) = decide (i = j) from by simp]; exact h⟩
theorem s_eqS {i j : Str} (h : Q (.bl (decide (i = j))) H) : rEq3 K (.str i) (.str j) H Q := .inl ⟨rfl, by rw [show decide (V.str i = V.str j) = decide (i = j) from by simp]; exact h⟩
theorem s_neI {i j : Int} (h : Q (.bl (!decide (i = j))) H) : rNe3 K (.int i) (.int j) H Q := .inl ⟨rfl, by rw [show decide (V.int i = V.int j) = decide (i = j) from by simp]; exact h⟩
theorem s_neB {i j : Bool} (h : Q (.bl (!decide (i = j))) H) : rNe3 K (.bl i) (.bl j) H Q := .inl ⟨rfl, by rw [show decide (V.bl i = V.bl j) = decide (i = j) from by simp]; exact h⟩
theorem s_neS {i j : Str} (h : Q (.bl (!decide (i = j))) H) : rNe3 K (.str i) (.str j) H Q := .inl ⟨rfl, by rw [show decide (V.str i = V.str j) = decide (i = j) from by simp]; exact h⟩
theorem s_eqD {x y : V} {d e : PyData} (h1 : Dp K H x d) (h2 : Dp K H y e) (s1 : SeqAt.shaped d = true) (s2 : SeqAt.shaped e = true) (h : Q (.bl (PyData.eqv d e)) H) : rEq3 K x y H Q := .inr (.inl ⟨d, e, h1, h2, s1, s2, h⟩)
theorem s_neD {x y : V} {d e : PyData} (h1 : Dp K H x d) (h2 : Dp K H y e) (s1 : SeqAt.shaped d = true) (s2 : SeqAt.shaped e = true) (h : Q (.bl (!PyData.eqv d e)) H) : rNe3 K x y H Q := .inr (.inl ⟨d, e, h1, h2, s1, s2, h⟩)
theorem s_ltI {i j : Int} (h : Q (.bl (decide (i < j))) H) : rLt3 K (.int i) (.int j) H Q := .inl ⟨i, j, rfl, rfl, h⟩
theorem s_isN {x : V} (h : Q (.bl (decide (x = .non))) H) : rIs3 x .non H Q := .inl ⟨rfl, h⟩
theorem s_isNotN {x : V} (h : Q (.bl (!decide (x = .non))) H) : rIsNot3 x .non H Q := .inl ⟨rfl, h⟩
theorem s_inD {x : V} {p : Addr} {xs : List V} (h0 : SqL K H p xs ∨ SqT K H p xs) (h1 : flatV x = true) (h2 : xs.all flatV = true) (h : Q (.bl (inV x xs)) H) : rIn3 K x (.ref p) H Q := .inl ⟨p, xs, rfl, h0, h1, h2, h⟩
theorem s_lenL {p : Addr} {xs : List V} (h0 : SqL K H p xs) (h : Q (.int xs.length) H) : rLen3 K [.ref p] H Q := .inl ⟨_, _, rfl, .inl ⟨xs, h0, rfl⟩, h⟩
theorem s_lenT {p : Addr} {xs : List V} (h0 : SqT K H p xs) (h : Q (.int xs.length) H) : rLen3 K [.ref p] H Q := .inl ⟨_, _, rfl, .inr ⟨xs, h0, rfl⟩, h⟩
theorem s_lenS {x : Str} (hl : x.length ≤ sizeLine) (h : Q (.int x.length) H) : rLen3 K [.str x] H Q := .inl ⟨_, _, rfl, ⟨hl, rfl⟩, h⟩
theorem s_lenD {p : Addr} {kvs : List (Key × V)} (h0 : H p = some (.dK kvs)) (h : Q (.int kvs.length) H) : rLen3 K [.ref p] H Q := .inr (.inl ⟨p, kvs, rfl, h0, h⟩)
theorem s_ixL {p : Addr} {xs : List V} {i : Int} {v : V} (h0 : SqL K H p xs) (h1 : atI xs i = some v) (h : Q v H) : rIx K (.ref p) (.int i) H Q := .inl ⟨p, xs, i, v, rfl, rfl, h0, h1, h⟩
theorem s_ixT {p : Addr} {xs : List V} {i : Int} {v : V} (h0 : SqT K H p xs) (h1 : atI xs i = some v) (h : Q v H) : rIx K (.ref p) (.int i) H Q := .inr (.inl ⟨p, xs, i, v, rfl, rfl, h0, h1, h⟩)
theorem s_ifT {k : Bool} {A B : Prop} (hk : k = true) (h : A) : if k = true then A else B := by rw [if_pos hk]; exact h
theorem s_ifF {k : Bool} {A B : Prop} (hk : k = false) (h : B) : if k = true then A else B := by rw [hk, if_neg Bool.false_ne_true]; exact h
theorem s_if {k : Bool} {A B : Prop} (h1 : k = true → A) (h2 : k = false → B) : if k = true then A else B := by
  cases k
  · rw [if_neg Bool.false_ne_true]; exact h2 rfl
  · rw [if_pos rfl]; exact h1 rfl
theorem s_ifD {p : Prop} [Decidable p] {A B : Prop} (h1 : p → A) (h2 : ¬ p → B) : if decide p = true then A else B := by
  by_cases h : p
  · rw [if_pos (decide_eq_true h)]; exact h1 h
  · rw [if_neg (by simp [h])]; exact h2 h
theorem s_ifN {p : Prop} [Decidable p] {A B : Prop} (h1 : ¬ p → A) (h2 : p → B) : if (!decide p) = true then A else B := by
  by_cases h : p
  · rw [if_neg (by simp [h])]; exact h2 h
  · rw [if_pos (by simp [h])]; exact h1 h
end

/-! ### the rules with the written part told apart (a comprehension's block has it under a binder) -/
section
variable {X : Cx}
theorem k_add (K : PySem.W.Frag) (hK : X.K = K := by rfl) : OpR X (binaryOp .Add) (rAdd3 K) := by subst hK; exact op_add3
theorem k_mul (K : PySem.W.Frag) (hK : X.K = K := by rfl) : OpR X (binaryOp .Mult) (rMul3 K) := by subst hK; exact op_mul3
theorem k_eq (K : PySem.W.Frag) (hu : X.A.units + 64 < cLine) (hK : X.K = K := by rfl) : OpR X (compareOp .Eq) (rEq3 K) := by subst hK; exact op_eq3 hu
theorem k_ne (K : PySem.W.Frag) (hu : X.A.units + 64 < cLine) (hK : X.K = K := by rfl) : OpR X (compareOp .NotEq) (rNe3 K) := by subst hK; exact op_ne3 hu
theorem k_lt (K : PySem.W.Frag) (hu : X.A.units + 64 < cLine) (hK : X.K = K := by rfl) : OpR X (compareOp .Lt) (rLt3 K) := by subst hK; exact op_lt3 hu
theorem k_in (K : PySem.W.Frag) (hK : X.K = K := by rfl) : OpR X (compareOp .In) (rIn3 K) := by subst hK; exact op_in3
theorem k_notin (K : PySem.W.Frag) (hK : X.K = K := by rfl) : OpR X (compareOp .NotIn) (rNotIn3 K) := by subst hK; exact op_notin3
theorem k_len (K : PySem.W.Frag) (hK : X.K = K := by rfl) : CallR X (.builtin "len") (rLen3 K) := by subst hK; exact call_len3
theorem k_isi (K : PySem.W.Frag) (hK : X.K = K := by rfl) : CallR X (.builtin "isinstance") (rIsi K) := by subst hK; exact call_isi
theorem k_isiT (K : PySem.W.Frag) (hK : X.K = K := by rfl) : CallR X (.builtin "isinstance") (rIsiT K) := by subst hK; exact call_isiT
theorem k_ix (K : PySem.W.Frag) (hK : X.K = K := by rfl) : IxR X (rIx K) := by subst hK; exact ix_seq
theorem k_sll (K : PySem.W.Frag) (hK : X.K = K := by rfl) : SlR X (rSlL K) := by subst hK; exact sl_list
theorem k_slt (K : PySem.W.Frag) (hK : X.K = K := by rfl) : SlR X (rSlA K) := by subst hK; exact sl_tupA
theorem k_min (K : PySem.W.Frag) (hc : X.calm = true) (hK : X.K = K := by rfl) : CallR X (.builtin "min") (rMin K) := by subst hK; exact cr_min hc
theorem k_max (K : PySem.W.Frag) (hc : X.calm = true) (hK : X.K = K := by rfl) : CallR X (.builtin "max") (rMax K) := by subst hK; exact cr_max hc
theorem k_all (K : PySem.W.Frag) (hc : X.calm = true) (hK : X.K = K := by rfl) : CallR X (.builtin "all") (rAll K) := by subst hK; exact cr_all hc
theorem k_any (K : PySem.W.Frag) (hc : X.calm = true) (hK : X.K = K := by rfl) : CallR X (.builtin "any") (rAny K) := by subst hK; exact cr_any hc
theorem k_sortedI (K : PySem.W.Frag) (hK : X.K = K := by rfl) : CallR X (.builtin "sorted") (rSortedI K) := by subst hK; exact cr_sortedI
def rListOf (K : PySem.W.Frag) : List V → Hp → VK → Prop := fun xs H Q => ∃ p ys, xs = [.ref p] ∧ (SqL K H p ys ∨ SqT K H p ys) ∧ ∀ l, H l = none → Q (.ref l) (upd H l (.lst ys))
theorem k_list (K : PySem.W.Frag) (hK : X.K = K := by rfl) : CallR X (.type "list") (rListOf K) := by subst hK; exact call_list_of
def rTupOf (K : PySem.W.Frag) : List V → Hp → VK → Prop := fun xs H Q => ∃ p ys, xs = [.ref p] ∧ ((SqL K H p ys ∧ ∀ l, H l = none → Q (.ref l) (upd H l (.tup ys))) ∨ (SqT K H p ys ∧ Q (.ref p) H))
theorem k_tuple (K : PySem.W.Frag) (hK : X.K = K := by rfl) : CallR X (.type "tuple") (rTupOf K) := by subst hK; exact call_tuple_of
variable {e o value : Expr} {ta to tv : TE} {f name : Str} {pos pos' apos cpos tpos : Pos} {es : List Expr} {t : TA} {T id : String} {r : V → List V → Hp → VK → Prop}
theorem k_fld (K : PySem.W.Frag) (he : PE X e ta) (hb : attributeBase e f X.env (eval e X.env) = eval e X.env) (hK : X.K = K := by rfl) : PE X (.Attribute e f pos) (tFld K ta f) := by subst hK; exact pe_fld he hb
theorem k_sfld (K : PySem.W.Frag) (ha : PE X o ta) (hv : PE X value tv) (hs : swapsWith value (some (.Attribute o f pos')) pos.line X.env = pure false) (hK : X.K = K := by rfl) : PS X (.Assign [.Attribute o f pos'] value pos) (sFld K ta tv f) := by subst hK; exact ps_fld ha hv hs
theorem k_sfldaug (K : PySem.W.Frag) {op : Operator} {rd : V → V → Hp → VK → Prop} (ha : PE X o ta) (hv : PE X value tv) (hop : InOp X op rd) (hK : X.K = K := by rfl) : PS X (.AugAssign (.Attribute o f tpos) op value pos) (sFldAug K ta tv rd f) := by subst hK; exact ps_fldaug ha hv hop
theorem k_bm (K : PySem.W.Frag) (pa : PlainAttrs T) (slot : Slot T name id) (hty : typeOf (.builtin id) = pure (.type "method_descriptor")) (hm : MtR X id r) (ho : PE X o to) (ha : PA X (e :: es) t)
    (hK : X.K = K := by rfl) (hbase : attributeBase o name X.env (eval o X.env) = eval o X.env := by rfl)
    (hfew : ((backTo cpos (starEach (e :: es) X.env)).all (fun x => !x.1) && (backToKw cpos (keywordEach [] X.env)).all (fun x => x.1.isSome)
      && decide ((e :: es).length + ([] : List Keyword).length + (if ([] : List Keyword).isEmpty then 0 else 1) < 30)) = true := by rfl)
    (hline : (apos.endLine == cpos.line) = true := by rfl) (hs : starEach (e :: es) X.env = (false, eval e X.env) :: starEach es X.env := by rfl) (hplain : (backTo cpos (starEach es X.env)).any (·.1) = false := by rfl) :
    PE X (.Call (.Attribute o name apos) (e :: es) [] cpos) (tBM K T r to t) := by subst hK; exact pe_bm pa slot hty hm ho ha hbase hfew hline hs hplain
theorem k_bm0 (K : PySem.W.Frag) (pa : PlainAttrs T) (slot : Slot T name id) (hty : typeOf (.builtin id) = pure (.type "method_descriptor")) (hm : MtR X id r) (ho : PE X o to)
    (hK : X.K = K := by rfl) (hbase : attributeBase o name X.env (eval o X.env) = eval o X.env := by rfl) (hline : (apos.endLine == cpos.line) = true := by rfl) : PE X (.Call (.Attribute o name apos) [] [] cpos) (tBM0 K T r to) := by subst hK; exact pe_bm0 pa slot hty hm ho hbase hline
theorem kg_tup (K : PySem.W.Frag) {es : List Expr} {k : Nat} {t : TGs} {n : Nat} (hc : X.calm = true) (h : PGs X es t)
    (hK : X.K = K := by rfl) (hn : (assignEach es X.env).length = n := by rfl) (hst : (assignEach es X.env).findIdx? (·.1) = none := by rfl) : PG X (.Tuple es k pos) (gTup K n t) := by subst hK; exact pg_tup hc h hn hst
theorem kg_lst (K : PySem.W.Frag) {es : List Expr} {k : Nat} {t : TGs} {n : Nat} (hc : X.calm = true) (h : PGs X es t)
    (hK : X.K = K := by rfl) (hn : (assignEach es X.env).length = n := by rfl) (hst : (assignEach es X.env).findIdx? (·.1) = none := by rfl) : PG X (.Tuple es k pos) (gLst K n t) := by subst hK; exact pg_lst hc h hn hst
theorem ki_list (K : PySem.W.Frag) {tg l : Expr} {tl : TE} (hl : PE X l tl) (hK : X.K = K := by rfl) : PI X tg l (iList K tl) := by subst hK; exact pi_list hl
theorem ki_tup (K : PySem.W.Frag) {tg l : Expr} {tl : TE} (hl : PE X l tl) (hK : X.K = K := by rfl) : PI X tg l (iTup K tl) := by subst hK; exact pi_tup hl
end
end Lt

set_option Elab.async false
set_option linter.all false
set_option maxRecDepth 100000
set_option maxHeartbeats 4000000
/-! Lt2: rules that the layer lacks: sorted(d.items()), dict(a tuple of pairs). -/
namespace Lt
open PySem PySem.Spec PyProof.Rows L2

/-! ### data without lists -/
mutual
def tupOnly : PyData → Bool
  | .none => true | .bool _ => true | .int _ => true | .str _ => true
  | .list _ => false | .dict _ => false
  | .tuple ds => tupOnlyAll ds
def tupOnlyAll : List PyData → Bool
  | [] => true
  | d :: ds => tupOnly d && tupOnlyAll ds
end
mutual
theorem reads_nil {h : Heap} : ∀ {d : PyData} {v : Value} {as : List Addr}, tupOnly d = true → Reads h v d as → as = []
  | .none, _, _, _, .none => rfl
  | .bool _, _, _, _, .bool _ => rfl
  | .int _, _, _, _, .int _ _ => rfl
  | .str _, _, _, _, .str _ _ => rfl
  | .list _, _, _, t, _ => absurd t (by simp [tupOnly])
  | .dict _, _, _, t, _ => absurd t (by simp [tupOnly])
  | .tuple ds, _, _, t, .tuple _ _ _ r => readsAll_nil (by simpa [tupOnly] using t) r
theorem readsAll_nil {h : Heap} : ∀ {ds : List PyData} {vs : List Value} {as : List Addr}, tupOnlyAll ds = true → ReadsAll h vs ds as → as = []
  | [], _, _, _, .nil => rfl
  | d :: ds, _, _, t, .cons r1 r2 => by
    have t' : tupOnly d = true ∧ tupOnlyAll ds = true := by simpa [tupOnlyAll] using t
    rw [reads_nil t'.1 r1, readsAll_nil t'.2 r2]
    rfl
end

/-! ### d.items() -/
def rItemsK : V → List V → Hp → VK → Prop := fun x xs H Q => ∃ a, x = .ref a ∧ xs = [] ∧ ((∃ kvs, H a = some (.dK kvs)) ∨ ∃ kvs, H a = some (.dT kvs)) ∧ ∀ p, H p = none → Q (.ref p) (upd H p (DX.itemsO p a))
section
variable {X : Cx}
theorem raw_of {pins : List (Addr × Obj)} {σ : St} {H : Hp} {s : Shared} {a : Addr} (I : Inv X pins σ H s) (h : (∃ kvs, H a = some (.dK kvs)) ∨ ∃ kvs, H a = some (.dT kvs)) : ∃ es ep, (a == sysModules) = false ∧ DT.Raw s.heap a es ep := by
  rcases h with ⟨kvs, ha⟩ | ⟨kvs, ha⟩
  · obtain ⟨_, hd, vs, _, o, es, ep, ho, hx, hdat, _⟩ := (show ObjOk X.prog X.w H s.heap a (.dK kvs) from I.hok a _ ha)
    exact ⟨es, ep, hd, o, ho, hx, hdat⟩
  · obtain ⟨_, hd, vs, _, o, es, ep, ho, hx, hdat, _⟩ := (show ObjOk X.prog X.w H s.heap a (.dT kvs) from I.hok a _ ha)
    exact ⟨es, ep, hd, o, ho, hx, hdat⟩
theorem mt_itemsK : MtR X "dict.items" rItemsK := by
  intro pins s σ H x xs v us Q I rx rxs h
  obtain ⟨a, rfl, rfl, ha, q⟩ := h
  cases rx
  cases rxs
  obtain ⟨es, ep, hd, raw⟩ := raw_of I ha
  refine DT.callItems (es := es) (ep := ep) hd raw ?_
  have hf : H s.heap.objs.size = none := I.hok.fresh (Nat.le_refl _)
  exact ⟨.ref s.heap.objs.size, upd H s.heap.objs.size (DX.itemsO s.heap.objs.size a), I.laid (t' := s.toks) (fun b u e => Heap.get?_push_of_some _ e) (Nat.le_refl _) (DX.itemsO_ok (Heap.get?_push_size _ rfl)), rfl, q _ hf⟩

/-! ### sorted(d.items()) -/
/-- the pairs' data -/
def encP (ek ev : V × V → PyData) (p : V × V) : PyData := .tuple [ek p, ev p]
/-- what is asked of the entries, and what is handed on -/
def SortBody (K : PySem.W.Frag) (H : Hp) (Q : VK) (ps : List (V × V)) : Prop := ∃ ek ev : V × V → PyData,
  (∀ p ∈ ps, Dp K H p.1 (ek p) ∧ Dp K H p.2 (ev p) ∧ tupOnly (ek p) = true ∧ tupOnly (ev p) = true ∧ (encP ek ev p).depth ≤ 50) ∧ PySem.W.AllAlike (ps.map (encP ek ev)) ∧
  ∀ (H2 : Hp) (l : Addr) (zs : List ((V × V) × Addr)), (∀ b o, H b = some o → H2 b = some o) → zs.map (·.1) = ps.mergeSort (PySem.W.dataLe false (encP ek ev)) → H2 l = some (.lst (zs.map fun z => .ref z.2)) →
    (∀ z ∈ zs, H2 z.2 = some (.tup [z.1.1, z.1.2])) → Q (.ref l) H2
def rSortV (K : PySem.W.Frag) : List V → Hp → VK → Prop := fun vs H Q => ∃ p a, vs = [.ref p] ∧ H p = some (DX.itemsO p a) ∧
  ((∃ kvs, H a = some (.dK kvs) ∧ SortBody K H Q (kvs.map fun kv => (kV kv.1, kv.2))) ∨
   (∃ kvs, H a = some (.dT kvs) ∧ ∀ ps, Paired (fun (p : V × V) (kv : List Key × V) => (∃ q, p.1 = .ref q ∧ H q = some (.tup (kv.1.map kV))) ∧ p.2 = kv.2) ps kvs → SortBody K H Q ps))
theorem alike_enc {ek ev : V × V → PyData} {ps : List (V × V)} {as : List Addr} (hal : PySem.W.AllAlike (ps.map (encP ek ev))) (hl : ps.length = as.length) :
    PySem.W.AllAlike ((ps.zip as).map fun b => encP ek ev b.1) := by
  intro d hd d' hd'
  have e : (ps.zip as).map (fun b => encP ek ev b.1) = ps.map (encP ek ev) := by
    have z : (ps.zip as).map (fun b => encP ek ev b.1) = ((ps.zip as).map (·.1)).map (encP ek ev) := by rw [List.map_map]; rfl
    rw [z, List.map_fst_zip (by omega)]
  rw [e] at hd hd'
  exact hal d hd d' hd'
theorem sorted_core {pins : List (Addr × Obj)} {σ : St} {H : Hp} {s : Shared} {Q : VK} {p a : Addr} {ps : List (V × V)} {es : Array DictEntry} {ep : Nat} (hc : X.calm = true) (hu : X.A.units + 64 < cLine) (I : Inv X pins σ H s)
    (view : s.heap.IsItemsView p a) (raw : DT.Raw s.heap a es ep) (hz : es.size ≤ sizeLine) (hlen : ps.length = es.size) (ent : ∀ (j : Nat) (e : DictEntry), es[j]? = some e → ∃ q, ps[j]? = some q ∧ RelV q.1 e.key ∧ RelV q.2 e.val)
    (hb : SortBody X.K H Q ps) : wpAny (model X.prog X.w) X.A (call (.builtin "sorted") [.ref p]) (EP X pins σ Q) X.xe s := by
  obtain ⟨ek, ev, hd, hal, q⟩ := hb
  have hh : X.A.handled = none := I.ok.hd hc
  refine DT.sortedI (es := es) (ep := ep) hh view raw hz fun h' tk as hk hlt hl hG => ?_
  have hl2 : ps.length = as.length := by omega
  have nd : as.Nodup := List.Pairwise.imp (fun h => Nat.ne_of_lt h) hG.rise
  have pr : ∀ (j : Nat) (b : Addr), as[j]? = some b → ∃ (z : V × V) (ku vu : Value), ps[j]? = some z ∧ RelV z.1 ku ∧ RelV z.2 vu ∧ h'.get? b = some { cls := .type "tuple", data := .seq #[ku, vu] } := by
    intro j b hj
    obtain ⟨en, he, hg⟩ := hG.pairs j b hj
    obtain ⟨z, hz', r1, r2⟩ := ent j en he
    exact ⟨z, en.key, en.val, hz', r1, r2, hg⟩
  have hob : (h'.push { cls := .type "list", data := .seq (as.map Value.ref).toArray }).get? h'.objs.size = some (seqObj "list" (as.map Value.ref).toArray 0) := Heap.get?_push_size _ rfl
  have kb : ∀ b o, s.heap.get? b = some o → (h'.push { cls := .type "list", data := .seq (as.map Value.ref).toArray }).get? b = some o := fun b o e => Heap.get?_push_of_some _ (hk b o e)
  have ne0 : ∀ b o, h'.get? b = some o → b ≠ h'.objs.size := fun b o e => Nat.ne_of_lt (Heap.lt_size e)
  generalize hh2 : h'.push { cls := .type "list", data := .seq (as.map Value.ref).toArray } = h2 at hob kb ⊢
  have ka : ∀ b o, h'.get? b = some o → h2.get? b = some o := fun b o e => by rw [← hh2]; exact Heap.get?_push_of_some _ e
  -- the items
  let R : Value → (V × V) × Addr → Prop := fun v b => v = .ref b.2 ∧ ∃ j : Nat, as[j]? = some b.2 ∧ ps[j]? = some b.1
  have zipAt : ∀ (j : Nat) (z : (V × V) × Addr), (ps.zip as)[j]? = some z → ps[j]? = some z.1 ∧ as[j]? = some z.2 := fun j z hj => List.getElem?_zip_eq_some.mp hj
  have e0 : PySem.W.EachIs R (as.map Value.ref) (ps.zip as) := by
    refine PySem.W.EachIs.of_zip (by rw [List.length_map, List.length_zip]; omega) fun w hw => ?_
    obtain ⟨j, hj⟩ := List.mem_iff_getElem?.mp hw
    obtain ⟨h1, h2'⟩ := List.getElem?_zip_eq_some.mp hj
    obtain ⟨h3, h4⟩ := zipAt j _ h2'
    rw [List.getElem?_map, h4] at h1
    exact ⟨(Option.some.inj h1).symm, j, h4, h3⟩
  have rd : ∀ b : (V × V) × Addr, ∀ v : Value, R v b → ∃ rs, Reads h2 v (encP ek ev b.1) rs ∧ h'.objs.size ∉ rs := by
    rintro b v ⟨rfl, j, j1, j2⟩
    obtain ⟨z, ku, vu, hz', r1, r2, hg⟩ := pr j b.2 j1
    have ez : z = b.1 := Option.some.inj (hz'.symm.trans j2)
    subst ez
    obtain ⟨d1, d2, t1, t2, _⟩ := hd b.1 (List.mem_of_getElem? j2)
    obtain ⟨a1, q1⟩ := Dp.reads I (ek b.1) _ _ d1 r1
    obtain ⟨a2, q2⟩ := Dp.reads I (ev b.1) _ _ d2 r2
    have n1 := reads_nil t1 q1
    have n2 := reads_nil t2 q2
    subst n1 n2
    refine ⟨[] ++ ([] ++ []), Reads.tuple (ka _ _ hg) rfl rfl (.cons (PyProof.Rows.Reads.keeps kb q1) (.cons (PyProof.Rows.Reads.keeps kb q2) .nil)), by simp⟩
  have hsort : PySem.W.Sortable ((ps.zip as).map fun b => encP ek ev b.1) := PySem.W.Sortable.tuples fun b => ⟨_, _, rfl⟩
  refine PySem.W.list_sort_data (A := X.A.in1) (s := { s with heap := h2, toks := tk }) (R := R) (enc := fun b => encP ek ev b.1) (bs := ps.zip as) hob e0 ?_ (alike_enc hal hl2) hsort (by rw [List.length_zip]; omega) (fun b hb => ?_) fun out ho eo => ?_
  · exact PySem.W.EachIs.mono (fun v b r => rd b v r) e0
  · obtain ⟨j, hj⟩ := List.mem_iff_getElem?.mp hb
    have := (hd b.1 (List.mem_of_getElem? (zipAt j _ hj).1)).2.2.2.2
    show X.A.units + 1 + 1 + (encP ek ev b.1).depth < cLine
    omega
  · show EP X pins σ Q (.ref h'.objs.size) { s with heap := sortedHeap h2 h'.objs.size (as.map Value.ref) out.toArray, toks := tk }
    let zs := (ps.zip as).mergeSort (PySem.W.dataLe false fun b => encP ek ev b.1)
    have zperm : zs.Perm (ps.zip as) := List.mergeSort_perm _ _
    have idx : ∀ z ∈ zs, ∃ j : Nat, as[j]? = some z.2 ∧ ps[j]? = some z.1 := by
      intro z' hz'
      obtain ⟨j, hj⟩ := List.mem_iff_getElem?.mp (zperm.mem_iff.mp hz')
      exact ⟨j, (zipAt j _ hj).2, (zipAt j _ hj).1⟩
    have hout : out = zs.map fun z => Value.ref z.2 := by
      have key : ∀ {o : List Value} {b : List ((V × V) × Addr)}, PySem.W.EachIs R o b → o = b.map fun z => Value.ref z.2 := by
        intro o b hob
        induction hob with
        | nil => rfl
        | cons r _ ih => rw [List.map_cons, ih, r.1]
      exact key eo
    have hmap : zs.map (·.1) = ps.mergeSort (PySem.W.dataLe false (encP ek ev)) := by
      have m := PySem.W.sort_maps (r := PySem.W.dataLe false fun b : (V × V) × Addr => encP ek ev b.1) (s := PySem.W.dataLe false (encP ek ev)) (fun b => b.1) (l := ps.zip as) (fun a _ b _ => rfl)
      rw [List.map_fst_zip (by omega)] at m
      exact m
    have kF : ∀ b o, b ≠ h'.objs.size → h2.get? b = some o → (sortedHeap h2 h'.objs.size (as.map Value.ref) out.toArray).get? b = some o := fun b o hb e => (PyProof.Rows.sortedHeap_old hb (Heap.lt_size e)).trans e
    have kS : ∀ b o, s.heap.get? b = some o → (sortedHeap h2 h'.objs.size (as.map Value.ref) out.toArray).get? b = some o := fun b o e => kF b o (ne0 _ _ (hk b o e)) (kb b o e)
    obtain ⟨eF, heF⟩ := PyProof.Rows.sortedHeap_at (vs := as.map Value.ref) (out := out.toArray) hob
    have I1 : Inv X pins σ H { s with heap := sortedHeap h2 h'.objs.size (as.map Value.ref) out.toArray, toks := tk } := I.kept (t' := tk) kS
    have hn0 : H h'.objs.size = none := I.hok.fresh (Nat.le_of_lt hlt)
    have hlenz : (zs.map fun z => V.ref z.2).length ≤ sizeLine := by
      have e := zperm.length_eq
      rw [List.length_zip] at e
      rw [List.length_map]
      omega
    have rv : Vals (zs.map fun z => V.ref z.2) out.toArray.toList := by
      rw [List.toList_toArray, hout]
      have key : ∀ l : List ((V × V) × Addr), Vals (l.map fun z => V.ref z.2) (l.map fun z => Value.ref z.2) := by
        intro l
        induction l with
        | nil => exact .nil
        | cons x l ih => exact .cons rfl ih
      exact key zs
    have I2 : Inv X pins σ (upd H h'.objs.size (.lst (zs.map fun z => V.ref z.2))) { s with heap := sortedHeap h2 h'.objs.size (as.map Value.ref) out.toArray, toks := tk } :=
      I1.take (h' := sortedHeap h2 h'.objs.size (as.map Value.ref) out.toArray) (t' := tk) (fun b ob _ e => e) (I.fpOk (Nat.le_of_lt hlt) hn0) ⟨hlenz, out.toArray.toList, eF, rv, heF⟩
    obtain ⟨H2, I3, g, qt⟩ := DX.takeT (P := fun b vs => ∃ (j : Nat) (z : V × V), as[j]? = some b ∧ ps[j]? = some z ∧ vs = [z.1, z.2]) I as _ I2 nd fun b hb => by
      obtain ⟨j, hj⟩ := List.mem_iff_getElem?.mp hb
      obtain ⟨z, ku, vu, hz', r1, r2, hg⟩ := pr j b hj
      have hbl : s.heap.objs.size ≤ b := Nat.le_of_lt (hG.above b hb)
      refine ⟨hbl, ?_, [z.1, z.2], ⟨j, z, hj, hz', rfl⟩, fun H3 => ⟨(by rw [sizeLine_eq]; show 2 ≤ 16777216; omega), [ku, vu], .cons r1 (.cons r2 .nil), ⟨_, kF _ _ (ne0 _ _ hg) (ka _ _ hg), rfl, 0, rfl⟩⟩⟩
      rw [upd_ne (ne0 _ _ hg)]
      exact I.hok.fresh hbl
    have gr : ∀ b o, H b = some o → H2 b = some o := fun b o e => g b o (by rw [upd_ne (ne_of_none e hn0)]; exact e)
    refine ⟨.ref h'.objs.size, H2, I3, rfl, q H2 h'.objs.size zs gr hmap (g _ _ upd_same) fun z' hz' => ?_⟩
    obtain ⟨i, i1, i2⟩ := idx z' hz'
    obtain ⟨vs, ⟨j, z, j1, j2, ev'⟩, hH⟩ := qt z'.2 (List.mem_of_getElem? i1)
    have eij : i = j := (List.getElem?_inj (List.getElem?_eq_some_iff.mp i1).1 nd).mp (i1.trans j1.symm)
    subst eij
    have ee : z = z'.1 := Option.some.inj (j2.symm.trans i2)
    rw [ev', ee] at hH
    exact hH
theorem cr_sortedV (hc : X.calm = true) (hu : X.A.units + 64 < cLine) : CallR X (.builtin "sorted") (rSortV X.K) := by
  intro pins s σ H xs us Q I r h
  obtain ⟨p, a, rfl, hp, h⟩ := h
  obtain ⟨u0, rfl, ru⟩ := vals1 r
  cases (show u0 = Value.ref p from ru)
  have view : s.heap.IsItemsView p a := (show ObjOk X.prog X.w H s.heap p (DX.itemsO p a) from I.hok p _ hp).1
  rcases h with ⟨kvs, ha, hb⟩ | ⟨kvs, ha, hb⟩
  · obtain ⟨hz, hd, vs, rel, o, es, ep, ho, hx, hdat, hks, hpr, hnd⟩ := (show ObjOk X.prog X.w H s.heap a (.dK kvs) from I.hok a _ ha)
    have l1 : kvs.length = vs.length := Paired.length rel
    have l2 : es.size = vs.length := by rw [← hpr.length]; simp
    refine sorted_core hc hu I view ⟨o, ho, hx, hdat⟩ (by omega) (by rw [List.length_map]; omega) (fun j e he => ?_) hb
    have hj : j < vs.length := by rw [← l2]; exact (Array.getElem?_eq_some_iff.mp he).1
    have hv : vs[j]? = some vs[j] := List.getElem?_eq_getElem hj
    have hk : kvs[j]? = some (kvs[j]'(by omega)) := List.getElem?_eq_getElem (by omega)
    have g := hpr.get? (e := e) (i := j) (by simpa using he) hv
    have key : ∀ {l1 : List (Key × V)} {l2 : List (Key × Value)}, KV l1 l2 → ∀ {i : Nat} {x y}, l1[i]? = some x → l2[i]? = some y → x.1 = y.1 ∧ RelV x.2 y.2 := by
      intro l1 l2 h
      induction h with
      | nil => intro i x y h1; simp at h1
      | cons h _ ih =>
        intro i x y h1 h2
        cases i with
        | zero =>
          simp at h1 h2
          subst h1 h2
          exact h
        | succ i => exact ih (by simpa using h1) (by simpa using h2)
    obtain ⟨k1, k2⟩ := key rel hk hv
    refine ⟨(kV (kvs[j]'(by omega)).1, (kvs[j]'(by omega)).2), by rw [List.getElem?_map, hk]; rfl, ?_, by rw [g.2]; exact k2⟩
    have g1 : keyIs (vs[j]).1 e.key = true := g.1
    show RelV (kV (kvs[j]'(by omega)).1) e.key
    rw [k1]
    rcases keyIs_shape g1 with ⟨i, t, e1, e2⟩ | ⟨x, t, e1, e2⟩
    · rw [e1, e2]; exact ⟨t, rfl⟩
    · rw [e1, e2]; exact ⟨t, rfl⟩
  · obtain ⟨z, hd, xs', rel, o, es, ep, ho, hx, hdat, hes, his⟩ := (show ObjOk X.prog X.w H s.heap a (.dT kvs) from I.hok a _ ha)
    have l1 : kvs.length = xs'.length := Paired.length rel
    have l2 : es.size = xs'.length := size_of_entries hes
    -- a value for each of the entries
    have vals : ∀ {k : List (List Key × V)} {l : List (List Key × Addr × Value)}, Paired (fun (p : List Key × V) (q : List Key × Addr × Value) => p.1 = q.1 ∧ H q.2.1 = some (.tup (p.1.map kV)) ∧ RelV p.2 q.2.2) k l →
        ∃ ps : List (V × V), ps.length = l.length ∧ Paired (fun (p : V × V) (kv : List Key × V) => (∃ q, p.1 = .ref q ∧ H q = some (.tup (kv.1.map kV))) ∧ p.2 = kv.2) ps k ∧ ∀ (i : Nat) (y : List Key × Addr × Value), l[i]? = some y → ∃ p, ps[i]? = some p ∧ p.1 = .ref y.2.1 ∧ RelV p.2 y.2.2 := by
      intro k l h
      induction h with
      | nil => exact ⟨[], rfl, .nil, fun i y h => by simp at h⟩
      | @cons x y _ _ h _ ih =>
        obtain ⟨ps, e1, e2, e3⟩ := ih
        refine ⟨(.ref y.2.1, x.2) :: ps, by simp [e1], .cons ⟨⟨y.2.1, rfl, h.2.1⟩, rfl⟩ e2, fun i w hw => ?_⟩
        cases i with
        | zero =>
          simp at hw
          subst hw
          exact ⟨_, rfl, rfl, h.2.2⟩
        | succ i =>
          obtain ⟨p, p1, p2⟩ := e3 i w (by simpa using hw)
          exact ⟨p, by simpa using p1, p2⟩
    obtain ⟨ps, e1, e2, e3⟩ := vals rel
    refine sorted_core hc hu I view ⟨o, ho, hx, hdat⟩ (by omega) (by omega) (fun j e he => ?_) (hb ps e2)
    rw [entry_at hes j] at he
    cases hxj : xs'[j]? with
    | none => rw [hxj] at he; cases he
    | some x =>
      rw [hxj] at he
      have een : entryOfKey (tupleKind (mixKind X.prog X.w)) x = e := Option.some.inj he
      obtain ⟨p, p1, p2, p3⟩ := e3 j x hxj
      refine ⟨p, p1, ?_, ?_⟩
      · rw [p2, ← een]; rfl
      · rw [← een]; exact p3
end
end Lt

namespace Lt
open PySem PySem.Spec PyProof.Rows L2
/-! ### tuple(a list), known to the object; dict(such a tuple of pairs) -/
/-- a tuple without a dict of its own, known to the object -/
def FzT (H : Hp) (a : Addr) (xs : List V) : Prop := ∃ o : Obj, o.dict = none ∧ H a = some (.frz o (.tup xs))
theorem FzT.sq {K : PySem.W.Frag} {H : Hp} {a : Addr} {xs : List V} (h : FzT H a xs) : SqT K H a xs := let ⟨o, _, e⟩ := h; .inl (.inr ⟨o, e⟩)
section
variable {X : Cx}
def rTupF (K : PySem.W.Frag) : List V → Hp → VK → Prop := fun xs H Q => ∃ p ys, xs = [.ref p] ∧ SqL K H p ys ∧ ∀ (l : Addr) (o : Obj), H l = none → o.dict = none → Q (.ref l) (upd H l (.frz o (.tup ys)))
theorem call_tupF : CallR X (.type "tuple") (rTupF X.K) := by
  intro pins s σ H xs us Q I r h
  obtain ⟨p, ys, rfl, hq, q⟩ := h
  obtain ⟨u, rfl, rx⟩ := vals1 r
  cases rx
  obtain ⟨its, r', pl, hz⟩ := I.list hq
  have hlen := r'.length
  refine call_tuple_list pl.isList (fun h' kp => ?_) (by simp only [List.size_toArray] <;> omega)
  have I1 : Inv X pins σ H { s with heap := h' } := I.kept (t' := s.toks) kp
  have I2 : Inv X pins σ (upd H h'.objs.size (.frz { cls := .type "tuple", data := .seq its.toArray } (.tup ys))) { s with heap := h'.push { cls := .type "tuple", data := .seq its.toArray } } :=
    I1.laid (t' := s.toks) (fun b o e => Heap.get?_push_of_some _ e) (Nat.le_refl _)
      (show ObjOk X.prog X.w _ _ _ (.frz { cls := .type "tuple", data := .seq its.toArray } (.tup ys)) from ⟨Heap.get?_push_size _ rfl, hz, its, r', IsTup.new _ _⟩)
  exact ⟨.ref h'.objs.size, _, I2, rfl, q _ _ (I1.hok.fresh (Nat.le_refl _)) rfl⟩
def rDictT (K : PySem.W.Frag) : List V → Hp → VK → Prop := fun xs H Q => ∃ (a : Addr) (ps : List Addr) (kvs : List (Key × V)), xs = [.ref a] ∧ FzT H a (ps.map V.ref) ∧ Paired (fun p kv => SqT K H p [kV kv.1, kv.2]) ps kvs ∧
    ∀ p, H p = none → Q (.ref p) (upd H p (.dK (mergeK [] kvs)))
theorem call_dictT (hcalm : X.calm = true) : CallR X (.type "dict") (rDictT X.K) := by
  intro pins s σ H xs us Q I r q
  obtain ⟨a, ps, kvs, rfl, ⟨o, hod, ha⟩, hp, q⟩ := q
  obtain ⟨u, rfl, rx⟩ := vals1 r
  cases rx
  obtain ⟨ho, hz, its, rv, o', ho', hc, n, hd⟩ := (show ObjOk X.prog X.w H s.heap a (.frz o (.tup (ps.map V.ref))) from I.hok a _ ha)
  have eo : o' = o := Option.some.inj (ho'.symm.trans ho)
  subst eo
  have ei := refs_at rv
  subst ei
  obtain ⟨prs, rel, hl, hpr⟩ := pairs_of I hp
  rw [List.length_map] at hz
  -- the keys of the pairs
  have kx : ∃ kus : List Value, kus.length = prs.length ∧ ∀ (j : Nat) (x : Key × Value), prs[j]? = some x → ∃ (b : Addr) (u : Value), ps[j]? = some b ∧ kus[j]? = some u ∧ IsTup s.heap b #[u, x.2] ∧ keyIs x.1 u = true := by
    have gen : ∀ (l : List (Key × Value)) (m : List Addr), (∀ (j : Nat) (x : Key × Value), l[j]? = some x → ∃ (b : Addr) (u : Value), m[j]? = some b ∧ IsTup s.heap b #[u, x.2] ∧ keyIs x.1 u = true) →
        ∃ kus : List Value, kus.length = l.length ∧ ∀ (j : Nat) (x : Key × Value), l[j]? = some x → ∃ (b : Addr) (u : Value), m[j]? = some b ∧ kus[j]? = some u ∧ IsTup s.heap b #[u, x.2] ∧ keyIs x.1 u = true := by
      intro l
      induction l with
      | nil => exact fun m _ => ⟨[], rfl, fun j x e => by simp at e⟩
      | cons x l ih =>
        intro m hm
        obtain ⟨b, u, h1, h2, h3⟩ := hm 0 x rfl
        obtain ⟨kus, e1, e2⟩ := ih (m.drop 1) fun j y hj => by
          obtain ⟨b, u, h1, h2, h3⟩ := hm (j + 1) y (by simpa using hj)
          exact ⟨b, u, by rw [List.getElem?_drop, Nat.add_comm]; exact h1, h2, h3⟩
        refine ⟨u :: kus, by simp [e1], fun j y hj => ?_⟩
        cases j with
        | zero =>
          have : x = y := Option.some.inj hj
          subst this
          exact ⟨b, u, h1, rfl, h2, h3⟩
        | succ j =>
          obtain ⟨b, u, h1, h2, h3⟩ := e2 j y (by simpa using hj)
          exact ⟨b, u, by rw [List.getElem?_drop, Nat.add_comm] at h1; exact h1, by simpa using h2, h3⟩
    exact gen prs ps hpr
  obtain ⟨kus, hk1, hk2⟩ := kx
  have hlp : (kus.zip (prs.map (·.2))).length = prs.length := by rw [List.length_zip, List.length_map]; omega
  have P := PairArg.tuple (prog := X.prog) (w := X.w) a (ps.map Value.ref).toArray (fun j => ps.getD j 0) (kus.zip (prs.map (·.2)))
  have atj : ∀ (j : Nat) (k v : Value), (kus.zip (prs.map (·.2)))[j]? = some (k, v) → ∃ x : Key × Value, prs[j]? = some x ∧ kus[j]? = some k ∧ x.2 = v := by
    intro j k v hj
    obtain ⟨h1, h2⟩ := List.getElem?_zip_eq_some.mp hj
    rw [List.getElem?_map] at h2
    cases e : prs[j]? with
    | none => rw [e] at h2; cases h2
    | some x =>
      rw [e] at h2
      exact ⟨x, rfl, h1, Option.some.inj h2⟩
  refine PySem.call_dict_pairs (knd := mixKind X.prog X.w) (kvs := prs) P (I.ok.hd hcalm) ⟨⟨o', n, ho, hc, hod, hd⟩, by simp [hl, hk1], fun j k v hj => ?_⟩ ⟨by rw [hlp], fun i key v hrel => ?_⟩ (by rw [hlp, hl]; exact hz) fun h' tk hd' k => ?_
  · obtain ⟨x, hx, hkj, rfl⟩ := atj j k v hj
    obtain ⟨b, u, h1, h2, h3, h4⟩ := hk2 j x hx
    have eu : u = k := Option.some.inj (h2.symm.trans hkj)
    subst eu
    have eb : ps.getD j 0 = b := by rw [List.getD_eq_getElem?_getD, h1]; rfl
    refine ⟨by simp [h1, eb], .inl ?_⟩
    show s.heap.IsTuple (ps.getD j 0) #[u, x.snd]
    rw [eb]
    exact h3
  · obtain ⟨x, hx, hkj, rfl⟩ := atj i key v hrel
    obtain ⟨b, u, h1, h2, h3, h4⟩ := hk2 i x hx
    have eu : u = key := Option.some.inj (h2.symm.trans hkj)
    subst eu
    exact ⟨x.1, hx, h4⟩
  · have hm : (s.heap.objs.size == sysModules) = false := beq_eq_false_iff_ne.mpr (Nat.ne_of_gt I.big)
    have hlen : (mergeK [] kvs).length ≤ sizeLine := by
      refine Nat.le_trans (length_mergeK kvs []) ?_
      rw [List.length_nil, Nat.zero_add, rel.length, hl]
      exact hz
    exact ⟨.ref s.heap.objs.size, upd H s.heap.objs.size (.dK (mergeK [] kvs)), I.laid (t' := tk) (fun b o e => k b o (by simp) e) (Nat.le_refl _) (show ObjOk X.prog X.w _ _ _ (.dK (mergeK [] kvs)) from ⟨hlen, hm, merged [] prs, KV.merge rel .nil, hd'⟩), rfl, q _ (I.hok.fresh (Nat.le_refl _))⟩
end

/-! ### sorted(a list or tuple of data) -/
section
variable {prog : Program} {w : World} {A : Around} {E : Value → Shared → Prop} {s : Shared}
theorem sorted_seq {Q : Value → Shared → Prop} {it : Addr} {T : String} {o : Obj} {items : Array Value} {n : Nat} (hT : T = "list" ∨ T = "tuple") (ho : s.heap.get? it = some o) (hc : o.cls = .type T) (hd : o.data = .seq items n) (hz : items.size ≤ sizeLine)
    (h : ∀ h' : Heap, (∀ b o', s.heap.get? b = some o' → h'.get? b = some o') →
      wpAny (model prog w) A.in1 (call (.builtin "list.sort") [.ref h'.objs.size]) (fun _ s' => Q (.ref h'.objs.size) s') E { s with heap := h'.push { cls := .type "list", data := .seq items.toList.toArray } }) :
    wpAny (model prog w) A (call (.builtin "sorted") [.ref it]) Q E s := by
  refine Calls.call_function_entry PyProof.Rows.kind_sorted PyProof.Rows.plain_sorted PyProof.Rows.entry_sorted (PyProof.Rows.args_sorted1 _) ?_
  unfold Builtin.«sorted»
  refine wpAny_bind (m := checkCount "sorted" 1 1 _) (wpAny_pure ?_)
  refine wpAny_bind (wpAny_collect_seq it hT ho hc hd (fun h' hk => ?_) hz)
  refine wpAny_bind (wpAny_newList ?_ (by simpa using hz))
  refine wpAny_bind (wpAny_holding (wpAny_mono (h h' hk) (fun _ s' x => ?_) fun _ _ e => e))
  exact wpAny_pure ⟨_, rfl, x⟩
end
def rSortD (K : PySem.W.Frag) : List V → Hp → VK → Prop := fun xs H Q => ∃ (a : Addr) (ys : List V) (enc : V → PyData), xs = [.ref a] ∧ (SqL K H a ys ∨ SqT K H a ys) ∧ (∀ y ∈ ys, Dp K H y (enc y) ∧ tupOnly (enc y) = true ∧ (enc y).depth ≤ 50) ∧
  PySem.W.AllAlike (ys.map enc) ∧ PySem.W.Sortable (ys.map enc) ∧ ∀ p, H p = none → Q (.ref p) (upd H p (.lst (ys.mergeSort (PySem.W.dataLe false enc))))
theorem cr_sortedD {X : Cx} (hu : X.A.units + 64 < cLine) : CallR X (.builtin "sorted") (rSortD X.K) := by
  intro pins s σ H xs us Q I r h
  obtain ⟨a, ys, enc, rfl, hs, hd, hal, hso, q⟩ := h
  obtain ⟨u0, rfl, ru⟩ := vals1 r
  cases (show u0 = Value.ref a from ru)
  -- the items
  have key : ∀ {T : String} {o : Obj} {its : List Value} {n : Nat}, (T = "list" ∨ T = "tuple") → s.heap.get? a = some o → o.cls = .type T → o.data = .seq its.toArray n → Vals ys its → ys.length ≤ sizeLine →
      wpAny (model X.prog X.w) X.A (call (.builtin "sorted") [.ref a]) (EP X pins σ Q) X.xe s := by
    intro T o its n hT ho hc hdat rv hz
    have hl := rv.length
    refine sorted_seq hT ho hc hdat (by simpa using (by omega : its.length ≤ sizeLine)) fun h' hk => ?_
    rw [List.toList_toArray]
    have hob : (h'.push { cls := .type "list", data := .seq its.toArray }).get? h'.objs.size = some (seqObj "list" its.toArray 0) := Heap.get?_push_size _ rfl
    have kb : ∀ b o, s.heap.get? b = some o → (h'.push { cls := .type "list", data := .seq its.toArray }).get? b = some o := fun b o e => Heap.get?_push_of_some _ (hk b o e)
    have ne0 : ∀ b o, h'.get? b = some o → b ≠ h'.objs.size := fun b o e => Nat.ne_of_lt (Heap.lt_size e)
    have I0 : Inv X pins σ H { s with heap := h' } := I.kept (t' := s.toks) hk
    have hn0 : H h'.objs.size = none := I0.hok.fresh (Nat.le_refl _)
    generalize hh2 : h'.push { cls := .type "list", data := .seq its.toArray } = h2 at hob kb ⊢
    have ka : ∀ b o, h'.get? b = some o → h2.get? b = some o := fun b o e => by rw [← hh2]; exact Heap.get?_push_of_some _ e
    let R : Value → V → Prop := fun v y => RelV y v ∧ y ∈ ys
    have e0 : PySem.W.EachIs R its ys := by
      have gen : ∀ {l : List V} {m : List Value}, Vals l m → (∀ y ∈ l, y ∈ ys) → PySem.W.EachIs R m l := by
        intro l m r
        induction r with
        | nil => exact fun _ => .nil
        | cons h _ ih => exact fun hm => .cons ⟨h, hm _ (List.mem_cons_self ..)⟩ (ih fun y hy => hm y (List.mem_cons_of_mem _ hy))
      exact gen rv fun _ h => h
    have rd : ∀ (v : Value) (y : V), R v y → ∃ rs, Reads h2 v (enc y) rs ∧ h'.objs.size ∉ rs := by
      rintro v y ⟨ry, hy⟩
      obtain ⟨d1, t1, _⟩ := hd y hy
      obtain ⟨a1, q1⟩ := Dp.reads I (enc y) _ _ d1 ry
      have n1 := reads_nil t1 q1
      subst n1
      exact ⟨[], PyProof.Rows.Reads.keeps kb q1, by simp⟩
    refine PySem.W.list_sort_data (A := X.A.in1) (s := { s with heap := h2 }) (R := R) (enc := enc) (bs := ys) hob e0 (PySem.W.EachIs.mono rd e0) hal hso hz (fun b hb => ?_) fun out ho eo => ?_
    · have := (hd b hb).2.2
      show X.A.units + 1 + 1 + (enc b).depth < cLine
      omega
    · show EP X pins σ Q (.ref h'.objs.size) { s with heap := sortedHeap h2 h'.objs.size its out.toArray }
      have kF : ∀ b o, b ≠ h'.objs.size → h2.get? b = some o → (sortedHeap h2 h'.objs.size its out.toArray).get? b = some o := fun b o hb e => (PyProof.Rows.sortedHeap_old hb (Heap.lt_size e)).trans e
      have kS : ∀ b o, s.heap.get? b = some o → (sortedHeap h2 h'.objs.size its out.toArray).get? b = some o := fun b o e => kF b o (ne0 _ _ (hk b o e)) (kb b o e)
      obtain ⟨eF, heF⟩ := PyProof.Rows.sortedHeap_at (vs := its) (out := out.toArray) hob
      have I1 : Inv X pins σ H { s with heap := sortedHeap h2 h'.objs.size its out.toArray } := I.kept (t' := s.toks) kS
      have rv2 : Vals (ys.mergeSort (PySem.W.dataLe false enc)) out.toArray.toList := by
        rw [List.toList_toArray]
        have gen : ∀ {l : List V} {m : List Value}, PySem.W.EachIs R m l → Vals l m := by
          intro l m r
          induction r with
          | nil => exact .nil
          | cons h _ ih => exact .cons h.1 ih
        exact gen eo
      have hlen : (ys.mergeSort (PySem.W.dataLe false enc)).length ≤ sizeLine := by
        rw [List.length_mergeSort]
        exact hz
      have I2 : Inv X pins σ (upd H h'.objs.size (.lst (ys.mergeSort (PySem.W.dataLe false enc)))) { s with heap := sortedHeap h2 h'.objs.size its out.toArray } :=
        I1.take (h' := sortedHeap h2 h'.objs.size its out.toArray) (t' := s.toks) (fun b ob _ e => e) (I0.fpOk (Nat.le_refl _) hn0) ⟨hlen, out.toArray.toList, eF, rv2, heF⟩
      exact ⟨.ref h'.objs.size, _, I2, rfl, q _ hn0⟩
  rcases hs with hs | hs
  · obtain ⟨its, rv, ⟨o, n, ho, hc, _, hdat⟩, hz⟩ := I.list hs
    exact key (.inl rfl) ho hc hdat rv hz
  · obtain ⟨its, rv, ⟨o, ho, hc, n, hdat⟩, hz⟩ := I.tuple hs
    exact key (.inr rfl) ho hc hdat rv hz
theorem k_sortedD {X : Cx} (K : PySem.W.Frag) (hu : X.A.units + 64 < cLine) (hK : X.K = K := by rfl) : CallR X (.builtin "sorted") (rSortD K) := by subst hK; exact cr_sortedD hu
end Lt

set_option Elab.async false
set_option linter.all false
set_option maxRecDepth 100000
set_option maxHeartbeats 4000000
/-! Lt3: reading by a tactic: walk_at "go", walk_at "get". -/
namespace Lt
open PySem PySem.Spec PyProof.Rows L2
theorem get_new {H : Hp} {a p : Addr} {o u : HO} (hp : H p = none) (h : H a = some o) : upd H p u a = some o := by rw [upd_ne (ne_of_none h hp)]; exact h
theorem get_dif {H : Hp} {a p : Addr} {o o' u : HO} (h : H a = some o) (hp : H p = some o') (d : o ≠ o') : upd H p u a = some o := by rw [upd_ne (ne_of h hp d)]; exact h
theorem get_ne {H : Hp} {a p : Addr} {o u : HO} (d : a ≠ p) (h : H a = some o) : upd H p u a = some o := by rw [upd_ne d]; exact h
theorem same_upd {H H' : Hp} {p : Addr} {u : HO} (s : Same H H') (hp : H' p = none) : Same H (upd H' p u) := fun b o e => get_new hp (s b o e)
theorem s_isi {K : PySem.W.Frag} {x : V} {t n : String} {r : Bool} {H : Hp} {Q : VK} (hx : TyX K H x (.type t)) (e : kitB t n = some r) (h : Q (.bl r) H) : rIsi K [x, .ty n] H Q := ⟨x, _, _, _, r, rfl, .ty n, hx, kit_ty e, h⟩
/-- all but what stands at the addresses of S is as it was -/
def Fram (S : Addr → Prop) (H H' : Hp) : Prop := ∀ b o, H b = some o → ¬ S b → H' b = some o
theorem s_isi_non_int {K : PySem.W.Frag} {H : Hp} {Q : VK} (h : Q (.bl false) H) : rIsi K [.non, .ty "int"] H Q := s_isi (r := false) (.base (.non)) (by decide +kernel) h
theorem s_isi_non_bool {K : PySem.W.Frag} {H : Hp} {Q : VK} (h : Q (.bl false) H) : rIsi K [.non, .ty "bool"] H Q := s_isi (r := false) (.base (.non)) (by decide +kernel) h
theorem s_isi_non_str {K : PySem.W.Frag} {H : Hp} {Q : VK} (h : Q (.bl false) H) : rIsi K [.non, .ty "str"] H Q := s_isi (r := false) (.base (.non)) (by decide +kernel) h
theorem s_isi_non_tuple {K : PySem.W.Frag} {H : Hp} {Q : VK} (h : Q (.bl false) H) : rIsi K [.non, .ty "tuple"] H Q := s_isi (r := false) (.base (.non)) (by decide +kernel) h
theorem s_isi_non_list {K : PySem.W.Frag} {H : Hp} {Q : VK} (h : Q (.bl false) H) : rIsi K [.non, .ty "list"] H Q := s_isi (r := false) (.base (.non)) (by decide +kernel) h
theorem s_isi_bl_int {K : PySem.W.Frag} {x : Bool} {H : Hp} {Q : VK} (h : Q (.bl true) H) : rIsi K [(.bl x), .ty "int"] H Q := s_isi (r := true) (.base (.bl _)) (by decide +kernel) h
theorem s_isi_bl_bool {K : PySem.W.Frag} {x : Bool} {H : Hp} {Q : VK} (h : Q (.bl true) H) : rIsi K [(.bl x), .ty "bool"] H Q := s_isi (r := true) (.base (.bl _)) (by decide +kernel) h
theorem s_isi_bl_str {K : PySem.W.Frag} {x : Bool} {H : Hp} {Q : VK} (h : Q (.bl false) H) : rIsi K [(.bl x), .ty "str"] H Q := s_isi (r := false) (.base (.bl _)) (by decide +kernel) h
theorem s_isi_bl_tuple {K : PySem.W.Frag} {x : Bool} {H : Hp} {Q : VK} (h : Q (.bl false) H) : rIsi K [(.bl x), .ty "tuple"] H Q := s_isi (r := false) (.base (.bl _)) (by decide +kernel) h
theorem s_isi_bl_list {K : PySem.W.Frag} {x : Bool} {H : Hp} {Q : VK} (h : Q (.bl false) H) : rIsi K [(.bl x), .ty "list"] H Q := s_isi (r := false) (.base (.bl _)) (by decide +kernel) h
theorem s_isi_int_int {K : PySem.W.Frag} {x : Int} {H : Hp} {Q : VK} (h : Q (.bl true) H) : rIsi K [(.int x), .ty "int"] H Q := s_isi (r := true) (.base (.int _)) (by decide +kernel) h
theorem s_isi_int_bool {K : PySem.W.Frag} {x : Int} {H : Hp} {Q : VK} (h : Q (.bl false) H) : rIsi K [(.int x), .ty "bool"] H Q := s_isi (r := false) (.base (.int _)) (by decide +kernel) h
theorem s_isi_int_str {K : PySem.W.Frag} {x : Int} {H : Hp} {Q : VK} (h : Q (.bl false) H) : rIsi K [(.int x), .ty "str"] H Q := s_isi (r := false) (.base (.int _)) (by decide +kernel) h
theorem s_isi_int_tuple {K : PySem.W.Frag} {x : Int} {H : Hp} {Q : VK} (h : Q (.bl false) H) : rIsi K [(.int x), .ty "tuple"] H Q := s_isi (r := false) (.base (.int _)) (by decide +kernel) h
theorem s_isi_int_list {K : PySem.W.Frag} {x : Int} {H : Hp} {Q : VK} (h : Q (.bl false) H) : rIsi K [(.int x), .ty "list"] H Q := s_isi (r := false) (.base (.int _)) (by decide +kernel) h
theorem s_isi_str_int {K : PySem.W.Frag} {x : Str} {H : Hp} {Q : VK} (h : Q (.bl false) H) : rIsi K [(.str x), .ty "int"] H Q := s_isi (r := false) (.base (.str _)) (by decide +kernel) h
theorem s_isi_str_bool {K : PySem.W.Frag} {x : Str} {H : Hp} {Q : VK} (h : Q (.bl false) H) : rIsi K [(.str x), .ty "bool"] H Q := s_isi (r := false) (.base (.str _)) (by decide +kernel) h
theorem s_isi_str_str {K : PySem.W.Frag} {x : Str} {H : Hp} {Q : VK} (h : Q (.bl true) H) : rIsi K [(.str x), .ty "str"] H Q := s_isi (r := true) (.base (.str _)) (by decide +kernel) h
theorem s_isi_str_tuple {K : PySem.W.Frag} {x : Str} {H : Hp} {Q : VK} (h : Q (.bl false) H) : rIsi K [(.str x), .ty "tuple"] H Q := s_isi (r := false) (.base (.str _)) (by decide +kernel) h
theorem s_isi_str_list {K : PySem.W.Frag} {x : Str} {H : Hp} {Q : VK} (h : Q (.bl false) H) : rIsi K [(.str x), .ty "list"] H Q := s_isi (r := false) (.base (.str _)) (by decide +kernel) h
theorem s_isi_tup_int {K : PySem.W.Frag} {a : Addr} {xs : List V} {H : Hp} {Q : VK} (e : H a = some (.tup xs)) (h : Q (.bl false) H) : rIsi K [.ref a, .ty "int"] H Q := s_isi (r := false) (.base (.tup e)) (by decide +kernel) h
theorem s_isi_tup_bool {K : PySem.W.Frag} {a : Addr} {xs : List V} {H : Hp} {Q : VK} (e : H a = some (.tup xs)) (h : Q (.bl false) H) : rIsi K [.ref a, .ty "bool"] H Q := s_isi (r := false) (.base (.tup e)) (by decide +kernel) h
theorem s_isi_tup_str {K : PySem.W.Frag} {a : Addr} {xs : List V} {H : Hp} {Q : VK} (e : H a = some (.tup xs)) (h : Q (.bl false) H) : rIsi K [.ref a, .ty "str"] H Q := s_isi (r := false) (.base (.tup e)) (by decide +kernel) h
theorem s_isi_tup_tuple {K : PySem.W.Frag} {a : Addr} {xs : List V} {H : Hp} {Q : VK} (e : H a = some (.tup xs)) (h : Q (.bl true) H) : rIsi K [.ref a, .ty "tuple"] H Q := s_isi (r := true) (.base (.tup e)) (by decide +kernel) h
theorem s_isi_tup_list {K : PySem.W.Frag} {a : Addr} {xs : List V} {H : Hp} {Q : VK} (e : H a = some (.tup xs)) (h : Q (.bl false) H) : rIsi K [.ref a, .ty "list"] H Q := s_isi (r := false) (.base (.tup e)) (by decide +kernel) h
theorem s_isi_lst_int {K : PySem.W.Frag} {a : Addr} {xs : List V} {H : Hp} {Q : VK} (e : H a = some (.lst xs)) (h : Q (.bl false) H) : rIsi K [.ref a, .ty "int"] H Q := s_isi (r := false) (.base (.lst e)) (by decide +kernel) h
theorem s_isi_lst_bool {K : PySem.W.Frag} {a : Addr} {xs : List V} {H : Hp} {Q : VK} (e : H a = some (.lst xs)) (h : Q (.bl false) H) : rIsi K [.ref a, .ty "bool"] H Q := s_isi (r := false) (.base (.lst e)) (by decide +kernel) h
theorem s_isi_lst_str {K : PySem.W.Frag} {a : Addr} {xs : List V} {H : Hp} {Q : VK} (e : H a = some (.lst xs)) (h : Q (.bl false) H) : rIsi K [.ref a, .ty "str"] H Q := s_isi (r := false) (.base (.lst e)) (by decide +kernel) h
theorem s_isi_lst_tuple {K : PySem.W.Frag} {a : Addr} {xs : List V} {H : Hp} {Q : VK} (e : H a = some (.lst xs)) (h : Q (.bl false) H) : rIsi K [.ref a, .ty "tuple"] H Q := s_isi (r := false) (.base (.lst e)) (by decide +kernel) h
theorem s_isi_lst_list {K : PySem.W.Frag} {a : Addr} {xs : List V} {H : Hp} {Q : VK} (e : H a = some (.lst xs)) (h : Q (.bl true) H) : rIsi K [.ref a, .ty "list"] H Q := s_isi (r := true) (.base (.lst e)) (by decide +kernel) h
theorem s_isi_dK_int {K : PySem.W.Frag} {a : Addr} {xs : List (Key × V)} {H : Hp} {Q : VK} (e : H a = some (.dK xs)) (h : Q (.bl false) H) : rIsi K [.ref a, .ty "int"] H Q := s_isi (r := false) (.base (.dK e)) (by decide +kernel) h
theorem s_isi_dK_bool {K : PySem.W.Frag} {a : Addr} {xs : List (Key × V)} {H : Hp} {Q : VK} (e : H a = some (.dK xs)) (h : Q (.bl false) H) : rIsi K [.ref a, .ty "bool"] H Q := s_isi (r := false) (.base (.dK e)) (by decide +kernel) h
theorem s_isi_dK_str {K : PySem.W.Frag} {a : Addr} {xs : List (Key × V)} {H : Hp} {Q : VK} (e : H a = some (.dK xs)) (h : Q (.bl false) H) : rIsi K [.ref a, .ty "str"] H Q := s_isi (r := false) (.base (.dK e)) (by decide +kernel) h
theorem s_isi_dK_tuple {K : PySem.W.Frag} {a : Addr} {xs : List (Key × V)} {H : Hp} {Q : VK} (e : H a = some (.dK xs)) (h : Q (.bl false) H) : rIsi K [.ref a, .ty "tuple"] H Q := s_isi (r := false) (.base (.dK e)) (by decide +kernel) h
theorem s_isi_dK_list {K : PySem.W.Frag} {a : Addr} {xs : List (Key × V)} {H : Hp} {Q : VK} (e : H a = some (.dK xs)) (h : Q (.bl false) H) : rIsi K [.ref a, .ty "list"] H Q := s_isi (r := false) (.base (.dK e)) (by decide +kernel) h
theorem s_chain {r r' : R2} {ta tb tc : TE} {σ : L2.St} {H : Hp} {Q : VK} (h : ta σ H fun x H1 => tb σ H1 fun y H2 => r x y H2 fun z H3 => ∃ k, z = .bl k ∧ (if k = true then tc σ H3 fun w' H4 => r' y w' H4 Q else Q (.bl false) H3)) : tChain r r' ta tb tc σ H Q := h
theorem and_if {p : Bool} {c : Bool} {H : Hp} {Q : VK} (h : Q (.bl (p && c)) H) : if p = true then Q (.bl c) H else Q (.bl false) H := by
  cases p
  · rw [if_neg Bool.false_ne_true]; exact h
  · rw [if_pos rfl]; exact h
theorem s_ex2 {i j : Int} {F : Int → Int → Prop} (h : F i j) : ∃ i' j' : Int, [V.int i, V.int j] = [V.int i', V.int j'] ∧ F i' j' := ⟨i, j, rfl, h⟩
theorem ite_max (i j : Int) : (if j > i then j else i) = max i j := by by_cases h : j > i <;> simp [h, Int.max_def] <;> omega
theorem ite_min (i j : Int) : (if j < i then j else i) = min i j := by by_cases h : j < i <;> simp [h, Int.min_def] <;> omega
theorem start_of {t : TS} {N : List Str} {vs : List V} {H : Hp} {n : L2.St → Hp → Prop} {R : VK} {σ : L2.St} (e : start N vs = σ) (h : t ⟨n, R, fun _ _ => False, fun _ _ => False⟩ σ H) : t { nx := n, rt := R } (start N vs) H := by
  rw [e]
  exact h
/-! ### pairs of ints: tuples of tuples, dicts from ints to ints -/
/-- at each address its pair -/
def PairsAt (H : Hp) (as : List Addr) (ps : List (Int × Int)) : Prop := Paired (fun a (p : Int × Int) => H a = some (.tup [.int p.1, .int p.2])) as ps
theorem PairsAt.same {H H' : Hp} {as : List Addr} {ps : List (Int × Int)} (s : Same H H') (h : PairsAt H as ps) : PairsAt H' as ps := Paired.mapP h fun _ _ e => s _ _ e
theorem pairAll {α β : Type} {R : α → β → Prop} {as : List α} {bs : List β} (h : Paired R as bs) : as.length = bs.length ∧ ∀ (i : Nat) (a : α), as[i]? = some a → ∃ b, bs[i]? = some b ∧ R a b := by
  refine ⟨Paired.length h, ?_⟩
  induction h with
  | nil => intro i a h; simp at h
  | cons h _ ih =>
    intro i a e
    cases i with
    | zero =>
      have : _ = a := Option.some.inj e
      subst this
      exact ⟨_, rfl, h⟩
    | succ i =>
      obtain ⟨b, h1, h2⟩ := ih i a (by simpa using e)
      exact ⟨b, by simpa using h1, h2⟩
theorem refs_get {as : List Addr} {i : Nat} {x : V} (h : (as.map V.ref)[i]? = some x) : ∃ a, as[i]? = some a ∧ x = .ref a := by
  rw [List.getElem?_map] at h
  cases e : as[i]? with
  | none => rw [e] at h; cases h
  | some a => rw [e] at h; exact ⟨a, rfl, (Option.some.inj h).symm⟩
theorem map_get {α : Type} {f : α → V} {as : List α} {i : Nat} {x : V} (h : (as.map f)[i]? = some x) : ∃ a, as[i]? = some a ∧ x = f a := by
  rw [List.getElem?_map] at h
  cases e : as[i]? with
  | none => rw [e] at h; cases h
  | some a => rw [e] at h; exact ⟨a, rfl, (Option.some.inj h).symm⟩
theorem take_succ_of {α : Type} {l : List α} {i : Nat} {x : α} (h : l[i]? = some x) : l.take (i + 1) = l.take i ++ [x] := by
  rw [List.take_add_one, h]; rfl
def kvI (ps : List (Int × Int)) : List (Key × V) := ps.map fun p => (Sum.inl p.1, V.int p.2)
def lookI (ps : List (Int × Int)) (k : Int) : Option Int := (ps.find? fun p => decide (p.1 = k)).map (·.2)
def putI (ps : List (Int × Int)) (k v : Int) : List (Int × Int) := if (ps.any fun p => decide (p.1 = k)) = true then ps.map (fun p => if p.1 = k then (p.1, v) else p) else ps ++ [(k, v)]
theorem kvI_len (ps : List (Int × Int)) : (kvI ps).length = ps.length := List.length_map _
theorem kvI_val (ps : List (Int × Int)) (k : Int) : valV (kvI ps) (Sum.inl k) = (lookI ps k).map V.int := by
  induction ps with
  | nil => rfl
  | cons p ps ih =>
    by_cases e : p.1 = k
    · have e2 : ((Sum.inl p.1 : Key), V.int p.2).1 = Sum.inl k := by rw [← e]
      show valV (((Sum.inl p.1 : Key), V.int p.2) :: kvI ps) _ = _
      rw [valV_pos e2]
      simp [lookI, List.find?_cons, e]
    · have e2 : ¬ ((Sum.inl p.1 : Key), V.int p.2).1 = Sum.inl k := fun z => e (Sum.inl.inj z)
      show valV (((Sum.inl p.1 : Key), V.int p.2) :: kvI ps) _ = _
      rw [valV_neg e2, ih]
      simp [lookI, List.find?_cons, e]
theorem kvI_put (ps : List (Int × Int)) (k v : Int) : putK (kvI ps) (Sum.inl k) (.int v) = kvI (putI ps k v) := by
  have ha : ((kvI ps).any fun kv => decide (kv.1 = (Sum.inl k : Key))) = ps.any fun p => decide (p.1 = k) := by
    unfold kvI
    rw [List.any_map]
    congr 1
    funext p
    show decide ((Sum.inl p.1 : Key) = Sum.inl k) = decide (p.1 = k)
    rw [Bool.eq_iff_iff]
    simp
  unfold putK putI
  rw [ha]
  by_cases h : (ps.any fun p => decide (p.1 = k)) = true
  · rw [if_pos h, if_pos h]
    unfold kvI
    rw [List.map_map, List.map_map]
    congr 1
    funext p
    show (if (Sum.inl p.1 : Key) = Sum.inl k then ((Sum.inl p.1 : Key), V.int v) else ((Sum.inl p.1 : Key), V.int p.2)) = _
    by_cases e : p.1 = k
    · rw [if_pos (by rw [e])]; simp [e]
    · rw [if_neg (fun z => e (Sum.inl.inj z))]; simp [e]
  · rw [if_neg h, if_neg h]
    unfold kvI
    rw [List.map_append]
    rfl
/-- a dict comprehension over the items of a dict that stands still -/
theorem dc_items {d : Addr} {o : Obj} {kvs : List (Key × V)} {g : TG} {tt : TT} {tk tv : TE} {vs : List Nat} {σ : L2.St} {H1 : Hp} {D : Addr} {Qd : Hp → Prop} (Pv : Nat → Hp → Prop) (h0 : Pv 0 (upd H1 D (.dK []))) (hl : ∀ i H, i ≤ kvs.length → Pv i H → H d = some (.frz o (.dK kvs)))
    (hs : ∀ i k v T H, kvs[i]? = some (k, v) → Pv i H → H T = none → g (.ref T) (wipe σ vs) (upd H T (.tup [kV k, v])) fun σ2 H2 => wipe σ2 vs = wipe σ vs ∧ tt σ2 H2 fun b H3 =>
      if b = true then tk σ2 H3 fun y H4 => tv σ2 H4 fun z H5 => ∃ kvs k, y = kV k ∧ H5 D = some (.dK kvs) ∧ kvs.length < sizeLine ∧ Pv (i + 1) (upd H5 D (.dK (putK kvs k z))) else Pv (i + 1) H3) (hd : ∀ H, Pv kvs.length H → Qd H) :
    ∃ W : Nat → Nat → Hp → Prop, (∃ m, W 0 m (upd H1 D (.dK []))) ∧ ∀ i m H, W i m H →
      ((Iti d o kvs).stop i H ∧ Qd H) ∨ ((Iti d o kvs).go i H ∧ ∃ Nx : Hp → Prop, (∀ H', Nx H' → ∃ m', m' < m ∧ W (i + 1) m' H') ∧ ∀ x H', (Iti d o kvs).yld i H x H' → g x (wipe σ vs) H' fun σ2 H2 => wipe σ2 vs = wipe σ vs ∧ tt σ2 H2 fun b H3 =>
        if b = true then tk σ2 H3 fun y H4 => tv σ2 H4 fun z H5 => ∃ kvs k, y = kV k ∧ H5 D = some (.dK kvs) ∧ kvs.length < sizeLine ∧ Nx (upd H5 D (.dK (putK kvs k z))) else Nx H3) := by
  refine ⟨fun i m H => m = kvs.length - i ∧ i ≤ kvs.length ∧ Pv i H, ⟨kvs.length, by simp, Nat.zero_le _, h0⟩, ?_⟩
  rintro i m H ⟨rfl, hi, p⟩
  have q := hl i H hi p
  by_cases hlt : i < kvs.length
  · refine .inr ⟨⟨q, hlt⟩, Pv (i + 1), fun H' p' => ⟨kvs.length - (i + 1), by omega, rfl, hlt, p'⟩, fun x H' y => ?_⟩
    obtain ⟨T, k, v, hk, rfl, hT, rfl⟩ := y
    exact hs i k v T H hk p hT
  · have e : i = kvs.length := by omega
    subst e
    exact .inl ⟨⟨q, Nat.le_refl _⟩, hd H p⟩
theorem len1000 {n : Nat} (h : Nat.ble (n + 1) 1000 = true) : n < 1000 := Nat.le_of_ble_eq_true h
theorem lenLine {n : Nat} (h : Nat.ble n 1000 = true) : n ≤ sizeLine := Nat.le_trans (Nat.le_of_ble_eq_true h) (by decide)
theorem s_dc {wi : TI} {g : TG} {tt : TT} {tk tv : TE} {vs : List Nat} {σ : L2.St} {H : Hp} {Q : VK} (h : wi σ H fun J H1 => ∀ D, H1 D = none → ∃ W : Nat → Nat → Hp → Prop, (∃ m, W 0 m (upd H1 D (.dK []))) ∧ ∀ i m H, W i m H →
  (J.stop i H ∧ Q (.ref D) H) ∨ (J.go i H ∧ ∃ Nx : Hp → Prop, (∀ H', Nx H' → ∃ m', m' < m ∧ W (i + 1) m' H') ∧ ∀ x H', J.yld i H x H' → g x (wipe σ vs) H' fun σ2 H2 => wipe σ2 vs = wipe σ vs ∧ tt σ2 H2 fun b H3 =>
    if b = true then tk σ2 H3 fun y H4 => tv σ2 H4 fun z H5 => ∃ kvs k, y = kV k ∧ H5 D = some (.dK kvs) ∧ kvs.length < sizeLine ∧ Nx (upd H5 D (.dK (putK kvs k z))) else Nx H3)) : tDc wi g tt tk tv vs σ H Q := h
theorem s_lc {wi : TI} {g : TG} {tt : TT} {te : TE} {vs : List Nat} {σ : L2.St} {H : Hp} {Q : VK} (h : wi σ H fun J H1 => ∀ D, H1 D = none → ∃ W : Nat → Nat → Hp → Prop, (∃ m, W 0 m (upd H1 D (.lst []))) ∧ ∀ i m H, W i m H →
  (J.stop i H ∧ Q (.ref D) H) ∨ (J.go i H ∧ ∃ Nx : Hp → Prop, (∀ H', Nx H' → ∃ m', m' < m ∧ W (i + 1) m' H') ∧ ∀ x H', J.yld i H x H' → g x (wipe σ vs) H' fun σ2 H2 => wipe σ2 vs = wipe σ vs ∧ tt σ2 H2 fun b H3 =>
    if b = true then te σ2 H3 fun y H4 => ∃ acc, H4 D = some (.lst acc) ∧ acc.length < sizeLine ∧ Nx (upd H4 D (.lst (acc ++ [y]))) else Nx H3)) : tLc wi g tt te vs σ H Q := h
theorem s_iitems {td : TE} {σ : L2.St} {H : Hp} {R : It → Hp → Prop} (h : td σ H fun x H1 => ∃ d o kvs, x = .ref d ∧ H1 d = some (.frz o (.dK kvs)) ∧ R (Iti d o kvs) H1) : iItems td σ H R := h
theorem s_ikeys {td : TE} {σ : L2.St} {H : Hp} {R : It → Hp → Prop} (h : td σ H fun x H1 => ∃ d o, x = .ref d ∧ ((∃ kvs, H1 d = some (.frz o (.dK kvs)) ∧ R (Itk d o kvs) H1) ∨ ∃ kvs, H1 d = some (.frz o (.dT kvs)) ∧ R (Itkt d o kvs) H1)) : iKeys td σ H R := h
theorem s_lockE {t : TE} {σ : L2.St} {H : Hp} {Q : VK} {d : Addr} {u : HO} (h1 : H d = some u) (h2 : Mut (some u)) (h : ∀ od, t σ (upd H d (.frz od u)) fun v H' => H' d = some (.frz od u) ∧ Q v (upd H' d u)) : tLockE t σ H Q := ⟨d, u, h1, h2, h⟩
theorem same_back {H H' : Hp} {d : Addr} {u v : HO} (hd : H d = some u) (s : Same (upd H d v) H') : Same H (upd H' d u) := fun b o e => by
  by_cases hb : b = d
  · subst hb
    rw [hd] at e
    rw [upd_same, e]
  · rw [upd_ne hb]
    exact s b o (by rw [upd_ne hb]; exact e)
theorem f_list {K : PySem.W.Frag} {a : Addr} {xs : List V} {g : TG} {tb : TS} {n : L2.St → Hp → Prop} {R : VK} {σ : L2.St} {H : Hp} (Pv : Nat → L2.St → Hp → Prop) (h0 : Pv 0 σ H) (hl : ∀ i σ H, i ≤ xs.length → Pv i σ H → SqL K H a xs)
    (hs : ∀ i x σ H, xs[i]? = some x → Pv i σ H → g x σ H fun σ2 H2 => tb ⟨Pv (i + 1), R, n, Pv (i + 1)⟩ σ2 H2) (hd : ∀ σ H, Pv xs.length σ H → n σ H) :
    ∃ W : Nat → Nat → L2.St → Hp → Prop, (∃ m, W 0 m σ H) ∧ ∀ i m σ H, W i m σ H →
      ((Itl K a).stop i H ∧ n σ H) ∨ ((Itl K a).go i H ∧ ∃ N : L2.St → Hp → Prop, (∀ σ' H', N σ' H' → ∃ m', m' < m ∧ W (i + 1) m' σ' H') ∧ ∀ x H', (Itl K a).yld i H x H' → g x σ H' fun σ2 H2 => tb ⟨N, R, n, N⟩ σ2 H2) :=
  for_list (D := ⟨n, R, fun _ _ => False, fun _ _ => False⟩) Pv h0 hl hs hd
theorem f_tup {K : PySem.W.Frag} {a : Addr} {xs : List V} {g : TG} {tb : TS} {n : L2.St → Hp → Prop} {R : VK} {σ : L2.St} {H : Hp} (Pv : Nat → L2.St → Hp → Prop) (h0 : Pv 0 σ H) (hl : ∀ i σ H, i ≤ xs.length → Pv i σ H → SqT K H a xs)
    (hs : ∀ i x σ H, xs[i]? = some x → Pv i σ H → g x σ H fun σ2 H2 => tb ⟨Pv (i + 1), R, n, Pv (i + 1)⟩ σ2 H2) (hd : ∀ σ H, Pv xs.length σ H → n σ H) :
    ∃ W : Nat → Nat → L2.St → Hp → Prop, (∃ m, W 0 m σ H) ∧ ∀ i m σ H, W i m σ H →
      ((Itt K a).stop i H ∧ n σ H) ∨ ((Itt K a).go i H ∧ ∃ N : L2.St → Hp → Prop, (∀ σ' H', N σ' H' → ∃ m', m' < m ∧ W (i + 1) m' σ' H') ∧ ∀ x H', (Itt K a).yld i H x H' → g x σ H' fun σ2 H2 => tb ⟨N, R, n, N⟩ σ2 H2) :=
  for_tup (D := ⟨n, R, fun _ _ => False, fun _ _ => False⟩) Pv h0 hl hs hd
theorem f_range {lo : Int} {k : Nat} {g : TG} {tb : TS} {n : L2.St → Hp → Prop} {R : VK} {σ : L2.St} {H : Hp} (Pv : Nat → L2.St → Hp → Prop) (h0 : Pv 0 σ H)
    (hs : ∀ i σ H, i < k → Pv i σ H → g (.int (lo + i)) σ H fun σ2 H2 => tb ⟨Pv (i + 1), R, n, Pv (i + 1)⟩ σ2 H2) (hd : ∀ σ H, Pv k σ H → n σ H) :
    ∃ W : Nat → Nat → L2.St → Hp → Prop, (∃ m, W 0 m σ H) ∧ ∀ i m σ H, W i m σ H →
      ((Itr lo k).stop i H ∧ n σ H) ∨ ((Itr lo k).go i H ∧ ∃ N : L2.St → Hp → Prop, (∀ σ' H', N σ' H' → ∃ m', m' < m ∧ W (i + 1) m' σ' H') ∧ ∀ x H', (Itr lo k).yld i H x H' → g x σ H' fun σ2 H2 => tb ⟨N, R, n, N⟩ σ2 H2) :=
  for_range (D := ⟨n, R, fun _ _ => False, fun _ _ => False⟩) Pv h0 hs hd
theorem f_keys {d : Addr} {o : Obj} {kvs : List (Key × V)} {g : TG} {tb : TS} {n : L2.St → Hp → Prop} {R : VK} {σ : L2.St} {H : Hp} (Pv : Nat → L2.St → Hp → Prop) (h0 : Pv 0 σ H) (hl : ∀ i σ H, i ≤ kvs.length → Pv i σ H → H d = some (.frz o (.dK kvs)))
    (hs : ∀ i k v σ H, kvs[i]? = some (k, v) → Pv i σ H → g (kV k) σ H fun σ2 H2 => tb ⟨Pv (i + 1), R, n, Pv (i + 1)⟩ σ2 H2) (hd : ∀ σ H, Pv kvs.length σ H → n σ H) :
    ∃ W : Nat → Nat → L2.St → Hp → Prop, (∃ m, W 0 m σ H) ∧ ∀ i m σ H, W i m σ H →
      ((Itk d o kvs).stop i H ∧ n σ H) ∨ ((Itk d o kvs).go i H ∧ ∃ N : L2.St → Hp → Prop, (∀ σ' H', N σ' H' → ∃ m', m' < m ∧ W (i + 1) m' σ' H') ∧ ∀ x H', (Itk d o kvs).yld i H x H' → g x σ H' fun σ2 H2 => tb ⟨N, R, n, N⟩ σ2 H2) := by
  refine ⟨fun i m σ H => m = kvs.length - i ∧ i ≤ kvs.length ∧ Pv i σ H, ⟨kvs.length, by simp, Nat.zero_le _, h0⟩, ?_⟩
  rintro i m σ H ⟨rfl, hi, p⟩
  have q := hl i σ H hi p
  by_cases hlt : i < kvs.length
  · refine .inr ⟨⟨q, hlt⟩, Pv (i + 1), fun σ' H' p' => ⟨kvs.length - (i + 1), by omega, rfl, hlt, p'⟩, fun x H' y => ?_⟩
    obtain ⟨rfl, k, v, hk, rfl⟩ := y
    exact hs i k v σ _ hk p
  · have e : i = kvs.length := by omega
    subst e
    exact .inl ⟨⟨q, Nat.le_refl _⟩, hd σ H p⟩
def rIntOf : List V → Hp → VK → Prop := fun xs H Q => (∃ i, xs = [.int i] ∧ Q (.int i) H) ∨ ∃ k, xs = [.bl k] ∧ Q (.int (if k then 1 else 0)) H
theorem k_int {X : Cx} : CallR X (.type "int") rIntOf := call_int1
theorem s_intI {i : Int} {H : Hp} {Q : VK} (h : Q (.int i) H) : rIntOf [.int i] H Q := .inl ⟨i, rfl, h⟩
theorem s_intB {k : Bool} {H : Hp} {Q : VK} (h : Q (.int (if k then 1 else 0)) H) : rIntOf [.bl k] H Q := .inr ⟨k, rfl, h⟩
theorem s_mod {i j : Int} {g : Int → Int → V} {H : Hp} {Q : VK} (hj : 0 < j) (h : Q (g i j) H) : rI (fun _ j => 0 < j) g (.int i) (.int j) H Q := ⟨i, j, rfl, rfl, hj, h⟩
theorem s_fdiv {i j : Int} {g : Int → Int → V} {H : Hp} {Q : VK} (hj : 0 < j ∧ j < 2 ^ 62) (h : Q (g i j) H) : rI CDivW g (.int i) (.int j) H Q := ⟨i, j, rfl, rfl, wide_div (b := 62) hj.1 (by omega) (by decide) (by decide), h⟩
theorem s_pow {i j : Int} {g : Int → Int → V} {H : Hp} {Q : VK} (hj : 0 ≤ j ∧ j ≤ 1000000 ∧ i.natAbs < 2 ^ 64) (h : Q (g i j) H) : rI CPow g (.int i) (.int j) H Q := ⟨i, j, rfl, rfl, hj, h⟩
theorem cut_ints (ns : List Int) (lo hi : Option Int) : ∃ ms : List Int, cutV (ns.map V.int) lo hi = ms.map V.int ∧ ms.length ≤ ns.length := by
  refine ⟨(ns.drop (HT.sIx ns.length 0 lo)).take (HT.sIx ns.length ns.length hi - HT.sIx ns.length 0 lo), ?_, ?_⟩
  · unfold cutV
    rw [List.length_map, List.map_take, List.map_drop]
  · rw [List.length_take, List.length_drop]
    omega
/-- a comprehension over a list of ints, without a test -/
theorem lc_ints {K : PySem.W.Frag} {a : Addr} {ns : List Int} {i : Nat} {te : TE} {σ : L2.St} {H1 : Hp} {D : Addr} {Qd : Hp → Prop} (gv : Int → Int)
    (hs : SqL K H1 a (ns.map V.int)) (hl : ns.length ≤ 900) (hD : H1 D = none) (wp : ∀ x : Int, wipe ((wipe σ [i]).set i (some (.int x))) [i] = wipe σ [i])
    (re : ∀ (x : Int) (H : Hp) (Q : VK), Q (.int (gv x)) H → te ((wipe σ [i]).set i (some (.int x))) H Q)
    (hd : ∀ H, Same H1 H → H D = some (.lst ((ns.map gv).map V.int)) → Qd H) :
    ∃ W : Nat → Nat → Hp → Prop, (∃ m, W 0 m (upd H1 D (.lst []))) ∧ ∀ n m H, W n m H →
      ((Itl K a).stop n H ∧ Qd H) ∨ ((Itl K a).go n H ∧ ∃ Nx : Hp → Prop, (∀ H', Nx H' → ∃ m', m' < m ∧ W (n + 1) m' H') ∧ ∀ x H', (Itl K a).yld n H x H' → gName i x (wipe σ [i]) H' fun σ2 H2 => wipe σ2 [i] = wipe σ [i] ∧ tYes σ2 H2 fun b H3 =>
        if b = true then te σ2 H3 fun y H4 => ∃ acc, H4 D = some (.lst acc) ∧ acc.length < sizeLine ∧ Nx (upd H4 D (.lst (acc ++ [y]))) else Nx H3) := by
  refine lc_list (xs := ns.map V.int) (fun n H => Same H1 H ∧ H D = some (.lst (((ns.take n).map gv).map V.int))) ⟨same_upd (Same.refl _) hD, upd_same⟩ (fun n H _ z => z.1.seq hs) ?_ ?_
  · rintro n x H hn ⟨s1, hDn⟩
    obtain ⟨y, hy, rfl⟩ := map_get hn
    refine s_gname ⟨wp y, ?_⟩
    refine s_yes (s_ifT rfl ?_)
    have nlt : n < ns.length := (List.getElem?_eq_some_iff.mp hy).1
    refine re y _ _ ⟨_, hDn, small1000 (by rw [List.length_map, List.length_map, List.length_take]; omega), ?_, ?_⟩
    · intro b o e
      rw [upd_ne (ne_of_none e hD)]
      exact s1 _ _ e
    · rw [upd_same, take_succ_of hy]
      simp
  · rintro H ⟨s1, hDn⟩
    rw [List.length_map, List.take_length] at hDn
    exact hd H s1 hDn
theorem s_setL {p : Addr} {xs : List V} {k : Int} {j : Nat} {v : V} {H : Hp} {F : Hp → Prop} (h0 : H p = some (.lst xs)) (hj : ixN xs.length k = some j) (h : F (upd H p (.lst (xs.set j v)))) : rSetL (.ref p) (.int k) v H F := ⟨p, xs, k, j, rfl, rfl, h0, hj, h⟩
theorem ixN_ok {n : Nat} {k : Int} (h0 : 0 ≤ k) (h1 : k < n) : ixN n k = some k.toNat := by unfold ixN; rw [if_pos h0, if_pos h1]
theorem atI_ok {α : Type} {xs : List α} {i : Int} (h0 : 0 ≤ i) (h1 : i < xs.length) : ∃ v, xs[i.toNat]? = some v ∧ atI xs i = some v := by
  have hl : i.toNat < xs.length := by omega
  refine ⟨xs[i.toNat], List.getElem?_eq_getElem hl, ?_⟩
  have := atI_nat (xs := xs) (j := i.toNat) (List.getElem?_eq_getElem hl)
  rwa [Int.toNat_of_nonneg h0] at this
theorem atI_map {α : Type} {f : α → V} {xs : List α} {i : Int} {v : α} (h : atI xs i = some v) : atI (xs.map f) i = some (f v) := by
  unfold atI at h ⊢
  rw [List.length_map]
  cases e : ixN xs.length i with
  | none => rw [e] at h; cases h
  | some j =>
    rw [e] at h
    have h' : xs[j]? = some v := h
    show (xs.map f)[j]? = some (f v)
    rw [List.getElem?_map, h']
    rfl
/-! ### lists and tuples of ints as data -/
theorem dpInts {K : PySem.W.Frag} {H : Hp} : ∀ ns : List Int, DpAll K H (ns.map V.int) (ns.map PyData.int)
  | [] => .nil
  | n :: ns => .cons (.int n) (dpInts ns)
theorem lay_ints : ∀ ns : List Int, PyData.canLayAll0 (ns.map PyData.int) = true
  | [] => rfl
  | n :: ns => by
    show (PyData.canLay0 (.int n) && PyData.canLayAll0 (ns.map PyData.int)) = true
    rw [lay_ints ns]
    rfl
theorem shaped_ints (ns : List Int) : SeqAt.shaped (.list (ns.map .int)) = true := by
  have d : (PyData.list (ns.map .int)).depth ≤ 64 := by
    simp [PyData.depth, PySem.W.depth_ints]
  unfold SeqAt.shaped
  rw [decide_eq_true d, Bool.and_true]
  exact lay_ints ns
theorem s_neSame {K : PySem.W.Frag} {p q : Addr} {ns : List Int} {H : Hp} {Q : VK} (h1 : SqL K H p (ns.map V.int)) (h2 : SqL K H q (ns.map V.int)) (h : Q (.bl false) H) : rNe3 K (.ref p) (.ref q) H Q := by
  refine s_neD (.lst h1 (dpInts ns)) (.lst h2 (dpInts ns)) (shaped_ints ns) (shaped_ints ns) ?_
  rw [SeqAt.eqv_refl _ (SeqAt.canLay_of_shaped (shaped_ints ns))]
  exact h
theorem inV_ints (x : Int) (ns : List Int) : inV (.int x) (ns.map V.int) = decide (x ∈ ns) := by
  unfold inV
  rw [List.any_map, Bool.eq_iff_iff]
  simp only [List.any_eq_true, Function.comp, decide_eq_true_eq]
  constructor
  · rintro ⟨y, hy, e⟩
    have : y = x := by simpa [eqV] using e
    rw [← this]; exact hy
  · intro hx
    exact ⟨x, hx, by simp [eqV]⟩
theorem flat_ints (ns : List Int) : (ns.map V.int).all flatV = true := by
  rw [List.all_map, List.all_eq_true]
  intro x _
  rfl
/-! ### dict(..), list(a dict) -/
theorem merge_nodup : ∀ (ls acc : List (Int × Int)), ((acc ++ ls).map (·.1)).Nodup → mergeK (kvI acc) (kvI ls) = kvI (acc ++ ls)
  | [], acc, _ => by rw [List.append_nil]; rfl
  | x :: ls, acc, h => by
    have e : mergeK (kvI acc) (kvI (x :: ls)) = mergeK (putK (kvI acc) (Sum.inl x.1) (.int x.2)) (kvI ls) := rfl
    have n : (acc.any fun p => decide (p.1 = x.1)) = false := by
      rw [List.any_eq_false]
      intro y hy
      simp only [decide_eq_true_eq]
      intro e
      rw [List.map_append, List.nodup_append] at h
      exact h.2.2 y.1 (List.mem_map.mpr ⟨y, hy, rfl⟩) x.1 (by simp) e
    have e2 : putI acc x.1 x.2 = acc ++ [x] := by
      unfold putI
      rw [if_neg (by rw [n]; exact Bool.false_ne_true)]
    rw [e, kvI_put, e2, merge_nodup ls (acc ++ [x]) (by rw [List.append_assoc]; exact h), List.append_assoc]
    rfl
theorem s_dictT {K : PySem.W.Frag} {a : Addr} {as : List Addr} {ss : List (Int × Int)} {H : Hp} {Q : VK} (h1 : FzT H a (as.map V.ref)) (h2 : PairsAt H as ss) (nd : (ss.map (·.1)).Nodup) (h : ∀ p, H p = none → Q (.ref p) (upd H p (.dK (kvI ss)))) : rDictT K [.ref a] H Q := by
  refine ⟨a, as, kvI ss, rfl, h1, ?_, fun p hp => ?_⟩
  · unfold kvI
    have gen : ∀ {as : List Addr} {ss : List (Int × Int)}, PairsAt H as ss → Paired (fun p (kv : Key × V) => SqT K H p [kV kv.1, kv.2]) as (ss.map fun p => ((Sum.inl p.1 : Key), V.int p.2)) := by
      intro as ss h
      induction h with
      | nil => exact .nil
      | cons h _ ih => exact .cons (SqT.of h) ih
    exact gen h2
  · have := merge_nodup ss [] (by simpa using nd)
    rw [show mergeK [] (kvI ss) = kvI ss from this]
    exact h p hp
theorem k_dictT {X : Cx} (K : PySem.W.Frag) (hc : X.calm = true) (hK : X.K = K := by rfl) : CallR X (.type "dict") (rDictT K) := by subst hK; exact call_dictT hc
def rListD : List V → Hp → VK → Prop := fun xs H Q => ∃ (a : Addr) (kvs : List (Key × V)), xs = [.ref a] ∧ Rd H a (.dK kvs) ∧ ∀ p, H p = none → Q (.ref p) (upd H p (.lst (kvs.map fun kv => kV kv.1)))
theorem k_listD {X : Cx} (hc : X.calm = true) : CallR X (.type "list") rListD := call_listD hc
theorem s_listD {a : Addr} {ss : List (Int × Int)} {H : Hp} {Q : VK} (h1 : H a = some (.dK (kvI ss))) (h : ∀ p, H p = none → Q (.ref p) (upd H p (.lst ((ss.map (·.1)).map V.int)))) : rListD [.ref a] H Q := by
  refine ⟨a, _, rfl, .inl h1, fun p hp => ?_⟩
  have e : (kvI ss).map (fun kv => kV kv.1) = (ss.map (·.1)).map V.int := by
    unfold kvI
    rw [List.map_map, List.map_map]
    rfl
  rw [e]
  exact h p hp
theorem s_listS {K : PySem.W.Frag} {a : Addr} {xs : List V} {H : Hp} {Q : VK} (h1 : SqL K H a xs ∨ SqT K H a xs) (h : ∀ p, H p = none → Q (.ref p) (upd H p (.lst xs))) : rListOf K [.ref a] H Q := ⟨a, xs, rfl, h1, h⟩
theorem s_sortI {K : PySem.W.Frag} {a : Addr} {ns : List Int} {H : Hp} {Q : VK} (h1 : SqL K H a (ns.map V.int)) (h : ∀ (ms : List Int) (p : Addr), ms.Perm ns → ms.Pairwise (· ≤ ·) → H p = none → Q (.ref p) (upd H p (.lst (ms.map V.int)))) : rSortedI K [.ref a] H Q := ⟨a, ns, rfl, h1, h⟩
theorem sorted_eq {a b : List Int} (h : a.Perm b) (ha : a.Pairwise (· ≤ ·)) (hb : b.Pairwise (· ≤ ·)) : a = b := List.Perm.eq_of_pairwise (fun _ _ _ _ h1 h2 => Int.le_antisymm h1 h2) ha hb h
def encI : V → PyData := fun v => match v with
  | .int i => .int i
  | _ => .none
theorem s_sortDI {K : PySem.W.Frag} {a : Addr} {ns : List Int} {H : Hp} {Q : VK} (h1 : SqL K H a (ns.map V.int) ∨ SqT K H a (ns.map V.int)) (h : ∀ (ms : List Int) (p : Addr), ms.Perm ns → ms.Pairwise (· ≤ ·) → H p = none → Q (.ref p) (upd H p (.lst (ms.map V.int)))) : rSortD K [.ref a] H Q := by
  refine ⟨a, _, encI, rfl, h1, fun y hy => ?_, ?_, ?_, fun p hp => ?_⟩
  · obtain ⟨x, _, rfl⟩ := List.mem_map.mp hy
    exact ⟨.int _, rfl, by show PyData.depth (.int x) ≤ 50; simp [PyData.depth]⟩
  · intro d hd d' hd'
    obtain ⟨y, hy, rfl⟩ := List.mem_map.mp hd
    obtain ⟨y', hy', rfl⟩ := List.mem_map.mp hd'
    obtain ⟨x, _, rfl⟩ := List.mem_map.mp hy
    obtain ⟨x', _, rfl⟩ := List.mem_map.mp hy'
    rfl
  · refine .inr fun d hd => ?_
    obtain ⟨y, hy, rfl⟩ := List.mem_map.mp hd
    obtain ⟨x, _, rfl⟩ := List.mem_map.mp hy
    exact ⟨fun e => (show False from by have : PyData.int x = .none := e; cases this), fun xs e => (by have : PyData.int x = .tuple xs := e; cases this)⟩
  · have e : (ns.map V.int).mergeSort (PySem.W.dataLe false encI) = (ns.mergeSort (PySem.W.dataLe false PyData.int)).map V.int :=
      (PySem.W.sort_maps (r := PySem.W.dataLe false PyData.int) (s := PySem.W.dataLe false encI) V.int (l := ns) fun a _ b _ => rfl).symm
    rw [e]
    have e2 : PySem.W.dataLe false PyData.int = fun a b : Int => decide (a ≤ b) := PySem.W.dataLe_int fun x => x
    rw [e2]
    refine h _ p (List.mergeSort_perm _ _) ?_ hp
    have := List.pairwise_mergeSort (le := fun a b : Int => decide (a ≤ b)) (fun a b c h1 h2 => by simp at *; omega) (fun a b => by simp; omega) ns
    exact this.imp fun h => by simpa using h
theorem s_lock {t : TS} {n b c : L2.St → Hp → Prop} {R : VK} {σ : L2.St} {H : Hp} {d : Addr} {u : HO} (h1 : H d = some u) (h2 : Mut (some u))
    (h : ∀ od, t ⟨fun σ' H' => H' d = some (.frz od u) ∧ n σ' (upd H' d u), fun v H' => H' d = some (.frz od u) ∧ R v (upd H' d u), fun σ' H' => H' d = some (.frz od u) ∧ b σ' (upd H' d u), fun σ' H' => H' d = some (.frz od u) ∧ c σ' (upd H' d u)⟩ σ (upd H d (.frz od u))) :
    tLock t ⟨n, R, b, c⟩ σ H := ⟨d, u, h1, h2, h⟩
theorem upd_back {H : Hp} {d : Addr} {u v : HO} (h : H d = some u) : upd (upd H d v) d u = H := by
  funext b
  by_cases hb : b = d
  · subst hb; rw [upd_same, h]
  · rw [upd_ne hb, upd_ne hb]
theorem lookI_of {ps : List (Int × Int)} {x : Int × Int} (nd : (ps.map (·.1)).Nodup) (h : x ∈ ps) : lookI ps x.1 = some x.2 := by
  unfold lookI
  induction ps with
  | nil => cases h
  | cons p ps ih =>
    rw [List.map_cons, List.nodup_cons] at nd
    rcases List.mem_cons.mp h with rfl | h
    · simp
    · have : p.1 ≠ x.1 := fun e => nd.1 (by rw [e]; exact List.mem_map.mpr ⟨x, h, rfl⟩)
      rw [List.find?_cons_of_neg (by simp [this])]
      exact ih nd.2 h
/-- a list comprehension over the keys of a dict that stands still, without a test -/
theorem lc_keys {d : Addr} {od : Obj} {ss : List (Int × Int)} {i : Nat} {te : TE} {σ : L2.St} {H1 : Hp} {D : Addr} {Qd : Hp → Prop} (gv : Int × Int → Int)
    (hs : H1 d = some (.frz od (.dK (kvI ss)))) (hl : ss.length ≤ 900) (hD : H1 D = none) (wp : ∀ x : Int, wipe ((wipe σ [i]).set i (some (.int x))) [i] = wipe σ [i])
    (re : ∀ (x : Int × Int) (H : Hp) (Q : VK), x ∈ ss → Same H1 H → Q (.int (gv x)) H → te ((wipe σ [i]).set i (some (.int x.1))) H Q)
    (hd : ∀ H, Same H1 H → H D = some (.lst ((ss.map gv).map V.int)) → Qd H) :
    ∃ W : Nat → Nat → Hp → Prop, (∃ m, W 0 m (upd H1 D (.lst []))) ∧ ∀ n m H, W n m H →
      ((Itk d od (kvI ss)).stop n H ∧ Qd H) ∨ ((Itk d od (kvI ss)).go n H ∧ ∃ Nx : Hp → Prop, (∀ H', Nx H' → ∃ m', m' < m ∧ W (n + 1) m' H') ∧ ∀ x H', (Itk d od (kvI ss)).yld n H x H' → gName i x (wipe σ [i]) H' fun σ2 H2 => wipe σ2 [i] = wipe σ [i] ∧ tYes σ2 H2 fun b H3 =>
        if b = true then te σ2 H3 fun y H4 => ∃ acc, H4 D = some (.lst acc) ∧ acc.length < sizeLine ∧ Nx (upd H4 D (.lst (acc ++ [y]))) else Nx H3) := by
  refine ⟨fun n m H => m = ss.length - n ∧ n ≤ ss.length ∧ Same H1 H ∧ H D = some (.lst (((ss.take n).map gv).map V.int)), ⟨ss.length, by simp, Nat.zero_le _, same_upd (Same.refl _) hD, upd_same⟩, ?_⟩
  rintro n m H ⟨rfl, hn, s1, hDn⟩
  by_cases hlt : n < ss.length
  · refine .inr ⟨⟨s1 _ _ hs, by rw [kvI_len]; exact hlt⟩, fun H' => n + 1 ≤ ss.length ∧ Same H1 H' ∧ H' D = some (.lst (((ss.take (n + 1)).map gv).map V.int)), fun H' z => ⟨ss.length - (n + 1), by omega, rfl, z⟩, fun x H' y => ?_⟩
    obtain ⟨rfl, k, v, hk, rfl⟩ := y
    have hx : ss[n]? = some ss[n] := List.getElem?_eq_getElem hlt
    have e : (k, v) = ((Sum.inl ss[n].1 : Key), V.int ss[n].2) := by
      unfold kvI at hk
      rw [List.getElem?_map, hx] at hk
      exact (Option.some.inj hk).symm
    cases e
    refine s_gname ⟨wp _, s_yes (s_ifT rfl ?_)⟩
    refine re ss[n] _ _ (List.getElem_mem hlt) s1 ⟨_, hDn, small1000 (by rw [List.length_map, List.length_map, List.length_take]; omega), hlt, ?_, ?_⟩
    · intro b o e
      rw [upd_ne (ne_of_none e hD)]
      exact s1 _ _ e
    · rw [upd_same, take_succ_of hx, List.map_append, List.map_append]
      rfl
  · have e : n = ss.length := by omega
    subst e
    rw [List.take_length] at hDn
    exact .inl ⟨⟨s1 _ _ hs, by rw [kvI_len]; exact Nat.le_refl _⟩, hd H s1 hDn⟩
theorem s_neDict {K : PySem.W.Frag} {a b : Addr} {ss : List (Int × Int)} {H : Hp} {Q : VK} (h1 : H a = some (.dK (kvI ss))) (h2 : H b = some (.dK (kvI ss))) (nd : (ss.map (·.1)).Nodup) (h : Q (.bl false) H) : rNe3 K (.ref a) (.ref b) H Q := by
  refine .inr (.inr ⟨a, b, kvI ss, kvI ss, rfl, rfl, h1, h2, rfl, fun p hp => ?_, h⟩)
  unfold kvI at hp
  obtain ⟨x, hx, rfl⟩ := List.mem_map.mp hp
  refine ⟨?_, rfl⟩
  show valV (kvI ss) (Sum.inl x.1) = some (V.int x.2)
  rw [kvI_val, lookI_of nd hx]
  rfl
theorem s_make {C : Addr} {sp : Sp} {dvs : List V} {E : XK} {t : TA} {σ : L2.St} {H : Hp} {Q : VK} (h : t σ H fun vs H1 => ∀ x dx, H1 x = none → H1 dx = none → dx ≠ x → sp (.ref x :: (vs ++ dvs)) (upd (upd H1 dx (.own x)) x (.ins C dx [])) (fun v H2 => v = .non ∧ Q (.ref x) H2) E) : tMake C sp dvs E t σ H Q := h
theorem s_rng1 {j : Int} {F : Int → Prop} (h1 : -(2 ^ 62) ≤ j) (h2 : j < 2 ^ 62) (h : F j) : ∃ i : Int, [V.int j] = [.int i] ∧ -(2 ^ 62) ≤ i ∧ i < 2 ^ 62 ∧ F i := ⟨j, rfl, h1, h2, h⟩
/-- a list comprehension over range(n), each element an int made of its number, nothing changed -/
theorem lc_rng {n : Nat} {i : Nat} {te : TE} {σ : L2.St} {H1 : Hp} {D : Addr} {Qd : Hp → Prop} (gv : Int → Int) (hl : n ≤ 900) (hD : H1 D = none) (wp : ∀ x : Int, wipe ((wipe σ [i]).set i (some (.int x))) [i] = wipe σ [i])
    (re : ∀ (x : Int) (H : Hp) (Q : VK), Q (.int (gv x)) H → te ((wipe σ [i]).set i (some (.int x))) H Q)
    (hd : ∀ H, Same H1 H → H D = some (.lst (((List.range n).map fun m => gv (m : Nat)).map V.int)) → Qd H) :
    ∃ W : Nat → Nat → Hp → Prop, (∃ m, W 0 m (upd H1 D (.lst []))) ∧ ∀ k m H, W k m H →
      ((Itr 0 n).stop k H ∧ Qd H) ∨ ((Itr 0 n).go k H ∧ ∃ Nx : Hp → Prop, (∀ H', Nx H' → ∃ m', m' < m ∧ W (k + 1) m' H') ∧ ∀ x H', (Itr 0 n).yld k H x H' → gName i x (wipe σ [i]) H' fun σ2 H2 => wipe σ2 [i] = wipe σ [i] ∧ tYes σ2 H2 fun b H3 =>
        if b = true then te σ2 H3 fun y H4 => ∃ acc, H4 D = some (.lst acc) ∧ acc.length < sizeLine ∧ Nx (upd H4 D (.lst (acc ++ [y]))) else Nx H3) := by
  refine lc_range (fun k H => Same H1 H ∧ H D = some (.lst (((List.range k).map fun m => gv (m : Nat)).map V.int))) ⟨same_upd (Same.refl _) hD, upd_same⟩ ?_ ?_
  · rintro k H hk ⟨s1, hDk⟩
    rw [Int.zero_add]
    refine s_gname ⟨wp _, s_yes (s_ifT rfl ?_)⟩
    refine re _ _ _ ⟨_, hDk, small1000 (by rw [List.length_map, List.length_map, List.length_range]; omega), ?_, ?_⟩
    · intro b o e
      rw [upd_ne (ne_of_none e hD)]
      exact s1 _ _ e
    · rw [upd_same, List.range_succ, List.map_append, List.map_append]
      rfl
  · rintro H ⟨s1, hDk⟩
    exact hd H s1 hDk
end Lt

set_option Elab.async false
set_option linter.all false
set_option maxRecDepth 100000
set_option maxHeartbeats 4000000
/-! Lt4: a star in targets: a, *b = a list or a tuple; rules for texts. -/
namespace Lt
open PySem PySem.Spec PyProof.Rows L2
theorem shiftW {prog : Program} {w : World} {A : Around} {I : Addr} {fp wr : List Addr} {G : Array GenState → Array GenState → Prop} {n : Nat} {Pv : Nat → Value → Prop} {St : Nat → Shared → Prop}
    (W : WalksS prog w A I fp wr G (n + 1) Pv St) : WalksS prog w A I fp wr G n (fun i => Pv (i + 1)) (fun i => St (i + 1)) where
  sub := W.sub
  grefl := W.grefl
  gtrans := W.gtrans
  frame := fun i => W.frame (i + 1)
  item := fun i s Q E hi st h => W.item (i + 1) s Q E (by omega) st h
  done := W.done
  self := fun i => W.self (i + 1)
section
variable {prog : Program} {w : World} {A : Around} {E : Value → Shared → Prop} {s : Shared}
/-- what comes of a walk whose first item goes by itself and whose others go into a new list -/
theorem unpack_star {it : Addr} {T : String} {fp : List Addr} {vs : List Value} {v0 : Value} {St : Nat → Shared → Prop} {Q : List Value → Shared → Prop}
    (hTm : T = "str_ascii_iterator" ∨ T = "str_iterator" ∨ T = "list_iterator" ∨ T = "tuple_iterator")
    (W : WalksS prog w A.in1 it fp [it] (fun a b => b = a) (vs.length + 1) (fun i v => (v0 :: vs)[i]? = some v) St) (hT : ∀ i s, St i s → s.TypeIs (.ref it) T) (hst : St 0 s) (hfp : ∀ i s, St i s → ∀ b ∈ fp, b < s.heap.objs.size) (hI : it ∈ fp) (hn : vs.length + 1 ≤ sizeLine)
    (hQ : ∀ s', Moved [it] (fun a b => b = a) s s' → Q [v0, .ref s'.heap.objs.size] { s' with heap := s'.heap.push { cls := .type "list", data := .seq vs.toArray } }) :
    wpAny (model prog w) A (do
      let first ← holding [.ref it] (draw (.ref it) 1)
      if first.length < 1 then
        rule "unpack.star.too-few-before"
        raiseError "ValueError" s!"not enough values to unpack (expected at least {2 - 1}, got {first.length})"
      let rest ← holding first (collect (.ref it))
      let after := 2 - 1 - 1
      if rest.length < after then
        rule "unpack.star.too-few"
        raiseError "ValueError" s!"not enough values to unpack (expected at least {2 - 1}, got {1 + rest.length})"
      let mid := rest.length - after
      return first ++ [← newList (rest.take mid)] ++ rest.drop mid) Q E s := by
  refine wpAny_bind (wpAny_holding ?_)
  show wpAny _ _ (pyNext (.ref it) >>= _) _ E s
  refine wpAny_bind (W.of_in1.item 0 s _ _ (Nat.succ_pos _) hst fun v s1 hv st1 m1 => ?_)
  have e0 : v = v0 := (Option.some.inj hv).symm
  subst e0
  refine wpAny_bind (wpAny_holding ?_)
  show wpAny _ _ (pure []) _ E s1
  refine wpAny_pure (wpAny_pure ?_)
  rw [if_neg (by show ¬ 1 < 1; exact Nat.lt_irrefl 1)]
  have fin : ∀ (s' : Shared) (acc : Array Value), Moved [it] (fun a b => b = a) s1 s' → ItemsOf (fun i v' => (v :: vs)[i + 1]? = some v') acc vs.length → acc.toList = vs := fun s' acc m ho => by
    refine List.ext_getElem? fun i => ?_
    rw [Array.getElem?_toList]
    cases e : acc[i]? with
    | none =>
      have : acc.size ≤ i := by simpa using e
      rw [ho.1] at this
      exact (List.getElem?_eq_none this).symm
    | some v => exact (ho.2 i v e).symm
  refine wpAny_bind (wpAny_holding (wpAny_collect_iter hTm (shiftW W) (fun i s => hT (i + 1) s) st1 (hfp _ _ st1) hI (fun s' acc m ho => ?_) (by omega)))
  rw [fin s' acc m ho]
  dsimp only
  rw [if_neg (by omega)]
  refine wpAny_bind (wpAny_newList ?_ (by rw [List.length_take]; omega))
  refine wpAny_pure ?_
  have hz : vs.length - (2 - 1 - 1) = vs.length := by omega
  rw [hz, List.take_length, List.drop_length]
  exact hQ s' ⟨fun b o hb e => m.heap b o hb (m1.heap b o hb e), m.gens.trans m1.gens, m.drawn.trans m1.drawn, m.os.trans m1.os, Nat.le_trans m1.toks m.toks⟩

theorem unpackItems_starL {l : Addr} {v0 : Value} {vs : List Value} {Q : List Value → Shared → Prop} (hh : A.handled = none) (hl : s.heap.IsList l (v0 :: vs).toArray) (hn : vs.length + 1 ≤ sizeLine)
    (hQ : ∀ (h' : Heap) tk, (∀ b o, s.heap.get? b = some o → h'.get? b = some o) → Q [v0, .ref h'.objs.size] { s with heap := h'.push { cls := .type "list", data := .seq vs.toArray }, toks := tk }) :
    wpAny (model prog w) A (unpackItems (.ref l) 2 (some 1)) Q E s := by
  have hlt : l < s.heap.objs.size := by obtain ⟨_, e, _⟩ := hl; exact Heap.lt_size e
  unfold unpackItems
  refine wpAny_bind ?_
  · unfold notIterableAtAll
    refine wpAny_bind (wpAny_specialOf (hl.typeIs) slot_list_iter.lookup ?_)
    refine wpAny_pure ?_
    simp only [Bool.false_eq_true, if_false]
    refine wpAny_bind (wpAny_holding (wpAny_pyIter_list hl ?_))
    have W := (Walks.list (prog := prog) (w := w) (A := A.in1) hh s.heap.objs.size l (Nat.ne_of_lt hlt) (v0 :: vs).toArray).toS
    have e : (v0 :: vs).toArray.size = vs.length + 1 := by simp
    rw [e] at W
    refine unpack_star (T := "list_iterator") (vs := vs) (v0 := v0) (fp := [s.heap.objs.size, l]) (St := fun i s' => s'.heap.IsListIter s.heap.objs.size l i ∧ s'.heap.IsList l (v0 :: vs).toArray) (by simp) (by simpa using W) (fun i s h => h.1.typeIs)
      ⟨⟨_, Heap.get?_push_size _ rfl, rfl, rfl⟩, hl.push _⟩ (fun i s' h b hb => ?_) (by simp) hn fun s' m => ?_
    · rcases List.mem_cons.mp hb with rfl | hb
      · obtain ⟨_, e, _⟩ := h.1
        exact Heap.lt_size e
      · rw [List.mem_singleton.mp hb]
        obtain ⟨_, e, _⟩ := h.2
        exact Heap.lt_size e
    · obtain ⟨h', tk, e, hk⟩ := PySem.W.moved_old rfl rfl m
      subst e
      exact hQ h' tk hk
theorem unpackItems_starT {l : Addr} {v0 : Value} {vs : List Value} {Q : List Value → Shared → Prop} (hh : A.handled = none) (hl : s.heap.IsTuple l (v0 :: vs).toArray) (hn : vs.length + 1 ≤ sizeLine)
    (hQ : ∀ (h' : Heap) tk, (∀ b o, s.heap.get? b = some o → h'.get? b = some o) → Q [v0, .ref h'.objs.size] { s with heap := h'.push { cls := .type "list", data := .seq vs.toArray }, toks := tk }) :
    wpAny (model prog w) A (unpackItems (.ref l) 2 (some 1)) Q E s := by
  have hlt : l < s.heap.objs.size := by obtain ⟨_, e, _⟩ := hl; exact Heap.lt_size e
  unfold unpackItems
  refine wpAny_bind ?_
  · unfold notIterableAtAll
    refine wpAny_bind (wpAny_specialOf (hl.typeIs) slot_tuple_iter.lookup ?_)
    refine wpAny_pure ?_
    simp only [Bool.false_eq_true, if_false]
    refine wpAny_bind (wpAny_holding (wpAny_pyIter_tuple hl ?_))
    have W := (Walks.tuple (prog := prog) (w := w) (A := A.in1) hh s.heap.objs.size l (Nat.ne_of_lt hlt) (v0 :: vs).toArray).toS
    have e : (v0 :: vs).toArray.size = vs.length + 1 := by simp
    rw [e] at W
    refine unpack_star (T := "tuple_iterator") (vs := vs) (v0 := v0) (fp := [s.heap.objs.size, l]) (St := fun i s' => s'.heap.IsTupleIter s.heap.objs.size l i ∧ s'.heap.IsTuple l (v0 :: vs).toArray) (by simp) (by simpa using W) (fun i s h => h.1.typeIs)
      ⟨⟨_, Heap.get?_push_size _ rfl, rfl, rfl⟩, hl.push _⟩ (fun i s' h b hb => ?_) (by simp) hn fun s' m => ?_
    · rcases List.mem_cons.mp hb with rfl | hb
      · obtain ⟨_, e, _⟩ := h.1
        exact Heap.lt_size e
      · rw [List.mem_singleton.mp hb]
        obtain ⟨_, e, _⟩ := h.2
        exact Heap.lt_size e
    · obtain ⟨h', tk, e, hk⟩ := PySem.W.moved_old rfl rfl m
      subst e
      exact hQ h' tk hk
end
/-- a, *b = a list or a tuple -/
def gStar (K : PySem.W.Frag) (gs : TGs) : TG := fun v σ H Q => ∃ a x xs, v = .ref a ∧ (SqL K H a (x :: xs) ∨ SqT K H a (x :: xs)) ∧ ∀ p, H p = none → gs [x, .ref p] σ (upd H p (.lst xs)) Q
theorem pg_star {X : Cx} {x1 x2 : Str} {p1 p2 p3 pos : Pos} {k : Nat} {gs : TGs} (hc : X.calm = true) (h1 : PGs X [.Name x1 p1, .Name x2 p2] gs) : PG X (.Tuple [.Name x1 p1, .Starred (.Name x2 p2) p3] k pos) (gStar X.K gs) := by
  refine ⟨fun pins s σ H v u Q I r hw => ?_⟩
  obtain ⟨a, x, xs, e1, hq, hw⟩ := hw
  subst e1
  cases r
  have go : ∀ (its : List Value) (h' : Heap) tk, Vals (x :: xs) its → xs.length + 1 ≤ sizeLine → (∀ b o, s.heap.get? b = some o → h'.get? b = some o) → ∀ i0 is, its = i0 :: is →
      wpAny (model X.prog X.w) X.A (assignInOrder ((assignEach [.Name x1 p1, .Starred (.Name x2 p2) p3] X.env).map (·.2)) [i0, .ref h'.objs.size]) (fun _ s' => ∃ σ' H', Inv X pins σ' H' s' ∧ Q σ' H') X.xe { s with heap := h'.push { cls := .type "list", data := .seq is.toArray }, toks := tk } := by
    intro its h' tk rv hz hk i0 is e
    subst e
    cases rv with
    | cons r0 rs =>
      have I1 : Inv X pins σ H { s with heap := h', toks := tk } := I.kept hk
      have hf : H h'.objs.size = none := I1.hok.fresh (Nat.le_refl _)
      have I2 : Inv X pins σ (upd H h'.objs.size (.lst xs)) { s with heap := h'.push { cls := .type "list", data := .seq is.toArray }, toks := tk } :=
        I1.laid (t' := tk) (fun b u e => Heap.get?_push_of_some _ e) (Nat.le_refl _) ⟨by omega, is, 0, rs, Heap.get?_push_size _ rfl⟩
      exact h1.run pins _ σ _ [x, .ref h'.objs.size] [i0, .ref h'.objs.size] Q I2 (.cons r0 (.cons rfl .nil)) (hw _ hf)
  rw [PyProof.Rows.assign_Tuple]
  refine wpAny_bind (wpAny_standAt ?_)
  unfold unpack
  show wpAny _ _ (holding [.ref a] (unpackItems (.ref a) 2 (some 1)) >>= _) _ _ _
  rcases hq with hq | hq
  · obtain ⟨its, rv, pl, hz⟩ := I.list hq
    cases its with
    | nil => cases rv
    | cons i0 is =>
      have hl : is.length + 1 ≤ sizeLine := by have := rv.length; simp at this hz; omega
      exact wpAny_bind (wpAny_holding (unpackItems_starL (I.ok.hd hc) pl.isList hl fun h' tk hk => go _ h' tk rv (by simpa using hz) hk _ _ rfl))
  · obtain ⟨its, rv, pl, hz⟩ := I.tuple hq
    cases its with
    | nil => cases rv
    | cons i0 is =>
      have hl : is.length + 1 ≤ sizeLine := by have := rv.length; simp at this hz; omega
      exact wpAny_bind (wpAny_holding (unpackItems_starT (I.ok.hd hc) pl hl fun h' tk hk => go _ h' tk rv (by simpa using hz) hk _ _ rfl))
theorem kg_star {X : Cx} {x1 x2 : Str} {p1 p2 p3 pos : Pos} {k : Nat} {gs : TGs} (K : PySem.W.Frag) (hc : X.calm = true) (h1 : PGs X [.Name x1 p1, .Name x2 p2] gs) (hK : X.K = K := by rfl) : PG X (.Tuple [.Name x1 p1, .Starred (.Name x2 p2) p3] k pos) (gStar K gs) := by subst hK; exact pg_star hc h1
theorem s_gstar {K : PySem.W.Frag} {gs : TGs} {a : Addr} {x : V} {xs : List V} {σ : L2.St} {H : Hp} {Q : L2.St → Hp → Prop} (h0 : SqL K H a (x :: xs) ∨ SqT K H a (x :: xs)) (h : ∀ p, H p = none → gs [x, .ref p] σ (upd H p (.lst xs)) Q) : gStar K gs (.ref a) σ H Q := ⟨a, x, xs, rfl, h0, h⟩
/-! ### a tuple's item by a truth value; a text from its first or second sign on -/
section
variable {prog : Program} {w : World} {A : Around} {E : Value → Shared → Prop} {s : Shared}
theorem getItem_tupB {t : Addr} {items : Array Value} {b : Bool} {x : Value} {Q : Value → Shared → Prop} (ht : IsTup s.heap t items) (hx : items[if b = true then 1 else 0]? = some x) (h : Q x s) :
    wpAny (model prog w) A (getItem (.ref t) (.bool b)) Q E s := by
  have hj : seqIndex? (if b = true then (1 : Int) else 0) items.size = some (if b = true then 1 else 0) := by
    have h0 := (Array.getElem?_eq_some_iff.mp hx).1
    cases b
    · have h1 : 0 < items.size := h0
      exact seqIndex_of (k := 0) (by decide) (by omega)
    · have h1 : 1 < items.size := h0
      exact seqIndex_of (k := 1) (by decide) (by omega)
  unfold getItem
  try with_reducible refine wpAny_holding ?_
  first | refine wpAny_bind (wpAny_pure ?_) | skip
  refine wpAny_bind (wpAny_sequenceKey ht.typeIs (by decide) ?_)
  refine wpAny_bind (wpAny_callSpecial?_slot (name := Str.ofString "__getitem__") ht.typeIs slot_tuple_getitem
    (wpAny_call_entry slot_tuple_getitem ht.typeIs entry_tuple_getitem ?_ (args_tuple_getitem _ _)))
  show wpAny _ _ (Builtin.Tuple.tupleItemsOf (.ref t) >>= _) _ _ s
  refine wpAny_bind (tupleItemsOf_ ht ?_)
  refine wpAny_bind (wpAny_typeOf (T := "bool") rfl ?_)
  rw [if_neg (by decide)]
  refine wpAny_bind (wpAny_specialOf (T := "bool") rfl F.slot_bool_index.lookup ?_)
  rw [if_neg (by simp)]
  refine wpAny_bind (wpAny_of_eq (a := if b = true then (1 : Int) else 0) rfl ?_)
  rw [if_neg (by cases b <;> decide)]
  simp only [hj, Option.bind_some, hx]
  exact wpAny_pure ⟨_, rfl, wpAny_pure h⟩
end
/-- t[b] of a tuple, b a truth value -/
def rIxB (K : PySem.W.Frag) : R2 := fun x y H Q => ∃ p xs b v, x = .ref p ∧ y = .bl b ∧ SqT K H p xs ∧ xs[if b = true then 1 else 0]? = some v ∧ Q v H
section
variable {X : Cx}
theorem ix_tupB : IxR X (rIxB X.K) := by
  intro value slice pins s σ H x y v u Q I rx ry h hs
  obtain ⟨p, xs, b, z, rfl, rfl, hq, he, q⟩ := h
  cases rx
  cases ry
  obtain ⟨its, r, pl, hz⟩ := I.tuple hq
  obtain ⟨w, ew, rw'⟩ := r.get he
  exact subscriptTail_builtinR (x := w) pl.typeIs slot_tuple_getitem.lookup
    (getItem_tupB (b := b) (Q := fun r s' => r = w ∧ EP X pins σ Q r s') pl (by simpa using ew) ⟨rfl, ⟨z, H, I, rw', q⟩⟩) hs
theorem k_ixB (K : PySem.W.Frag) (hK : X.K = K := by rfl) : IxR X (rIxB K) := by subst hK; exact ix_tupB
end
section
variable {M : Model} {A : Around} {E : Value → Shared → Prop} {s : Shared}
open Builtin Builtin.Str in
theorem parts_bool {a : Addr} {b : Bool} {Q : Option Int × Option Int × Int → Shared → Prop} (hs : s.heap.IsSliceOf a (.bool b) .none .none) (h : Q (some (if b then 1 else 0), none, 1) s) : wpAny M A (strSliceParts (.ref a)) Q E s := by
  obtain ⟨o, ho, hc, hd⟩ := hs
  unfold strSliceParts
  refine wpAny_bind (wpAny_field (x := .none) ho hd rfl ?_)
  refine wpAny_bind (wpAny_slicePart (p := none) ?_)
  rw [if_neg (by decide)]
  refine wpAny_bind (wpAny_field (x := .bool b) ho hd rfl ?_)
  refine wpAny_bind ?_
  show wpAny M A (do
      if (← specialOf (.bool b) "__index__").isNone then
        rule "str.slice.no-index"; raiseError "TypeError" "slice indices must be integers or None or have an __index__ method"
      return some (← asIndex (.bool b)) : Sem (Option Int)) _ E s
  refine wpAny_bind (wpAny_specialOf (name := Str.ofString "__index__") (T := "bool") rfl F.slot_bool_index.lookup ?_)
  refine wpAny_pure ?_
  refine wpAny_bind (wpAny_field (x := .none) ho hd rfl ?_)
  refine wpAny_bind (wpAny_slicePart (p := none) ?_)
  exact wpAny_pure h
end
section
open Builtin Builtin.Str
theorem meets_strB (x : Str) (t : Tok) (a : Addr) (b : Bool) :
    Meets («str.__getitem__» ⟨[.str x t, .ref a], []⟩) (fun _ R s => s.heap.IsSliceOf a (.bool b) .none .none ∧ (sliceMade x t (some (if b then 1 else 0, 0)) none none).post (fun v s' => R (.ok (.ret v)) s') s) := by
  intro prog w A R s ⟨hs, hpost⟩
  have hT : s.TypeIs (.ref a) "slice" := let ⟨o, ho, hc, _⟩ := hs; ⟨o, ho, hc⟩
  show wpAny _ _ (do
    if (← typeOf (.ref a)) == .type "slice" then
      let (lo, hi, step) ← strSliceParts (.ref a)
      let picked := strSliceIndices lo hi step x.length
      if step == 1 && picked.length == x.length then rule "str.__getitem__.whole"; return ← ret (.str x t)
      return ← retStr ⟨(picked.filterMap (x.cps[·]?)).toArray⟩
    _) _ _ s
  refine wpAny_bind (wpAny_typeOf hT ?_)
  show wpAny _ _ (do
      let (lo, hi, step) ← strSliceParts (.ref a)
      let picked := strSliceIndices lo hi step x.length
      if step == 1 && picked.length == x.length then rule "str.__getitem__.whole"; return ← ret (.str x t)
      return ← retStr ⟨(picked.filterMap (x.cps[·]?)).toArray⟩) _ _ s
  refine wpAny_bind (parts_bool hs ?_)
  have g : Gives (if ((1 : Int) == 1 && (slicePicked x (some (if b then 1 else 0, 0)) none none).length == x.length) = true then (do rule "str.__getitem__.whole"; ret (.str x t))
      else retStr ⟨((slicePicked x (some (if b then 1 else 0, 0)) none none).filterMap (x.cps[·]?)).toArray⟩) (sliceMade x t (some (if b then 1 else 0, 0)) none none) := by
    unfold sliceMade
    show Gives _ (if ((1 : Int) == 1 && (slicePicked x (some (if b then 1 else 0, 0)) none none).length == x.length) = true then _ else _)
    cases ((1 : Int) == 1 && (slicePicked x (some (if b then 1 else 0, 0)) none none).length == x.length)
    · exact .of_eq rfl
    · exact .rule (.of_eq rfl)
  exact g prog w A R s hpost
end
def tSlB (te tl : TE) : TE := fun σ H Q => te σ H fun x H1 => tl σ H1 fun y H2 => ∃ z b, x = .str z ∧ y = .bl b ∧ z.length ≤ sizeLine ∧ Q (.str (cutS z (some (if b = true then 1 else 0)) none)) H2
section
variable {X : Cx} {e l : Expr} {te tl : TE} {pos p2 : Pos}
/-- x[b:], b a truth value -/
theorem pe_sliceB (he : PE X e te) (hl : PE X l tl) : PE X (.Subscript e (.Slice (some l) none none p2) pos) (tSlB te tl) := by
  refine ⟨fun pins s σ H Q I h => ?_⟩
  refine Subscript_ (thn (he.run pins s σ H _ I h) fun v s1 ⟨x, H1, I1, r1, q1⟩ => ?_)
  refine wpAny_Slice ?_
  rw [evalPart_some]
  refine thn (hl.run pins s1 σ H1 _ I1 q1) fun vl s2 ⟨y, H2, I2, pl, q2⟩ => ?_
  rw [evalPart_none]
  refine wpAny_pure (wpAny_pure ?_)
  obtain ⟨z, b, ex, ey, hz, q⟩ := q2
  subst ex
  subst ey
  obtain ⟨t, rfl⟩ := r1
  cases pl
  have I4 : Inv X pins σ H2 { s2 with heap := s2.heap.push { cls := .type "slice", data := .fields #[.bool b, .none, .none] } } := I2.kept (t' := s2.toks) fun b ob q => Heap.get?_push_of_some _ q
  show wpAny (model X.prog X.w) X.A (subscriptTail e (.Slice (some l) none none p2) (.str z t) (.ref s2.heap.objs.size)) (EP X pins σ Q) X.xe { s2 with heap := s2.heap.push { cls := .type "slice", data := .fields #[.bool b, .none, .none] } }
  refine tail_any (ops := [.ref s2.heap.objs.size, .str z t]) (typeIs_str _ z t) slot_str_getitem.lookup ?_ (by with_unfolding_all rfl)
  refine PySem.getItem_meets (typeIs_str _ z t) (by decide) F.slot_str_getitem F.entry_str_getitem (F.args_str_getitem_2 _ _) (meets_strB z t s2.heap.objs.size b) ⟨Heap.IsSliceOf.new .., ?_⟩
  have hl : (PySem.StrLaws.sliceText z (some (if b = true then 1 else 0)) none).length ≤ sizeLine := by
    rw [sliceText_cut]
    exact Nat.le_trans (cutS_length z _ _) hz
  rw [← sliceText_cut] at q
  unfold PySem.StrLaws.sliceText at q hl
  show Made.post (if ((1 : Int) == 1 && (Builtin.Str.strSliceIndices (some (if b = true then 1 else 0)) none 1 z.length).length == z.length) = true then Made.val (.str z t)
    else Made.str ⟨((Builtin.Str.strSliceIndices (some (if b = true then 1 else 0)) none 1 z.length).filterMap (z.cps[·]?)).toArray⟩) (EP X pins σ Q) _
  by_cases c : ((1 : Int) == 1 && (Builtin.Str.strSliceIndices (some (if b = true then 1 else 0)) none 1 z.length).length == z.length) = true
  · rw [if_pos c] at q ⊢
    exact ⟨.str z, H2, I4, ⟨t, rfl⟩, q⟩
  · rw [if_neg c] at q hl ⊢
    exact ⟨hl, .str _, H2, I4.tok _, ⟨_, rfl⟩, q⟩
end
/-! ### d.get(k, x) of a dict that the module's top has written -/
def tKGet2 (K : PySem.W.Frag) (w : World) (td ty tx : TE) : TE := fun σ H Q => td σ H fun x H1 => ∃ d es n, x = .ref d ∧ KDict K w d es n ∧ ty σ H1 fun y H2 => tx σ H2 fun z H3 => ∃ k r, y = .str k ∧ PySem.W.nsIn K d k = some r ∧
  (r = none → Q z H3) ∧ ∀ u, r = some u → ∃ v, RelV v u ∧ Q v H3
section
variable {X : Cx} {o e f : Expr} {apos cpos : Pos} {td ty tx : TE}
theorem pe_kget2 (K : PySem.W.Frag) (ho : PE X o td) (he : PE X e ty) (hf : PE X f tx) (m : M2 X o "get" apos e f cpos) (hK : X.K = K := by rfl) : PE X (.Call (.Attribute o "get" apos) [e, f] [] cpos) (tKGet2 K X.w td ty tx) := by
  subst hK
  refine ⟨fun pins s σ H Q I h => ?_⟩
  refine wpAny_Call_method m.base m.few m.line PySem.F.plainAttrs_dict PySem.F.slot_dict_get PySem.F.type_dict_get (thn (ho.run pins s σ H _ I h) fun u s1 ⟨x, H1, I1, rx, d, es, n, ex, D, q1⟩ => ?_)
  subst ex
  obtain rfl : u = Value.ref d := rx
  have dt := kd_type D I1
  obtain ⟨oo, es', n', ho1, hc1, _⟩ := PySem.W.mapOf_K (prog := X.prog) (w := X.w) I1.kIn D.at_ D.lit
  refine ⟨dt, fun a ea => ⟨oo, by cases ea; exact ho1, hc1.2.1⟩, ?_⟩
  rw [m.trees]
  refine Calls.callWith_builtin rfl (Calls.evalArgs_plain (Calls.spliced_cons (thn (he.run pins s1 σ H1 _ I1 q1) fun iv s2 ⟨y, H2, I2, ry, q2⟩ =>
    Calls.spliced_cons (thn (hf.run pins s2 σ H2 _ I2 q2) fun fv s3 ⟨z, H3, I3, rz, k, r, ey, hn, q3, q4⟩ => Calls.spliced_nil ?_))))
  subst ey
  obtain ⟨t, rfl⟩ := ry
  have hm := PySem.W.mapOf_K (prog := X.prog) (w := X.w) I3.kIn D.at_ D.lit
  refine call_meetsIn PySem.F.slot_dict_get hm.typeIs PySem.F.entry_dict_get (PySem.F.args_dict_get_3 _ _ _) (meets_dict_get_default (PySem.strKind X.prog X.w) d (strKind_is X.prog X.w k t) D.low fv) ⟨_, hm, ?_⟩
  rw [PySem.W.find_K D.at_ hn]
  cases r with
  | none => exact ⟨z, H3, I3.tok _, rz, q3 rfl⟩
  | some u =>
    obtain ⟨v, rv, q⟩ := q4 u rfl
    exact ⟨v, H3, I3.tok _, rv, q⟩
end
/-! ### str(x), int(x) of several kinds -/
def rStr3 : List V → Hp → VK → Prop := fun xs H Q => (∃ i : Int, xs = [.int i] ∧ i.natAbs.log2 < 1920 ∧ Q (.str (toString i)) H) ∨ ∃ a, xs = [.str a] ∧ Q (.str a) H
theorem call_str3 {X : Cx} : CallR X (.type "str") rStr3 := call_str_int.or SkE.call_str_str
def KTab : List DictEntry → List (Str × Int) → Prop
  | [], [] => True
  | e :: es, p :: ts => (∃ t, e.key = .str p.1 t) ∧ (∃ t, e.val = .int p.2 t) ∧ KTab es ts
  | _, _ => False
theorem ktab_find : ∀ {es : List DictEntry} {ts : List (Str × Int)} (s : Str), KTab es ts → es.any (·.refKey) = false ∧ (match ts.lookup s with | none => es.find? (·.key.isStr s) = none | some i => ∃ e t, es.find? (·.key.isStr s) = some e ∧ e.val = .int i t)
  | [], [], s, _ => ⟨rfl, rfl⟩
  | e :: es, p :: ts, s, h => by
    obtain ⟨⟨t, hk⟩, ⟨u, hv⟩, hr⟩ := h
    obtain ⟨h1, h2⟩ := ktab_find s hr
    refine ⟨?_, ?_⟩
    · rw [List.any_cons, h1]
      show (e.refKey || false) = false
      unfold DictEntry.refKey
      rw [hk]
      rfl
    · rw [List.lookup_cons]
      have hi : e.key.isStr s = (p.1 == s) := by rw [hk]; rfl
      by_cases c : p.1 = s
      · subst c
        rw [show (p.1 == p.1) = true from beq_self_eq_true _]
        refine ⟨e, u, ?_, hv⟩
        rw [List.find?_cons, hi, show (p.1 == p.1) = true from beq_self_eq_true _]
      · have c1 : (s == p.1) = false := beq_eq_false_iff_ne.mpr fun z => c z.symm
        have c2 : (p.1 == s) = false := beq_eq_false_iff_ne.mpr c
        rw [c1, List.find?_cons, hi, c2]
        exact h2
/-- what a written dict of the top tells at a text -/
theorem ktab_look {K : PySem.W.Frag} {d : Addr} {c : Value} {dd : Option Addr} {es : Array DictEntry} {n : Nat} {sl : Array (Option Value)} {ts : List (Str × Int)} (hl : K.lookup d = some ⟨c, dd, .dict es n, sl⟩) (h : KTab es.toList ts) (s : Str) :
    ∃ r, PySem.W.nsIn K d s = some r ∧ (match ts.lookup s with | none => r = none | some i => ∃ t, r = some (.int i t)) := by
  obtain ⟨h1, h2⟩ := ktab_find s h
  unfold PySem.W.nsIn
  rw [hl]
  cases e : ts.lookup s with
  | none =>
    rw [e] at h2
    refine ⟨none, ?_, rfl⟩
    dsimp only
    rw [h2]
    dsimp only
    rw [h1]
    rfl
  | some i =>
    rw [e] at h2
    obtain ⟨e', t, h3, h4⟩ := h2
    refine ⟨some (.int i t), ?_, t, rfl⟩
    dsimp only
    rw [h3, ← h4]
theorem sameT {K : PySem.W.Frag} {H H' : Hp} {a : Addr} {xs : List V} (s : Same H H') (h : SqT K H a xs) : SqT K H' a xs := by
  rcases h with h | h
  · left
    rcases h with h | ⟨o, h⟩
    · exact .inl (s _ _ h)
    · exact .inr ⟨o, s _ _ h⟩
  · exact .inr h
/-- a comprehension with no test over anything of a known row of values; each turn may lay new objects -/
theorem lc_any {J : It} {xs ys : List V} {i : Nat} {te : TE} {σ : L2.St} {H1 : Hp} {D : Addr} {Qd : Hp → Prop} (hlen : xs.length = ys.length) (hl : ys.length ≤ 900) (hD : H1 D = none)
    (jg : ∀ n H, Same H1 H → n < xs.length → J.go n H) (jy : ∀ n H x H', Same H1 H → J.yld n H x H' → H' = H ∧ xs[n]? = some x) (js : ∀ H, Same H1 H → J.stop xs.length H)
    (wp : ∀ x : V, wipe ((wipe σ [i]).set i (some x)) [i] = wipe σ [i])
    (re : ∀ (n : Nat) (x y : V) (H : Hp) (Q : VK), xs[n]? = some x → ys[n]? = some y → Same H1 H → (∀ H', Same H H' → Q y H') → te ((wipe σ [i]).set i (some x)) H Q)
    (hd : ∀ H, Same H1 H → H D = some (.lst ys) → Qd H) :
    ∃ W : Nat → Nat → Hp → Prop, (∃ m, W 0 m (upd H1 D (.lst []))) ∧ ∀ n m H, W n m H →
      (J.stop n H ∧ Qd H) ∨ (J.go n H ∧ ∃ Nx : Hp → Prop, (∀ H', Nx H' → ∃ m', m' < m ∧ W (n + 1) m' H') ∧ ∀ x H', J.yld n H x H' → gName i x (wipe σ [i]) H' fun σ2 H2 => wipe σ2 [i] = wipe σ [i] ∧ tYes σ2 H2 fun b H3 =>
        if b = true then te σ2 H3 fun y H4 => ∃ acc, H4 D = some (.lst acc) ∧ acc.length < sizeLine ∧ Nx (upd H4 D (.lst (acc ++ [y]))) else Nx H3) := by
  refine ⟨fun n m H => m = xs.length - n ∧ n ≤ xs.length ∧ Same H1 H ∧ H D = some (.lst (ys.take n)), ⟨_, rfl, Nat.zero_le _, same_upd (Same.refl _) hD, upd_same⟩, ?_⟩
  rintro n m H ⟨rfl, hn, s1, hDn⟩
  by_cases hlt : n < xs.length
  · refine .inr ⟨jg n H s1 hlt, fun H' => n + 1 ≤ xs.length ∧ Same H1 H' ∧ H' D = some (.lst (ys.take (n + 1))), fun H' z => ⟨_, by omega, rfl, z⟩, ?_⟩
    intro x H' hy
    obtain ⟨rfl, hx⟩ := jy n H x H' s1 hy
    refine s_gname ⟨wp x, s_yes (s_ifT rfl ?_)⟩
    have hy : ys[n]? = some ys[n] := List.getElem?_eq_getElem (by omega)
    refine re n x _ _ _ hx hy s1 fun H2 s2 => ⟨_, s2 _ _ hDn, small1000 (by rw [List.length_take]; omega), by omega, ?_, ?_⟩
    · intro b o e
      rw [upd_ne (ne_of_none e hD)]
      exact s2 _ _ (s1 _ _ e)
    · rw [upd_same, take_succ_of hy]
  · have e : n = xs.length := by omega
    subst e
    rw [hlen, List.take_length] at hDn
    exact .inl ⟨js H s1, hd H s1 hDn⟩
theorem lc_L {K : PySem.W.Frag} {a : Addr} {xs : List V} {ys : List V} {i : Nat} {te : TE} {σ : L2.St} {H1 : Hp} {D : Addr} {Qd : Hp → Prop} (hs : SqL K H1 a xs) (hlen : (xs).length = ys.length) (hl : ys.length ≤ 900) (hD : H1 D = none)
    (wp : ∀ x : V, wipe ((wipe σ [i]).set i (some x)) [i] = wipe σ [i])
    (re : ∀ (n : Nat) (x y : V) (H : Hp) (Q : VK), (xs)[n]? = some x → ys[n]? = some y → Same H1 H → (∀ H', Same H H' → Q y H') → te ((wipe σ [i]).set i (some x)) H Q)
    (hd : ∀ H, Same H1 H → H D = some (.lst ys) → Qd H) :
    ∃ W : Nat → Nat → Hp → Prop, (∃ m, W 0 m (upd H1 D (.lst []))) ∧ ∀ n m H, W n m H →
      ((Itl K a).stop n H ∧ Qd H) ∨ ((Itl K a).go n H ∧ ∃ Nx : Hp → Prop, (∀ H', Nx H' → ∃ m', m' < m ∧ W (n + 1) m' H') ∧ ∀ x H', (Itl K a).yld n H x H' → gName i x (wipe σ [i]) H' fun σ2 H2 => wipe σ2 [i] = wipe σ [i] ∧ tYes σ2 H2 fun b H3 =>
        if b = true then te σ2 H3 fun y H4 => ∃ acc, H4 D = some (.lst acc) ∧ acc.length < sizeLine ∧ Nx (upd H4 D (.lst (acc ++ [y]))) else Nx H3) :=
  lc_any (xs := xs) hlen hl hD (fun n H s1 hn => ⟨xs, xs[n], s1.seq hs, List.getElem?_eq_getElem hn⟩) (fun n H x H' s1 hy => ⟨hy.1, hy.2 _ (s1.seq hs)⟩) (fun H s1 => ⟨xs, s1.seq hs, Nat.le_refl _⟩) wp re hd
theorem lc_T {K : PySem.W.Frag} {a : Addr} {xs : List V} {ys : List V} {i : Nat} {te : TE} {σ : L2.St} {H1 : Hp} {D : Addr} {Qd : Hp → Prop} (hs : SqT K H1 a xs) (hlen : (xs).length = ys.length) (hl : ys.length ≤ 900) (hD : H1 D = none)
    (wp : ∀ x : V, wipe ((wipe σ [i]).set i (some x)) [i] = wipe σ [i])
    (re : ∀ (n : Nat) (x y : V) (H : Hp) (Q : VK), (xs)[n]? = some x → ys[n]? = some y → Same H1 H → (∀ H', Same H H' → Q y H') → te ((wipe σ [i]).set i (some x)) H Q)
    (hd : ∀ H, Same H1 H → H D = some (.lst ys) → Qd H) :
    ∃ W : Nat → Nat → Hp → Prop, (∃ m, W 0 m (upd H1 D (.lst []))) ∧ ∀ n m H, W n m H →
      ((Itt K a).stop n H ∧ Qd H) ∨ ((Itt K a).go n H ∧ ∃ Nx : Hp → Prop, (∀ H', Nx H' → ∃ m', m' < m ∧ W (n + 1) m' H') ∧ ∀ x H', (Itt K a).yld n H x H' → gName i x (wipe σ [i]) H' fun σ2 H2 => wipe σ2 [i] = wipe σ [i] ∧ tYes σ2 H2 fun b H3 =>
        if b = true then te σ2 H3 fun y H4 => ∃ acc, H4 D = some (.lst acc) ∧ acc.length < sizeLine ∧ Nx (upd H4 D (.lst (acc ++ [y]))) else Nx H3) :=
  lc_any (xs := xs) hlen hl hD (fun n H s1 hn => ⟨xs, xs[n], sameT s1 hs, List.getElem?_eq_getElem hn⟩) (fun n H x H' s1 hy => ⟨hy.1, hy.2 _ (sameT s1 hs)⟩) (fun H s1 => ⟨xs, sameT s1 hs, Nat.le_refl _⟩) wp re hd
theorem lc_S {z : Str} {ys : List V} {i : Nat} {te : TE} {σ : L2.St} {H1 : Hp} {D : Addr} {Qd : Hp → Prop}  (hlen : (z.cps.toList.map fun c => V.str ⟨#[c]⟩).length = ys.length) (hl : ys.length ≤ 900) (hD : H1 D = none)
    (wp : ∀ x : V, wipe ((wipe σ [i]).set i (some x)) [i] = wipe σ [i])
    (re : ∀ (n : Nat) (x y : V) (H : Hp) (Q : VK), (z.cps.toList.map fun c => V.str ⟨#[c]⟩)[n]? = some x → ys[n]? = some y → Same H1 H → (∀ H', Same H H' → Q y H') → te ((wipe σ [i]).set i (some x)) H Q)
    (hd : ∀ H, Same H1 H → H D = some (.lst ys) → Qd H) :
    ∃ W : Nat → Nat → Hp → Prop, (∃ m, W 0 m (upd H1 D (.lst []))) ∧ ∀ n m H, W n m H →
      ((Its z).stop n H ∧ Qd H) ∨ ((Its z).go n H ∧ ∃ Nx : Hp → Prop, (∀ H', Nx H' → ∃ m', m' < m ∧ W (n + 1) m' H') ∧ ∀ x H', (Its z).yld n H x H' → gName i x (wipe σ [i]) H' fun σ2 H2 => wipe σ2 [i] = wipe σ [i] ∧ tYes σ2 H2 fun b H3 =>
        if b = true then te σ2 H3 fun y H4 => ∃ acc, H4 D = some (.lst acc) ∧ acc.length < sizeLine ∧ Nx (upd H4 D (.lst (acc ++ [y]))) else Nx H3) :=
  lc_any (xs := z.cps.toList.map fun c => V.str ⟨#[c]⟩) hlen hl hD (fun n H s1 hn => by show n < z.cps.size; simpa using hn) (fun n H x H' s1 hy => by
    obtain ⟨e, c, hc, rfl⟩ := hy
    refine ⟨e, ?_⟩
    rw [List.getElem?_map, Array.getElem?_toList, hc]
    rfl) (fun H s1 => by show z.cps.size ≤ _; simp) wp re hd
theorem s_inSg {K : PySem.W.Frag} {c : Nat} {z : Str} {H : Hp} {Q : VK} (h : Q (.bl (decide (c ∈ z.cps.toList))) H) : rIn3 K (.str ⟨#[c]⟩) (.str z) H Q := .inr ⟨c, z, rfl, rfl, h⟩
theorem s_notInSg {K : PySem.W.Frag} {c : Nat} {z : Str} {H : Hp} {Q : VK} (h : Q (.bl (!decide (c ∈ z.cps.toList))) H) : rNotIn3 K (.str ⟨#[c]⟩) (.str z) H Q := .inr ⟨c, z, rfl, rfl, h⟩
theorem s_istr {te : TE} {σ : L2.St} {H : Hp} {R : It → Hp → Prop} (h : te σ H fun v H1 => ∃ x, v = .str x ∧ R (Its x) H1) : iStr te σ H R := h
theorem s_exstr {z : Str} {F : Str → Prop} (h : F z) : ∃ x, V.str z = V.str x ∧ F x := ⟨z, rfl, h⟩
theorem s_all {K : PySem.W.Frag} {a : Addr} {bs : List Bool} {H : Hp} {Q : VK} (h0 : SqL K H a (bs.map V.bl)) (h : Q (.bl (bs.all id)) H) : rAll K [.ref a] H Q := ⟨a, bs, rfl, h0, h⟩
theorem s_ixS {K : PySem.W.Frag} {z : Str} {i : Int} {c : Nat} {H : Hp} {Q : VK} (hz : z.length ≤ sizeLine) (h1 : atI z.cps.toList i = some c) (h : Q (.str ⟨#[c]⟩) H) : rIx K (.str z) (.int i) H Q := .inr (.inr ⟨z, i, c, rfl, rfl, hz, h1, h⟩)
theorem s_slb {te tl : TE} {σ : L2.St} {H : Hp} {Q : VK} (h : te σ H fun x H1 => tl σ H1 fun y H2 => ∃ z b, x = .str z ∧ y = .bl b ∧ z.length ≤ sizeLine ∧ Q (.str (cutS z (some (if b = true then 1 else 0)) none)) H2) : tSlB te tl σ H Q := h
theorem atI_nat {α : Type} {xs : List α} {i : Nat} {v : α} (h : xs[i]? = some v) : atI xs (i : Int) = some v := by
  have hl : i < xs.length := (List.getElem?_eq_some_iff.mp h).1
  unfold atI
  rw [ixN_ok (by omega) (by omega)]
  exact h
theorem atI_0 {α : Type} {x : α} {xs : List α} : atI (x :: xs) 0 = some x := atI_nat (i := 0) rfl
theorem s_m1 {r : V → List V → Hp → VK → Prop} {to te : TE} {σ : L2.St} {H : Hp} {Q : VK} (h : to σ H fun x H1 => (∃ a, x = .str a) ∧ te σ H1 fun y H2 => r x [y] H2 Q) : tM1 r to te σ H Q := h
theorem s_kget2 {K : PySem.W.Frag} {w : World} {td ty tx : TE} {σ : L2.St} {H : Hp} {Q : VK} (h : td σ H fun x H1 => ∃ d es n, x = .ref d ∧ KDict K w d es n ∧ ty σ H1 fun y H2 => tx σ H2 fun z H3 => ∃ k r, y = .str k ∧ PySem.W.nsIn K d k = some r ∧
  (r = none → Q z H3) ∧ ∀ u, r = some u → ∃ v, RelV v u ∧ Q v H3) : tKGet2 K w td ty tx σ H Q := h
theorem s_neg {i : Int} {H : Hp} {Q : VK} (h : Q (.int (-i)) H) : rU (fun i => .int (-i)) (.int i) H Q := ⟨i, rfl, h⟩
/-- a comprehension with a test, over a row of values -/
theorem lc_filt {J : It} {xs : List V} {g : V → Option V} {i : Nat} {tt : TT} {te : TE} {σ : L2.St} {H1 : Hp} {D : Addr} {Qd : Hp → Prop} (hl : xs.length ≤ 900) (hD : H1 D = none)
    (jg : ∀ n H, Same H1 H → n < xs.length → J.go n H) (jy : ∀ n H x H', Same H1 H → J.yld n H x H' → H' = H ∧ xs[n]? = some x) (js : ∀ H, Same H1 H → J.stop xs.length H)
    (wp : ∀ x : V, wipe ((wipe σ [i]).set i (some x)) [i] = wipe σ [i])
    (re : ∀ (n : Nat) (x : V) (H : Hp) (Qy : VK) (Qn : Hp → Prop), xs[n]? = some x → Same H1 H → (∀ y, g x = some y → ∀ H', Same H H' → Qy y H') → (g x = none → ∀ H', Same H H' → Qn H') →
      tt ((wipe σ [i]).set i (some x)) H fun b H3 => if b = true then te ((wipe σ [i]).set i (some x)) H3 Qy else Qn H3)
    (hd : ∀ H, Same H1 H → H D = some (.lst (xs.filterMap g)) → Qd H) :
    ∃ W : Nat → Nat → Hp → Prop, (∃ m, W 0 m (upd H1 D (.lst []))) ∧ ∀ n m H, W n m H →
      (J.stop n H ∧ Qd H) ∨ (J.go n H ∧ ∃ Nx : Hp → Prop, (∀ H', Nx H' → ∃ m', m' < m ∧ W (n + 1) m' H') ∧ ∀ x H', J.yld n H x H' → gName i x (wipe σ [i]) H' fun σ2 H2 => wipe σ2 [i] = wipe σ [i] ∧ tt σ2 H2 fun b H3 =>
        if b = true then te σ2 H3 fun y H4 => ∃ acc, H4 D = some (.lst acc) ∧ acc.length < sizeLine ∧ Nx (upd H4 D (.lst (acc ++ [y]))) else Nx H3) := by
  have hle : ∀ n, ((xs.take n).filterMap g).length ≤ n := fun n => Nat.le_trans (List.length_filterMap_le _ _) (by rw [List.length_take]; omega)
  have hstep : ∀ n x, xs[n]? = some x → (xs.take (n + 1)).filterMap g = (xs.take n).filterMap g ++ (g x).toList := fun n x hx => by
    rw [take_succ_of hx, List.filterMap_append]
    rw [show [x].filterMap g = (g x).toList from by cases e : g x <;> simp [e]]
  refine ⟨fun n m H => m = xs.length - n ∧ n ≤ xs.length ∧ Same H1 H ∧ H D = some (.lst ((xs.take n).filterMap g)), ⟨_, rfl, Nat.zero_le _, same_upd (Same.refl _) hD, upd_same⟩, ?_⟩
  rintro n m H ⟨rfl, hn, s1, hDn⟩
  by_cases hlt : n < xs.length
  · refine .inr ⟨jg n H s1 hlt, fun H' => n + 1 ≤ xs.length ∧ Same H1 H' ∧ H' D = some (.lst ((xs.take (n + 1)).filterMap g)), fun H' z => ⟨_, by omega, rfl, z⟩, ?_⟩
    intro x H' hy
    obtain ⟨rfl, hx⟩ := jy n H x H' s1 hy
    refine s_gname ⟨wp x, ?_⟩
    refine re n x _ _ _ hx s1 (fun y ey H2 s2 => ?_) (fun ey H2 s2 => ?_)
    · refine ⟨_, s2 _ _ hDn, small1000 (Nat.le_trans (hle n) (by omega)), by omega, ?_, ?_⟩
      · intro b o e
        rw [upd_ne (ne_of_none e hD)]
        exact s2 _ _ (s1 _ _ e)
      · rw [upd_same, hstep n x hx, ey]
        rfl
    · refine ⟨by omega, s1.trans s2, ?_⟩
      rw [s2 _ _ hDn, hstep n x hx, ey]
      simp
  · have e : n = xs.length := by omega
    subst e
    rw [List.take_length] at hDn
    exact .inl ⟨js H s1, hd H s1 hDn⟩
theorem lc_filtL {K : PySem.W.Frag} {a : Addr} {xs : List V} {g : V → Option V} {i : Nat} {tt : TT} {te : TE} {σ : L2.St} {H1 : Hp} {D : Addr} {Qd : Hp → Prop} (hs : SqL K H1 a xs) (hl : xs.length ≤ 900) (hD : H1 D = none)
    (wp : ∀ x : V, wipe ((wipe σ [i]).set i (some x)) [i] = wipe σ [i])
    (re : ∀ (n : Nat) (x : V) (H : Hp) (Qy : VK) (Qn : Hp → Prop), xs[n]? = some x → Same H1 H → (∀ y, g x = some y → ∀ H', Same H H' → Qy y H') → (g x = none → ∀ H', Same H H' → Qn H') →
      tt ((wipe σ [i]).set i (some x)) H fun b H3 => if b = true then te ((wipe σ [i]).set i (some x)) H3 Qy else Qn H3)
    (hd : ∀ H, Same H1 H → H D = some (.lst (xs.filterMap g)) → Qd H) :
    ∃ W : Nat → Nat → Hp → Prop, (∃ m, W 0 m (upd H1 D (.lst []))) ∧ ∀ n m H, W n m H →
      ((Itl K a).stop n H ∧ Qd H) ∨ ((Itl K a).go n H ∧ ∃ Nx : Hp → Prop, (∀ H', Nx H' → ∃ m', m' < m ∧ W (n + 1) m' H') ∧ ∀ x H', (Itl K a).yld n H x H' → gName i x (wipe σ [i]) H' fun σ2 H2 => wipe σ2 [i] = wipe σ [i] ∧ tt σ2 H2 fun b H3 =>
        if b = true then te σ2 H3 fun y H4 => ∃ acc, H4 D = some (.lst acc) ∧ acc.length < sizeLine ∧ Nx (upd H4 D (.lst (acc ++ [y]))) else Nx H3) :=
  lc_filt hl hD (fun n H s1 hn => ⟨xs, xs[n], s1.seq hs, List.getElem?_eq_getElem hn⟩) (fun n H x H' s1 hy => ⟨hy.1, hy.2 _ (s1.seq hs)⟩) (fun H s1 => ⟨xs, s1.seq hs, Nat.le_refl _⟩) wp re hd
theorem s_strI {i : Int} {H : Hp} {Q : VK} (hz : i.natAbs.log2 < 1920) (h : Q (.str (toString i)) H) : rStr3 [.int i] H Q := .inl ⟨i, rfl, hz, h⟩
theorem s_strS {a : Str} {H : Hp} {Q : VK} (h : Q (.str a) H) : rStr3 [.str a] H Q := .inr ⟨a, rfl, h⟩
theorem s_ixB {K : PySem.W.Frag} {p : Addr} {xs : List V} {b : Bool} {v : V} {H : Hp} {Q : VK} (h0 : SqT K H p xs) (h1 : xs[if b = true then 1 else 0]? = some v) (h : Q v H) : rIxB K (.ref p) (.bl b) H Q := ⟨p, xs, b, v, rfl, rfl, h0, h1, h⟩
end Lt

set_option Elab.async false
set_option linter.all false
set_option maxRecDepth 100000
set_option maxHeartbeats 4000000
/-! Lt5: a tuple, no times or once. -/
namespace Lt
open PySem PySem.Spec PyProof.Rows L2
open AutoSeq1 (wpAny_loadPart')
theorem tuple_once (l : Addr) (items : Array Value) (n : Nat) (dd : Option Addr) (sl : Array (Option Value)) (u : Tok) :
    Meets (Builtin.«tuple.__mul__» ⟨[.ref l, .int 1 u], []⟩) (fun _ R s => s.heap.get? l = some { cls := .type "tuple", dict := dd, data := .seq items n, slots := sl } ∧ R (.ok (.ret (.ref l))) s) :=
  .of_wp fun prog w A R s h => by
    obtain ⟨hp, g, d, tk, os⟩ := s
    obtain ⟨hl, h⟩ := h
    have f1 := AutoSeq1.idx_int
    wp_walk using wpAny_loadPart' hl
    all_goals exact ⟨_, rfl, h⟩
theorem tuple_none (l : Addr) (items : Array Value) (n : Nat) (dd : Option Addr) (sl : Array (Option Value)) (u : Tok) (c1 : (items.isEmpty || (0 : Int) == 1) = false) :
    Meets (Builtin.«tuple.__mul__» ⟨[.ref l, .int 0 u], []⟩) (fun _ R s => s.heap.get? l = some { cls := .type "tuple", dict := dd, data := .seq items n, slots := sl } ∧
      R (.ok (.ret (Value.ref s.heap.objs.size))) { s with heap := s.heap.push { cls := Value.type "tuple", data := Data.seq #[] }, toks := s.toks }) :=
  .of_wp fun prog w A R s h => by
    obtain ⟨hp, g, d, tk, os⟩ := s
    obtain ⟨hl, h⟩ := h
    have f1 := AutoSeq1.idx_int
    wp_walk using wpAny_loadPart' hl
    repeat (first
      | (refine wpAny_ite_false (decide_eq_false (by rw [c1]; exact Bool.false_ne_true)) ?_; wp_walk using wpAny_loadPart' hl))
    all_goals exact ⟨_, rfl, h⟩
def rRepB (K : PySem.W.Frag) : R2 := fun x y H Q => ∃ l xs k, x = .ref l ∧ y = .int k ∧ SqT K H l xs ∧ xs ≠ [] ∧ ((k = 1 ∧ Q (.ref l) H) ∨ (k = 0 ∧ ∀ p, H p = none → Q (.ref p) (upd H p (.tup []))))
section
variable {X : Cx}
theorem op_repB : OpR X (binaryOp .Mult) (rRepB X.K) := by
  intro pins s σ H x y v u Q I rx ry h
  obtain ⟨l, xs, k, rfl, rfl, hT, hne, q⟩ := h
  cases rx
  obtain ⟨t, rfl⟩ := ry
  obtain ⟨its, r, ⟨⟨cls, dd, data, sl⟩, ho, hc, n, hd⟩, hs⟩ := I.tuple hT
  simp only at hc hd
  subst hc hd
  have hle : its.length = xs.length := r.length.symm
  have hi : its.toArray.isEmpty = false := by
    cases its with
    | nil => exact absurd (List.eq_nil_of_length_eq_zero hle.symm) hne
    | cons a b => rfl
  rcases q with ⟨rfl, q⟩ | ⟨rfl, q⟩
  · refine wpAny_binaryOp_repeat_ref (T := "tuple") (U := "int") (by decide) ⟨_, ho, rfl⟩ (fun s' => typeIs_int s' 1 t) noFill_tuple_mul F.fills_int_mul F.slot_int_rmul repeat_tuple F.slot_int_index.lookup
      (call_meets F.slot_int_rmul (typeIs_int s 1 t) F.entry_int_rmul (F.args_int_rmul_2 _ _) (int_rmul_tuple 1 t l its.toArray n dd sl)
        ⟨ho, rfl, ⟨_, ho, rfl⟩, call_meets F.slot_tuple_mul ⟨_, ho, rfl⟩ F.entry_tuple_mul (F.args_tuple_mul_2 _ _) (tuple_once l its.toArray n dd sl t) ⟨ho, ?_⟩⟩)
    exact ⟨.ref l, H, I, rfl, q⟩
  · refine wpAny_binaryOp_repeat_ref (T := "tuple") (U := "int") (by decide) ⟨_, ho, rfl⟩ (fun s' => typeIs_int s' 0 t) noFill_tuple_mul F.fills_int_mul F.slot_int_rmul repeat_tuple F.slot_int_index.lookup
      (call_meets F.slot_int_rmul (typeIs_int s 0 t) F.entry_int_rmul (F.args_int_rmul_2 _ _) (int_rmul_tuple 0 t l its.toArray n dd sl)
        ⟨ho, rfl, ⟨_, ho, rfl⟩, call_meets F.slot_tuple_mul ⟨_, ho, rfl⟩ F.entry_tuple_mul (F.args_tuple_mul_2 _ _) (tuple_none l its.toArray n dd sl t (by rw [hi]; rfl)) ⟨ho, ?_⟩⟩)
    refine ⟨.ref s.heap.objs.size, _, I.laid (t' := s.toks) (o := .tup []) (fun b ob q => Heap.get?_push_of_some _ q) (Nat.le_refl _) ?_, rfl, q _ (I.hok.fresh (Nat.le_refl _))⟩
    exact ⟨Nat.zero_le _, [], .nil, IsTup.new _ _⟩
theorem k_repB (K : PySem.W.Frag) (hK : X.K = K := by rfl) : OpR X (binaryOp .Mult) (rRepB K) := by subst hK; exact op_repB
end
end Lt

set_option Elab.async false
set_option linter.all false
set_option maxRecDepth 100000
set_option maxHeartbeats 4000000
namespace Toy
open PySem PySem.Spec PyProof.Rows L2 Lt
/-! ### texts as rows of signs -/
def sOf (l : List Nat) : Str := ⟨l.toArray⟩
theorem tl_sOf (l : List Nat) : TL.tl (sOf l) = l := rfl
theorem len_sOf (l : List Nat) : (sOf l).length = l.length := by show l.toArray.size = _; simp
theorem sOf_tl (x : Str) : sOf (TL.tl x) = x := TL.mk_tl x
theorem sOf_inj {a b : List Nat} (h : sOf a = sOf b) : a = b := by rw [← tl_sOf a, h, tl_sOf]
theorem sOf_app (a b : List Nat) : sOf a ++ sOf b = sOf (a ++ b) := TL.ext_tl (by rw [TL.tl_append]; rfl)
theorem sOf_lit (s : String) {l : List Nat} (h : s.toList.map Char.toNat = l) : Str.ofString s = sOf l := TL.ext_tl (by rw [TL.tl_ofString, h]; rfl)
def lowB (c : Nat) : Bool := decide (97 ≤ c) && decide (c ≤ 122)
def digB (c : Nat) : Bool := decide (48 ≤ c) && decide (c ≤ 57)
def keyB (l : List Nat) : Bool := decide (1 ≤ l.length) && decide (l.length ≤ 12) && l.all lowB
def figB (l : List Nat) : Bool := decide (1 ≤ l.length) && decide (l.length ≤ 60) && !(decide (l.head? = some 48) && decide (1 < l.length)) && l.all digB
/-- a whole number's figures -/
def figL (n : Int) : List Nat := if n < 0 then 45 :: TL.numL n.natAbs else TL.numL n.natAbs
def NumOk (n : Int) : Prop := n.natAbs < 10 ^ 60
theorem numL_dig (n : Nat) : ∀ c ∈ TL.numL n, 48 ≤ c ∧ c ≤ 57 := TL.numL_digits n
theorem numL_head : ∀ n : Nat, 0 < n → (TL.numL n).head? ≠ some 48 := by
  intro n
  induction n using Nat.strongRecOn with
  | _ n ih =>
    intro h e
    by_cases c : n < 10
    · rw [TL.numL_lt c] at e
      have : 48 + n = 48 := by simpa using e
      omega
    · have h10 : 10 ≤ n := by omega
      rw [TL.numL_step h10] at e
      have hne := TL.numL_ne (n / 10)
      have e2 : (TL.numL (n / 10)).head? = some 48 := by
        cases q : TL.numL (n / 10) with
        | nil => exact absurd q hne
        | cons a b =>
          rw [q] at e
          exact e
      exact ih (n / 10) (by omega) (by omega) e2
theorem figB_num {n : Nat} (h : n < 10 ^ 60) : figB (TL.numL n) = true := by
  have h1 := TL.numL_len (by decide) h
  have h2 : 1 ≤ (TL.numL n).length := by
    have := TL.numL_ne n
    cases e : TL.numL n with
    | nil => exact absurd e this
    | cons a b => simp
  have h3 : (decide ((TL.numL n).head? = some 48) && decide (1 < (TL.numL n).length)) = false := by
    by_cases c : n = 0
    · subst c
      rw [TL.numL_lt (by decide)]
      rfl
    · rw [decide_eq_false (numL_head n (by omega)), Bool.false_and]
  have h4 : (TL.numL n).all digB = true := List.all_eq_true.mpr fun c hc => by
    have := numL_dig n c hc
    unfold digB
    rw [decide_eq_true this.1, decide_eq_true this.2]
    rfl
  unfold figB
  rw [decide_eq_true h2, decide_eq_true h1, h3, h4]
  rfl
theorem figL_len {n : Int} (h : NumOk n) : 1 ≤ (figL n).length ∧ (figL n).length ≤ 61 := by
  have h1 := TL.numL_len (by decide) (show n.natAbs < 10 ^ 60 from h)
  have h2 : 1 ≤ (TL.numL n.natAbs).length := by
    have := TL.numL_ne n.natAbs
    cases e : TL.numL n.natAbs with
    | nil => exact absurd e this
    | cons a b => simp
  unfold figL
  split
  · rw [List.length_cons]; omega
  · omega
/-- what is left behind a sign of less -/
def figTail (l : List Nat) : List Nat := if l.head? = some 45 then l.drop 1 else l
theorem figL_head (n : Int) : (figL n).head? = some 45 ↔ n < 0 := by
  unfold figL
  split
  · rename_i h; simp [h]
  · rename_i h
    constructor
    · intro e
      exfalso
      have hm : (45 : Nat) ∈ TL.numL n.natAbs := List.mem_of_mem_head? e
      have := numL_dig _ _ hm
      omega
    · intro h'; omega
theorem figL_tail (n : Int) : figTail (figL n) = TL.numL n.natAbs := by
  unfold figTail
  by_cases c : n < 0
  · rw [if_pos ((figL_head n).mpr c)]
    unfold figL
    rw [if_pos c]
    rfl
  · rw [if_neg fun h => c ((figL_head n).mp h)]
    unfold figL
    rw [if_neg c]
theorem figL_not (n : Int) : figL n ≠ [45, 48] := by
  unfold figL
  split
  · intro e
    have e2 : TL.numL n.natAbs = [48] := (List.cons.inj e).2
    have := TL.numL_val n.natAbs
    rw [e2] at this
    have h0 : n.natAbs = 0 := this.symm
    omega
  · intro e
    have : (45 : Nat) ∈ TL.numL n.natAbs := by rw [e]; simp
    have := numL_dig _ _ this
    omega
theorem figL_read {n : Int} (h : NumOk n) : intText? (sOf (figL n)) = some n := by
  have hl := figL_len h
  by_cases c : n < 0
  · have e : (sOf (figL n)).cps.toList = 45 :: TL.numL n.natAbs := by
      show figL n = _
      unfold figL
      rw [if_pos c]
    rw [PySem.intText_neg e (TL.numL_digits _) (TL.numL_ne _) (by rw [len_sOf]; omega), TL.numL_val]
    congr 1
    omega
  · have e : (sOf (figL n)).cps.toList = TL.numL n.natAbs := by
      show figL n = _
      unfold figL
      rw [if_neg c]
    rw [PySem.intText_digits (x := sOf (figL n)) (by rw [e]; exact TL.numL_digits _) (by rw [e]; exact TL.numL_ne _) (by rw [len_sOf]; omega), e, TL.numL_val]
    congr 1
    omega
theorem figL_show (n : Int) : Str.ofString (toString n) = sOf (figL n) := by
  by_cases c : n < 0
  · obtain ⟨m, rfl⟩ : ∃ m, n = Int.negSucc m := by
      cases n with
      | ofNat m => exact absurd c (by simp)
      | negSucc m => exact ⟨m, rfl⟩
    have e : toString (Int.negSucc m) = "-" ++ toString (((m + 1 : Nat) : Nat) : Int) := rfl
    rw [e]
    refine TL.ext_tl ?_
    rw [TL.tl_ofString, String.toList_append, List.map_append, ← TL.tl_ofString (toString _), TL.tl_num]
    unfold figL
    rw [if_pos c]
    rfl
  · obtain ⟨m, rfl⟩ : ∃ m : Nat, n = (m : Int) := ⟨n.toNat, by omega⟩
    refine TL.ext_tl ?_
    rw [TL.tl_num]
    unfold figL
    rw [if_neg c]
    rfl
theorem starts_minus (l : List Nat) : Txt.startswith (sOf l) (Str.ofString "-") = decide (l.head? = some 45) := by
  have e : Str.ofString "-" = sOf [45] := sOf_lit "-" rfl
  rw [e]
  unfold Txt.startswith
  rw [StrLaws.subAt_eq]
  cases l with
  | nil => rfl
  | cons a r =>
    have h1 : decide (0 + (sOf [45]).length ≤ (sOf (a :: r)).length) = true := decide_eq_true (by rw [len_sOf, len_sOf]; simp)
    rw [h1, Bool.true_and]
    show (((a :: r).drop 0).take 1 == [45]) = _
    by_cases c : a = 45
    · subst c; simp
    · simp [c]
theorem cut_minus (l : List Nat) : cutS (sOf l) (some (if decide (l.head? = some 45) = true then 1 else 0)) none = sOf (figTail l) := by
  unfold cutS figTail
  by_cases c : l.head? = some 45
  · rw [decide_eq_true c, if_pos rfl, if_pos c]
    cases l with
    | nil => cases c
    | cons a r =>
      show sOf (((a :: r).drop (HT.sIx (sOf (a :: r)).length 0 (some 1))).take ((sOf (a :: r)).length - HT.sIx (sOf (a :: r)).length 0 (some 1))) = _
      rw [len_sOf, show HT.sIx (a :: r).length 0 (some 1) = 1 from ?_]
      · show sOf (r.take (r.length + 1 - 1)) = sOf r
        rw [Nat.add_sub_cancel, List.take_length]
      · show min (1 : Int).toNat (a :: r).length = 1
        rw [List.length_cons]
        show min 1 (r.length + 1) = 1
        omega
  · rw [decide_eq_false c, if_neg Bool.false_ne_true, if_neg c]
    show sOf ((l.drop (HT.sIx (sOf l).length 0 (some 0))).take ((sOf l).length - HT.sIx (sOf l).length 0 (some 0))) = _
    rw [len_sOf, show HT.sIx l.length 0 (some 0) = 0 from ?_]
    · rw [List.drop_zero, Nat.sub_zero, List.take_length]
    · show min (0 : Int).toNat l.length = 0
      show min 0 l.length = 0
      omega
/-! ### deeds, their words and their lines -/
def wd (s : String) : List Nat := s.toList.map Char.toNat
theorem wd_of (s : String) : Str.ofString s = sOf (wd s) := sOf_lit s rfl
inductive Deed where
  | cut (h : Int) (k : List Nat)
  | put (h : Int) (k : List Nat) (v : Int)
  | read (h : Int) (k : List Nat)
  | readAt (h : Int) (k : List Nat) (t : Int)
  | take (h : Int) (as : List Int) (forced : Bool)
  | apply1 (h : Int)
  | apply2 (h n : Int)
  | nums (w : List Nat) (ns : List Int)
def numWords : List (List Nat × Nat) := [(wd "follow", 2), (wd "ask", 1), (wd "give", 1), (wd "lose", 1), (wd "done", 1), (wd "rejoin", 2), (wd "renew", 2), (wd "trim", 1), (wd "free", 2), (wd "forget", 2), (wd "log", 1), (wd "table", 1), (wd "lines", 0)]
def Deed.words : Deed → List (List Nat)
  | .cut h k => [wd "write", figL h, wd "cut", k]
  | .put h k v => [wd "write", figL h, wd "set", k, figL v]
  | .read h k => [wd "read", figL h, k]
  | .readAt h k t => [wd "read", figL h, k, wd "at", figL t]
  | .take h as f => (if f = true then wd "force" else wd "takeover") :: figL h :: as.map figL
  | .apply1 h => [wd "apply", figL h]
  | .apply2 h n => [wd "apply", figL h, figL n]
  | .nums w ns => w :: ns.map figL
abbrev vS (l : List Nat) : V := .str (sOf l)
abbrev It2 := V ⊕ List V
def Deed.items : Deed → List It2
  | .cut h k => [.inl (vS (wd "write")), .inl (.int h), .inr [vS (wd "cut"), vS k]]
  | .put h k v => [.inl (vS (wd "write")), .inl (.int h), .inr [vS (wd "set"), vS k, .int v]]
  | .read h k => [.inl (vS (wd "read")), .inl (.int h), .inl (vS k), .inl .non]
  | .readAt h k t => [.inl (vS (wd "read")), .inl (.int h), .inl (vS k), .inl (.int t)]
  | .take h as f => [.inl (vS (wd "takeover")), .inl (.int h), .inr (as.map V.int), .inl (.bl f)]
  | .apply1 h => [.inl (vS (wd "apply")), .inl (.int h), .inl .non]
  | .apply2 h n => [.inl (vS (wd "apply")), .inl (.int h), .inl (.int n)]
  | .nums w ns => .inl (vS w) :: ns.map fun n => .inl (.int n)
def Deed.Ok : Deed → Prop
  | .cut h k => NumOk h ∧ keyB k = true
  | .put h k v => NumOk h ∧ keyB k = true ∧ NumOk v
  | .read h k => NumOk h ∧ keyB k = true
  | .readAt h k t => NumOk h ∧ keyB k = true ∧ NumOk t
  | .take h as _ => NumOk h ∧ (∀ a ∈ as, NumOk a) ∧ as.length ≤ 6
  | .apply1 h => NumOk h
  | .apply2 h n => NumOk h ∧ NumOk n
  | .nums w ns => (w, ns.length) ∈ numWords ∧ ∀ n ∈ ns, NumOk n
def Deed.line (d : Deed) : List Nat := TL.joinL [32] d.words
def ItAt (H : Hp) (x : V) : It2 → Prop
  | .inl v => x = v
  | .inr vs => ∃ q, x = .ref q ∧ H q = some (.tup vs)
def DeedAt (H : Hp) (t : Addr) (its : List It2) : Prop := ∃ xs, H t = some (.tup xs) ∧ Paired (ItAt H) xs its
theorem ItAt.same {H H' : Hp} {x : V} {i : It2} (s : Same H H') (h : ItAt H x i) : ItAt H' x i := by
  cases i with
  | inl v => exact h
  | inr vs =>
    obtain ⟨q, e, h⟩ := h
    exact ⟨q, e, s _ _ h⟩
theorem DeedAt.same {H H' : Hp} {t : Addr} {its : List It2} (s : Same H H') (h : DeedAt H t its) : DeedAt H' t its := by
  obtain ⟨xs, h1, h2⟩ := h
  exact ⟨xs, s _ _ h1, Paired.mapP h2 fun _ _ q => ItAt.same s q⟩
theorem no32_fig (n : Int) : 32 ∉ figL n := by
  intro h
  unfold figL at h
  split at h
  · rcases List.mem_cons.mp h with h | h
    · cases h
    · have := numL_dig _ _ h; omega
  · have := numL_dig _ _ h; omega
theorem no32_key {k : List Nat} (h : keyB k = true) : 32 ∉ k := by
  intro m
  unfold keyB at h
  rw [Bool.and_eq_true] at h
  have := List.all_eq_true.mp h.2 _ m
  exact absurd this (by decide)
theorem numWords_no : ∀ p ∈ numWords, 32 ∉ p.1 ∧ p.1.length ≤ 6 := by decide +kernel
theorem key_len {k : List Nat} (h : keyB k = true) : 1 ≤ k.length ∧ k.length ≤ 12 := by
  unfold keyB at h
  simp at h
  omega
theorem words_ok {d : Deed} (h : d.Ok) : d.words ≠ [] ∧ (∀ x ∈ d.words, 32 ∉ x) ∧ d.words.length ≤ 8 ∧ ∀ x ∈ d.words, x.length ≤ 61 := by
  have F : ∀ {n : Int}, NumOk n → 32 ∉ figL n ∧ (figL n).length ≤ 61 := fun hn => ⟨no32_fig _, (figL_len hn).2⟩
  have G : ∀ {k : List Nat}, keyB k = true → 32 ∉ k ∧ k.length ≤ 61 := fun hk => ⟨no32_key hk, by have := key_len hk; omega⟩
  have W : ∀ s ∈ ["write", "cut", "set", "read", "at", "force", "takeover", "apply"], 32 ∉ wd s ∧ (wd s).length ≤ 61 := by decide +kernel
  have all : ∀ {l : List (List Nat)}, l ≠ [] → l.length ≤ 8 → (∀ x ∈ l, 32 ∉ x ∧ x.length ≤ 61) → l ≠ [] ∧ (∀ x ∈ l, 32 ∉ x) ∧ l.length ≤ 8 ∧ ∀ x ∈ l, x.length ≤ 61 := fun a b c => ⟨a, fun x hx => (c x hx).1, b, fun x hx => (c x hx).2⟩
  cases d with
  | cut h' k => exact all (by simp [Deed.words]) (by simp [Deed.words]) (by simp only [Deed.words, List.forall_mem_cons]; exact ⟨W _ (by simp), F h.1, W _ (by simp), G h.2, by simp⟩)
  | put h' k v => exact all (by simp [Deed.words]) (by simp [Deed.words]) (by simp only [Deed.words, List.forall_mem_cons]; exact ⟨W _ (by simp), F h.1, W _ (by simp), G h.2.1, F h.2.2, by simp⟩)
  | read h' k => exact all (by simp [Deed.words]) (by simp [Deed.words]) (by simp only [Deed.words, List.forall_mem_cons]; exact ⟨W _ (by simp), F h.1, G h.2, by simp⟩)
  | readAt h' k t => exact all (by simp [Deed.words]) (by simp [Deed.words]) (by simp only [Deed.words, List.forall_mem_cons]; exact ⟨W _ (by simp), F h.1, G h.2.1, W _ (by simp), F h.2.2, by simp⟩)
  | take h' as f =>
    refine all (by simp [Deed.words]) (by have := h.2.2; simp [Deed.words]; omega) ?_
    simp only [Deed.words, List.forall_mem_cons]
    refine ⟨?_, F h.1, fun x hx => ?_⟩
    · cases f
      · exact W "takeover" (by simp)
      · exact W "force" (by simp)
    · obtain ⟨a, ha, rfl⟩ := List.mem_map.mp hx
      exact F (h.2.1 a ha)
  | apply1 h' => exact all (by simp [Deed.words]) (by simp [Deed.words]) (by simp only [Deed.words, List.forall_mem_cons]; exact ⟨W _ (by simp), F h, by simp⟩)
  | apply2 h' n => exact all (by simp [Deed.words]) (by simp [Deed.words]) (by simp only [Deed.words, List.forall_mem_cons]; exact ⟨W _ (by simp), F h.1, F h.2, by simp⟩)
  | nums w' ns =>
    have hw := numWords_no _ h.1
    have hc : ∀ p ∈ numWords, p.2 ≤ 2 := by decide +kernel
    have hn : ns.length ≤ 2 := hc _ h.1
    refine all (by simp [Deed.words]) (by simp [Deed.words]; omega) ?_
    simp only [Deed.words, List.forall_mem_cons]
    refine ⟨⟨hw.1, by have := hw.2; simp at this; omega⟩, fun x hx => ?_⟩
    obtain ⟨a, ha, rfl⟩ := List.mem_map.mp hx
    exact F (h.2 a ha)
theorem join_line (ws : List (List Nat)) : Txt.join (Str.ofString " ") (ws.map sOf) = sOf (TL.joinL [32] ws) := by
  refine TL.ext_tl ?_
  rw [TL.join_eq, TL.tl_join, wd_of " ", tl_sOf, tl_sOf, List.map_map]
  congr 1
  rw [show (TL.tl ∘ sOf) = id from funext fun l => rfl, List.map_id]
theorem split_line {ws : List (List Nat)} (h0 : ws ≠ []) (h : ∀ x ∈ ws, 32 ∉ x) : Txt.split (sOf (TL.joinL [32] ws)) (Str.ofString " ") = ws.map sOf := by
  rw [← join_line]
  refine TL.split_join (s := 32) (S := []) (by rw [wd_of " "]; rfl) (by decide +kernel) (fun e => h0 (List.map_eq_nil_iff.mp e)) fun p hp => ?_
  obtain ⟨x, hx, rfl⟩ := List.mem_map.mp hp
  exact h x hx
theorem line_len : ∀ (ws : List (List Nat)), (∀ x ∈ ws, x.length ≤ 61) → (TL.joinL [32] ws).length ≤ 62 * ws.length
  | [], _ => by simp [TL.joinL]
  | [p], h => by
    have := h p (by simp)
    show p.length ≤ 62 * 1
    omega
  | p :: q :: r, h => by
    have h1 := h p (by simp)
    have h2 := line_len (q :: r) fun x hx => h x (List.mem_cons_of_mem _ hx)
    show (p ++ ([32] ++ TL.joinL [32] (q :: r))).length ≤ _
    rw [List.length_append, List.length_append, List.length_cons (a := p)]
    simp only [List.length_cons, List.length_nil] at h2 ⊢
    omega
end Toy

set_option Elab.async false
set_option linter.all false
set_option maxRecDepth 100000
set_option maxHeartbeats 4000000
namespace Toy
open PySem PySem.Spec PyProof.Rows L2 Lt
def topS (i : Nat) : Stmt := PySem.Challenge.pw_laterline_k50_lines_read_and_shown.main.body.getD i (.Pass ⟨0, 0, 0, 0⟩)
def inClass (s : Stmt) (i : Nat) : Stmt := (C8.clsBody s).getD i (.Pass ⟨0, 0, 0, 0⟩)
abbrev s_is_key : Stmt := topS 6
theorem sc_is_key : FnScope ["thing", "sign"] ["thing"] (C8.fnScope s_is_key) := ⟨rfl, rfl, rfl, by decide +kernel, rfl, by decide +kernel, by decide +kernel⟩
abbrev s_is_figures : Stmt := topS 12
theorem sc_is_figures : FnScope ["text", "sign"] ["text"] (C8.fnScope s_is_figures) := ⟨rfl, rfl, rfl, by decide +kernel, rfl, by decide +kernel, by decide +kernel⟩
abbrev s_number_of : Stmt := topS 13
theorem sc_number_of : FnScope ["text", "figures"] ["text"] (C8.fnScope s_number_of) := ⟨rfl, rfl, rfl, by decide +kernel, rfl, by decide +kernel, by decide +kernel⟩
abbrev s_key_of : Stmt := topS 14
theorem sc_key_of : FnScope ["text"] ["text"] (C8.fnScope s_key_of) := ⟨rfl, rfl, rfl, by decide +kernel, rfl, by decide +kernel, by decide +kernel⟩
abbrev s_read_write : Stmt := topS 15
theorem sc_read_write : FnScope ["parts"] ["parts"] (C8.fnScope s_read_write) := ⟨rfl, rfl, rfl, by decide +kernel, rfl, by decide +kernel, by decide +kernel⟩
abbrev s_read_reading : Stmt := topS 16
theorem sc_read_reading : FnScope ["parts"] ["parts"] (C8.fnScope s_read_reading) := ⟨rfl, rfl, rfl, by decide +kernel, rfl, by decide +kernel, by decide +kernel⟩
abbrev s_read_apply : Stmt := topS 17
theorem sc_read_apply : FnScope ["parts"] ["parts"] (C8.fnScope s_read_apply) := ⟨rfl, rfl, rfl, by decide +kernel, rfl, by decide +kernel, by decide +kernel⟩
abbrev s_read_takeover : Stmt := topS 18
theorem sc_read_takeover : FnScope ["parts", "forced", "house", "asked", "part"] ["parts", "forced"] (C8.fnScope s_read_takeover) := ⟨rfl, rfl, rfl, by decide +kernel, rfl, by decide +kernel, by decide +kernel⟩
abbrev s_read_line : Stmt := topS 19
theorem sc_read_line : FnScope ["text", "word", "parts", "count", "part"] ["text"] (C8.fnScope s_read_line) := ⟨rfl, rfl, rfl, by decide +kernel, rfl, by decide +kernel, by decide +kernel⟩
abbrev s_show_line : Stmt := topS 20
theorem sc_show_line : FnScope ["deed", "word", "parts", "words", "house", "row", "part", "asked", "forced", "other", "key", "at"] ["deed"] (C8.fnScope s_show_line) := ⟨rfl, rfl, rfl, by decide +kernel, rfl, by decide +kernel, by decide +kernel⟩
abbrev s__law_state : Stmt := topS 22
theorem sc__law_state : FnScope ["_law_script", "_law_seed", "_law_cells"] ["_law_script", "_law_seed"] (C8.fnScope s__law_state) := ⟨rfl, rfl, rfl, by decide +kernel, rfl, by decide +kernel, by decide +kernel⟩
abbrev s__law_next : Stmt := topS 23
theorem sc__law_next : FnScope ["_law_state_here", "_law_below", "_law_found", "_law_cells", "_law_cell"] ["_law_state_here", "_law_below"] (C8.fnScope s__law_next) := ⟨rfl, rfl, rfl, by decide +kernel, rfl, by decide +kernel, by decide +kernel⟩
abbrev s__law_key : Stmt := topS 25
theorem sc__law_key : FnScope ["_law_state_here", "_law_letters", "_law_found", "_law_k"] ["_law_state_here"] (C8.fnScope s__law_key) := ⟨rfl, rfl, rfl, by decide +kernel, rfl, by decide +kernel, by decide +kernel⟩
abbrev s__law_same : Stmt := topS 26
theorem sc__law_same : FnScope ["_law_found", "_law_due", "_law_one", "_law_other"] ["_law_found", "_law_due"] (C8.fnScope s__law_same) := ⟨rfl, rfl, rfl, by decide +kernel, rfl, by decide +kernel, by decide +kernel⟩
abbrev s__law_number : Stmt := topS 27
theorem sc__law_number : FnScope ["_law_state_here", "_law_way", "_law_far", "_law_k"] ["_law_state_here"] (C8.fnScope s__law_number) := ⟨rfl, rfl, rfl, by decide +kernel, rfl, by decide +kernel, by decide +kernel⟩
abbrev s__law_figures : Stmt := topS 28
theorem sc__law_figures : FnScope ["_law_number_here", "_law_figures_here", "_law_left"] ["_law_number_here"] (C8.fnScope s__law_figures) := ⟨rfl, rfl, rfl, by decide +kernel, rfl, by decide +kernel, by decide +kernel⟩
abbrev s__law_write : Stmt := topS 29
theorem sc__law_write : FnScope ["_law_state_here", "_law_house", "_law_key_here", "_law_head", "_law_value"] ["_law_state_here"] (C8.fnScope s__law_write) := ⟨rfl, rfl, rfl, by decide +kernel, rfl, by decide +kernel, by decide +kernel⟩
abbrev s__law_reading : Stmt := topS 30
theorem sc__law_reading : FnScope ["_law_state_here", "_law_house", "_law_key_here", "_law_head", "_law_when"] ["_law_state_here"] (C8.fnScope s__law_reading) := ⟨rfl, rfl, rfl, by decide +kernel, rfl, by decide +kernel, by decide +kernel⟩
abbrev s__law_takeover : Stmt := topS 31
theorem sc__law_takeover : FnScope ["_law_state_here", "_law_house", "_law_asked", "_law_k", "_law_forced", "_law_words", "_law_one"] ["_law_state_here"] (C8.fnScope s__law_takeover) := ⟨rfl, rfl, rfl, by decide +kernel, rfl, by decide +kernel, by decide +kernel⟩
abbrev s__law_numbers : Stmt := topS 32
theorem sc__law_numbers : FnScope ["_law_state_here", "_law_two", "_law_one", "_law_way", "_law_numbers_here", "_law_word", "_law_house"] ["_law_state_here"] (C8.fnScope s__law_numbers) := ⟨rfl, rfl, rfl, by decide +kernel, rfl, by decide +kernel, by decide +kernel⟩
abbrev s_law : Stmt := topS 33
theorem sc_law : FnScope ["_law_script", "_law_state_here", "_law_turn", "_law_deed", "_law_line"] ["_law_script"] (C8.fnScope s_law) := ⟨rfl, rfl, rfl, by decide +kernel, rfl, by decide +kernel, by decide +kernel⟩
def tab_MORE_COUNTS : List (Str × Int) := [("forget", 2), ("log", 1), ("table", 1), ("lines", 0)]
def tab_COUNTS : List (Str × Int) := [("follow", 2), ("ask", 1), ("give", 1), ("lose", 1), ("done", 1), ("rejoin", 2), ("renew", 2), ("trim", 1), ("free", 2)]
structure Adr where
  COUNTS : Addr
  MORE_COUNTS : Addr
structure Txt (w : World) (K : PySem.W.Frag) (mg : Str → Option Value) (A : Adr) : Prop where
  kd_COUNTS : ∃ u, mg "COUNTS" = some u ∧ RelV (.ref A.COUNTS) u
  kf_COUNTS : ∃ es n, KDict K w A.COUNTS es n
  kv_COUNTS : ∀ s, ∃ r, PySem.W.nsIn K A.COUNTS s = some r ∧ (match tab_COUNTS.lookup s with | none => r = none | some i => ∃ t, r = some (.int i t))
  kd_MORE_COUNTS : ∃ u, mg "MORE_COUNTS" = some u ∧ RelV (.ref A.MORE_COUNTS) u
  kf_MORE_COUNTS : ∃ es n, KDict K w A.MORE_COUNTS es n
  kv_MORE_COUNTS : ∀ s, ∃ r, PySem.W.nsIn K A.MORE_COUNTS s = some r ∧ (match tab_MORE_COUNTS.lookup s with | none => r = none | some i => ∃ t, r = some (.int i t))
  b_abs : mg "abs" = none
  b_all : mg "all" = none
  b_bool : mg "bool" = none
  b_int : mg "int" = none
  b_isinstance : mg "isinstance" = none
  b_len : mg "len" = none
  b_list : mg "list" = none
  b_range : mg "range" = none
  b_str : mg "str" = none
  b_tuple : mg "tuple" = none
  b_zip : mg "zip" = none
  g_KEY_SIGNS : ∃ u, mg "KEY_SIGNS" = some u ∧ RelV (.int 12) u
  g_LETTERS_OF_KEYS : ∃ u, mg "LETTERS_OF_KEYS" = some u ∧ RelV (.str "abcdefghijklmnopqrstuvwxyz") u
  g_FIGURES : ∃ u, mg "FIGURES" = some u ∧ RelV (.int 60) u
  g_FIGURE_SIGNS : ∃ u, mg "FIGURE_SIGNS" = some u ∧ RelV (.str "0123456789") u
  d_is_key : ∃ f fd, C8.Def K mg "is_key" s_is_key f fd ∧ Binds K fd ["thing"] []
  d_is_figures : ∃ f fd, C8.Def K mg "is_figures" s_is_figures f fd ∧ Binds K fd ["text"] []
  d_number_of : ∃ f fd, C8.Def K mg "number_of" s_number_of f fd ∧ Binds K fd ["text"] []
  d_key_of : ∃ f fd, C8.Def K mg "key_of" s_key_of f fd ∧ Binds K fd ["text"] []
  d_read_write : ∃ f fd, C8.Def K mg "read_write" s_read_write f fd ∧ Binds K fd ["parts"] []
  d_read_reading : ∃ f fd, C8.Def K mg "read_reading" s_read_reading f fd ∧ Binds K fd ["parts"] []
  d_read_apply : ∃ f fd, C8.Def K mg "read_apply" s_read_apply f fd ∧ Binds K fd ["parts"] []
  d_read_takeover : ∃ f fd, C8.Def K mg "read_takeover" s_read_takeover f fd ∧ Binds K fd ["parts", "forced"] []
  d_read_line : ∃ f fd, C8.Def K mg "read_line" s_read_line f fd ∧ Binds K fd ["text"] []
  d_show_line : ∃ f fd, C8.Def K mg "show_line" s_show_line f fd ∧ Binds K fd ["deed"] []
  d__law_state : ∃ f fd, C8.Def K mg "_law_state" s__law_state f fd ∧ Binds K fd ["_law_script", "_law_seed"] []
  d__law_next : ∃ f fd, C8.Def K mg "_law_next" s__law_next f fd ∧ Binds K fd ["_law_state_here", "_law_below"] []
  d__law_key : ∃ f fd, C8.Def K mg "_law_key" s__law_key f fd ∧ Binds K fd ["_law_state_here"] []
  d__law_same : ∃ f fd, C8.Def K mg "_law_same" s__law_same f fd ∧ Binds K fd ["_law_found", "_law_due"] []
  d__law_number : ∃ f fd, C8.Def K mg "_law_number" s__law_number f fd ∧ Binds K fd ["_law_state_here"] []
  d__law_figures : ∃ f fd, C8.Def K mg "_law_figures" s__law_figures f fd ∧ Binds K fd ["_law_number_here"] []
  d__law_write : ∃ f fd, C8.Def K mg "_law_write" s__law_write f fd ∧ Binds K fd ["_law_state_here"] []
  d__law_reading : ∃ f fd, C8.Def K mg "_law_reading" s__law_reading f fd ∧ Binds K fd ["_law_state_here"] []
  d__law_takeover : ∃ f fd, C8.Def K mg "_law_takeover" s__law_takeover f fd ∧ Binds K fd ["_law_state_here"] []
  d__law_numbers : ∃ f fd, C8.Def K mg "_law_numbers" s__law_numbers f fd ∧ Binds K fd ["_law_state_here"] []
local macro_rules
  | `(tactic| walk_at "get") => `(tactic| first
    | assumption
    | exact upd_same
    | ((with_reducible refine' get_new ?g1 ?g2); (case g1 => assumption); (case g2 => walk_at "get"))
    | ((with_reducible refine' get_ne ?g1 ?g2); (case g1 => assumption); (case g2 => walk_at "get"))
    | ((with_reducible refine' get_dif ?g1 ?g2 ?g3); (case g1 => walk_at "get"); (case g2 => walk_at "get"); (case g3 => (intro z; cases z)))
    | (refine' (by assumption : Same _ _) _ _ ?g1; (case g1 => walk_at "get")))
local macro_rules
  | `(tactic| walk_at "cls") => `(tactic| first | assumption)
local macro_rules
  | `(tactic| walk_at "sq") => `(tactic| first
    | assumption
    | exact SqL.of (by walk_at "get")
    | exact SqT.of (by walk_at "get")
    | exact FzT.sq (by assumption)
    | exact Same.seq (by assumption) (by assumption))
local macro_rules
  | `(tactic| walk_at "st") => `(tactic| first
    | with_reducible refine s_seq ?_
    | with_reducible refine s_cons ?_
    | with_reducible refine s_nil ?_
    | ((with_reducible refine' s_var ?g1 ?g2); (case g1 => rfl))
    | with_reducible refine s_c ?_
    | with_reducible refine s_op ?_
    | with_reducible refine s_addI ?_
    | with_reducible refine s_i0 ?_
    | with_reducible refine s_ret ?_
    | with_reducible refine s_retN ?_
    | with_reducible refine s_drop ?_
    | with_reducible refine s_next ?_
    | with_reducible refine s_ifs ?_
    | with_reducible refine s_asg ?_
    | with_reducible refine s_gname ?_
    | with_reducible refine s_gnil ?_
    | with_reducible refine s_gcons ?_
    | with_reducible refine s_gsub ?_
    | with_reducible refine s_un ?_
    | with_reducible refine s_cb ?_
    | with_reducible refine s_call ?_
    | with_reducible refine s_meth ?_
    | ((with_reducible refine' s_meth2 ?g1 ?g2 ?g3); (case g1 => walk_at "get"); (case g2 => rfl))
    | with_reducible refine s_test ?_
    | with_reducible refine s_tb ?_
    | with_reducible refine s_exbl ?_
    | with_reducible refine s_exint ?_
    | with_reducible refine s_and ?_
    | with_reducible refine s_or ?_
    | with_reducible refine s_not ?_
    | with_reducible refine s_andV ?_
    | with_reducible refine s_orV ?_
    | with_reducible refine s_notV ?_
    | with_reducible refine s_ifx ?_
    | with_reducible refine s_yes ?_
    | with_reducible refine s_tup ?_
    | with_reducible refine s_lst ?_
    | with_reducible refine s_fld ?_
    | ((with_reducible refine' s_fld2 ?g1 ?g2 ?g3 ?g4 ?g5); (case g1 => walk_at "get"); (case g2 => walk_at "cls"); (case g3 => walk_at "cls"); (case g4 => rfl))
    | with_reducible refine s_sfld ?_
    | with_reducible refine s_sl ?_
    | with_reducible refine s_nopart ?_
    | with_reducible refine s_part ?_
    | with_reducible refine s_for ?_
    | with_reducible refine s_ilist ?_
    | with_reducible refine s_itup ?_
    | with_reducible refine s_irng1 ?_
    | with_reducible refine s_bm ?_
    | with_reducible refine s_bm0 ?_
    | with_reducible refine s_dget ?_
    | with_reducible refine s_din ?_
    | with_reducible refine s_dnotin ?_
    | with_reducible refine s_dput ?_
    | with_reducible refine s_dget2 ?_
    | with_reducible refine s_dget1 ?_
    | with_reducible refine s_eqI ?_
    | with_reducible refine s_eqS ?_
    | with_reducible refine s_neI ?_
    | with_reducible refine s_neB ?_
    | with_reducible refine s_neS ?_
    | with_reducible refine s_ltI ?_
    | with_reducible refine s_isN ?_
    | with_reducible refine s_isNotN ?_
    | with_reducible refine s_chain ?_
    | with_reducible refine s_make ?_
    | with_reducible refine s_irng2 ?_
    | with_reducible refine s_intI ?_
    | with_reducible refine s_intB ?_
    | ((with_reducible refine' s_mod ?g1 ?g2); (case g1 => omega))
    | ((with_reducible refine' s_fdiv ?g1 ?g2); (case g1 => omega))
    | ((with_reducible refine' s_pow ?g1 ?g2); (case g1 => omega))
    | with_reducible refine s_dc ?_
    | with_reducible refine s_lc ?_
    | with_reducible refine s_iitems ?_
    | with_reducible refine s_ikeys ?_
    | ((with_reducible refine' s_sfld2 ?g1 ?g2 ?g3 ?g4 ?g5); (case g1 => walk_at "get"); (case g2 => walk_at "cls"); (case g3 => walk_at "cls"); (case g4 => exact len1000 rfl))
    | with_reducible refine s_ex2 ?_
    | with_reducible refine s_dnew ?_
    | with_reducible refine s_istr ?_
    | with_reducible refine s_exstr ?_
    | with_reducible refine s_inSg ?_
    | with_reducible refine s_notInSg ?_
    | with_reducible refine s_slb ?_
    | with_reducible refine s_m1 ?_
    | with_reducible refine s_strS ?_
    | with_reducible refine s_kget2 ?_
    | with_reducible refine s_neg ?_
    | ((with_reducible refine' s_ifT ?g1 ?g2); (case g1 => rfl))
    | ((with_reducible refine' s_ifF ?g1 ?g2); (case g1 => rfl))
    | with_reducible refine s_isi_non_int ?_
    | with_reducible refine s_isi_non_bool ?_
    | with_reducible refine s_isi_non_str ?_
    | with_reducible refine s_isi_non_tuple ?_
    | with_reducible refine s_isi_non_list ?_
    | with_reducible refine s_isi_bl_int ?_
    | with_reducible refine s_isi_bl_bool ?_
    | with_reducible refine s_isi_bl_str ?_
    | with_reducible refine s_isi_bl_tuple ?_
    | with_reducible refine s_isi_bl_list ?_
    | with_reducible refine s_isi_int_int ?_
    | with_reducible refine s_isi_int_bool ?_
    | with_reducible refine s_isi_int_str ?_
    | with_reducible refine s_isi_int_tuple ?_
    | with_reducible refine s_isi_int_list ?_
    | with_reducible refine s_isi_str_int ?_
    | with_reducible refine s_isi_str_bool ?_
    | with_reducible refine s_isi_str_str ?_
    | with_reducible refine s_isi_str_tuple ?_
    | with_reducible refine s_isi_str_list ?_
    | ((with_reducible refine' s_isi_tup_int ?g1 ?g2); (case g1 => walk_at "get"))
    | ((with_reducible refine' s_isi_tup_bool ?g1 ?g2); (case g1 => walk_at "get"))
    | ((with_reducible refine' s_isi_tup_str ?g1 ?g2); (case g1 => walk_at "get"))
    | ((with_reducible refine' s_isi_tup_tuple ?g1 ?g2); (case g1 => walk_at "get"))
    | ((with_reducible refine' s_isi_tup_list ?g1 ?g2); (case g1 => walk_at "get"))
    | ((with_reducible refine' s_isi_lst_int ?g1 ?g2); (case g1 => walk_at "get"))
    | ((with_reducible refine' s_isi_lst_bool ?g1 ?g2); (case g1 => walk_at "get"))
    | ((with_reducible refine' s_isi_lst_str ?g1 ?g2); (case g1 => walk_at "get"))
    | ((with_reducible refine' s_isi_lst_tuple ?g1 ?g2); (case g1 => walk_at "get"))
    | ((with_reducible refine' s_isi_lst_list ?g1 ?g2); (case g1 => walk_at "get"))
    | ((with_reducible refine' s_isi_dK_int ?g1 ?g2); (case g1 => walk_at "get"))
    | ((with_reducible refine' s_isi_dK_bool ?g1 ?g2); (case g1 => walk_at "get"))
    | ((with_reducible refine' s_isi_dK_str ?g1 ?g2); (case g1 => walk_at "get"))
    | ((with_reducible refine' s_isi_dK_tuple ?g1 ?g2); (case g1 => walk_at "get"))
    | ((with_reducible refine' s_isi_dK_list ?g1 ?g2); (case g1 => walk_at "get")))
local macro_rules
  | `(tactic| walk_at "go") => `(tactic| (repeat walk_at "st"))

section
variable {P : Program} {w : World} {K : PySem.W.Frag} {mg : Str → Option Value} {base : Heap} {A : Adr}
theorem mem_low (c : Nat) : decide (c ∈ (Str.ofString "abcdefghijklmnopqrstuvwxyz").cps.toList) = lowB c := by
  have e : (Str.ofString "abcdefghijklmnopqrstuvwxyz").cps.toList = (List.range 26).map (97 + ·) := by decide +kernel
  rw [e]
  unfold lowB
  rw [← Bool.decide_and]
  refine decide_eq_decide.mpr ?_
  rw [List.mem_map]
  constructor
  · rintro ⟨a, ha, rfl⟩
    have := List.mem_range.mp ha
    omega
  · intro h
    exact ⟨c - 97, List.mem_range.mpr (by omega), by omega⟩
theorem mem_dig (c : Nat) : decide (c ∈ (Str.ofString "0123456789").cps.toList) = digB c := by
  have e : (Str.ofString "0123456789").cps.toList = (List.range 10).map (48 + ·) := by decide +kernel
  rw [e]
  unfold digB
  rw [← Bool.decide_and]
  refine decide_eq_decide.mpr ?_
  rw [List.mem_map]
  constructor
  · rintro ⟨a, ha, rfl⟩
    have := List.mem_range.mp ha
    omega
  · intro h
    exact ⟨c - 48, List.mem_range.mpr (by omega), by omega⟩
theorem sign_at {l : List Nat} {n : Nat} {x : V} (h : ((sOf l).cps.toList.map fun c => V.str ⟨#[c]⟩)[n]? = some x) : ∃ c, l[n]? = some c ∧ x = V.str ⟨#[c]⟩ := by
  rw [List.getElem?_map] at h
  cases e : l[n]? with
  | none =>
    rw [show (sOf l).cps.toList = l from rfl, e] at h
    cases h
  | some c =>
    rw [show (sOf l).cps.toList = l from rfl, e] at h
    exact ⟨c, rfl, (Option.some.inj h).symm⟩
def spKey : Sp := fun vs H Q _ => ∃ l, vs = [.str (sOf l)] ∧ l.length ≤ 100000 ∧ ∀ H', Same H H' → Q (.bl (keyB l)) H'
theorem c_is_key (T : Txt w K mg A) : C8.Cal P w K mg base 1 "is_key" spKey [] := by
  obtain ⟨f, fd, D, B⟩ := T.d_is_key
  refine C8.cal0 D B .nil sc_is_key (fun vs H Q E h => ?_) (fun cdv A' outer s H vs Q E hr h => ?_)
  · obtain ⟨l, rfl, _⟩ := h
    rfl
  · obtain ⟨l, rfl, hl, k⟩ := h
    have hu := hr.units
    have hu1 := hu_of hr
    have nd := sc_is_key.nd
    refine ⟨_, (pss_cons (ps_if (PW.pt (pw_or (pt_not (pt_val (pe_callB (k_isi K) (by rfl) T.b_isinstance (by decide +kernel) (pa_cons (pv 0) (pa_cons (pe_bltn (v := .ty "str") (by rfl) T.b_str (by decide +kernel) rfl) pa_nil))))) (pw_or1 (pt_not (pt_chain (op_le) (op_le) pe_int (pe_callB (k_len K) (by rfl) T.b_len (by decide +kernel) (pa_cons (pv 0) pa_nil)) (C8.pe_gc (by rfl) T.g_KEY_SIGNS)))))) (pss_one (ps_ret pe_bl)) pss_nil)
      (pss_one (ps_ret (pe_callB (k_all K rfl) (by rfl) T.b_all (by decide +kernel) (pa_cons (pe_lc (own := [("sign", 1)]) rfl nd (pi_str (pv 0)) (blkOk_by (N := ["thing", "sign"]) (sc := C8.fnScope s_is_key) (own := [("sign", 1)]) (by decide +kernel)) (fun _ _ _ _ _ => (pg_name (i := 1) nd rfl (Or.inl rfl))) (fun _ _ _ _ _ => pts_nil) (fun _ _ _ _ _ => (pe_cmpR (k_in K) (pv 1) (C8.pe_gc (by rfl) T.g_LETTERS_OF_KEYS) (by rfl)))) pa_nil))))), ?_⟩
    refine (start_of (σ := [some (.str (sOf l)), none]) rfl ?_)
    walk_at "go"
    have hsz : (sOf l).length ≤ sizeLine := by rw [len_sOf]; exact Nat.le_trans hl (by decide)
    refine s_lenS hsz ?_
    rw [len_sOf]
    walk_at "go"
    by_cases h1 : (1 : Int) ≤ l.length
    · refine s_ifT (decide_eq_true h1) ?_
      walk_at "go"
      by_cases h2 : (l.length : Int) ≤ 12
      · refine s_ifF (by simpa using h2) ?_
        walk_at "go"
        intro D hD
        refine lc_S (ys := l.map fun c => V.bl (lowB c)) (by simp [sOf]) (by rw [List.length_map]; omega) hD (fun _ => rfl) (fun n x y H1 Q hx hy s1 re => ?_) (fun H1 s1 h1 => ?_)
        · obtain ⟨c, hc, rfl⟩ := sign_at hx
          rw [List.getElem?_map, hc] at hy
          cases hy
          walk_at "go"
          rw [mem_low]
          exact re _ (Same.refl _)
        · walk_at "go"
          refine s_all (bs := l.map lowB) (SqL.of (by rw [h1, List.map_map]; rfl)) ?_
          have := k _ s1
          rw [show keyB l = (l.map lowB).all id from ?_] at this
          · exact this
          · unfold keyB
            rw [decide_eq_true (by omega), decide_eq_true (by omega), List.all_map]
            rfl
      · refine s_ifT (by simpa using h2) ?_
        walk_at "go"
        rw [show false = keyB l from ?_]
        · exact k H (Same.refl _)
        · unfold keyB
          rw [show decide (l.length ≤ 12) = false from decide_eq_false (by omega), Bool.and_false, Bool.false_and]
    · refine s_ifF (decide_eq_false h1) ?_
      walk_at "go"
      rw [show false = keyB l from ?_]
      · exact k H (Same.refl _)
      · unfold keyB
        rw [show decide (1 ≤ l.length) = false from decide_eq_false (by omega), Bool.false_and, Bool.false_and]
def spFig : Sp := fun vs H Q _ => ∃ l, vs = [.str (sOf l)] ∧ l.length ≤ 100000 ∧ ∀ H', Same H H' → Q (.bl (figB l)) H'
theorem c_is_figures (T : Txt w K mg A) : C8.Cal P w K mg base 1 "is_figures" spFig [] := by
  obtain ⟨f, fd, D, B⟩ := T.d_is_figures
  refine C8.cal0 D B .nil sc_is_figures (fun vs H Q E h => ?_) (fun cdv A' outer s H vs Q E hr h => ?_)
  · obtain ⟨l, rfl, _⟩ := h
    rfl
  · obtain ⟨l, rfl, hl, k⟩ := h
    have hu := hr.units
    have hu1 := hu_of hr
    have nd := sc_is_figures.nd
    refine ⟨_, (pss_cons (ps_if (PW.pt (pw_or (pt_not (pt_chain (op_le) (op_le) pe_int (pe_callB (k_len K) (by rfl) T.b_len (by decide +kernel) (pa_cons (pv 0) pa_nil)) (C8.pe_gc (by rfl) T.g_FIGURES))) (pw_or1 (PW.pt (pw_and (pt_cmpR (k_eq K hu) (pe_ix (k_ix K) (pv 0) pe_int (fun _ _ => rfl)) pe_str (nomark _)) (pw_and1 (pt_cmpR op_gt (pe_callB (k_len K) (by rfl) T.b_len (by decide +kernel) (pa_cons (pv 0) pa_nil)) pe_int (nomark _)))))))) (pss_one (ps_ret pe_bl)) pss_nil)
      (pss_one (ps_ret (pe_callB (k_all K rfl) (by rfl) T.b_all (by decide +kernel) (pa_cons (pe_lc (own := [("sign", 1)]) rfl nd (pi_str (pv 0)) (blkOk_by (N := ["text", "sign"]) (sc := C8.fnScope s_is_figures) (own := [("sign", 1)]) (by decide +kernel)) (fun _ _ _ _ _ => (pg_name (i := 1) nd rfl (Or.inl rfl))) (fun _ _ _ _ _ => pts_nil) (fun _ _ _ _ _ => (pe_cmpR (k_in K) (pv 1) (C8.pe_gc (by rfl) T.g_FIGURE_SIGNS) (by rfl)))) pa_nil))))), ?_⟩
    refine (start_of (σ := [some (.str (sOf l)), none]) rfl ?_)
    walk_at "go"
    have hsz : (sOf l).length ≤ sizeLine := by rw [len_sOf]; exact Nat.le_trans hl (by decide)
    refine s_lenS hsz ?_
    rw [len_sOf]
    walk_at "go"
    by_cases h1 : (1 : Int) ≤ l.length
    · refine s_ifT (decide_eq_true h1) ?_
      walk_at "go"
      by_cases h2 : (l.length : Int) ≤ 60
      · refine s_ifF (by simpa using h2) ?_
        obtain ⟨c0, l', rfl⟩ : ∃ c0 l', l = c0 :: l' := by
          cases l with
          | nil => simp at h1
          | cons c0 l' => exact ⟨c0, l', rfl⟩
        walk_at "go"
        refine s_ixS hsz (c := c0) atI_0 ?_
        walk_at "go"
        have e48 : decide ((⟨#[c0]⟩ : Str) = Str.ofString "0") = decide (c0 = 48) := by
          rw [show Str.ofString "0" = ⟨#[48]⟩ from by decide +kernel]
          refine decide_eq_decide.mpr ⟨fun h => ?_, fun h => by rw [h]⟩
          injection h with h
          injection h with h
          injection h
        rw [e48]
        by_cases hz : c0 = 48 ∧ 1 < (c0 :: l').length
        · refine s_ifT (decide_eq_true hz.1) ?_
          walk_at "go"
          refine s_lenS hsz ?_
          rw [len_sOf]
          walk_at "go"
          refine s_ifT (decide_eq_true (by omega)) ?_
          walk_at "go"
          rw [show false = figB (c0 :: l') from ?_]
          · exact k H (Same.refl _)
          · unfold figB
            rw [show decide ((c0 :: l').head? = some 48) = true from decide_eq_true (by rw [hz.1]; rfl), show decide (1 < (c0 :: l').length) = true from decide_eq_true hz.2]
            simp
        · have ef : figB (c0 :: l') = ((c0 :: l').map digB).all id := by
            unfold figB
            rw [decide_eq_true (show 1 ≤ (c0 :: l').length by omega), decide_eq_true (show (c0 :: l').length ≤ 60 by omega), List.all_map]
            have : (decide ((c0 :: l').head? = some 48) && decide (1 < (c0 :: l').length)) = false := by
              rw [← Bool.decide_and]
              refine decide_eq_false fun q => hz ⟨?_, q.2⟩
              have := q.1
              simpa using this
            rw [this]
            rfl
          by_cases hc : c0 = 48
          · refine s_ifT (decide_eq_true hc) ?_
            walk_at "go"
            refine s_lenS hsz ?_
            rw [len_sOf]
            walk_at "go"
            refine s_ifF (decide_eq_false (by have := fun q => hz ⟨hc, q⟩; omega)) ?_
            walk_at "go"
            intro D hD
            refine lc_S (ys := (c0 :: l').map fun c => V.bl (digB c)) (by simp [sOf]) (by rw [List.length_map]; omega) hD (fun _ => rfl) (fun n x y H1 Q hx hy s1 re => ?_) (fun H1 s1 h1 => ?_)
            · obtain ⟨c, hc, rfl⟩ := sign_at hx
              rw [List.getElem?_map, hc] at hy
              cases hy
              walk_at "go"
              rw [mem_dig]
              exact re _ (Same.refl _)
            · walk_at "go"
              refine s_all (bs := (c0 :: l').map digB) (SqL.of (by rw [h1, List.map_map]; rfl)) ?_
              have := k _ s1
              rw [ef] at this
              exact this
          · refine s_ifF (decide_eq_false hc) ?_
            walk_at "go"
            intro D hD
            refine lc_S (ys := (c0 :: l').map fun c => V.bl (digB c)) (by simp [sOf]) (by rw [List.length_map]; omega) hD (fun _ => rfl) (fun n x y H1 Q hx hy s1 re => ?_) (fun H1 s1 h1 => ?_)
            · obtain ⟨c, hc, rfl⟩ := sign_at hx
              rw [List.getElem?_map, hc] at hy
              cases hy
              walk_at "go"
              rw [mem_dig]
              exact re _ (Same.refl _)
            · walk_at "go"
              refine s_all (bs := (c0 :: l').map digB) (SqL.of (by rw [h1, List.map_map]; rfl)) ?_
              have := k _ s1
              rw [ef] at this
              exact this
      · refine s_ifT (by simpa using h2) ?_
        walk_at "go"
        rw [show false = figB l from ?_]
        · exact k H (Same.refl _)
        · unfold figB
          rw [show decide (l.length ≤ 60) = false from decide_eq_false (by omega), Bool.and_false, Bool.false_and, Bool.false_and]
    · refine s_ifF (decide_eq_false h1) ?_
      walk_at "go"
      rw [show false = figB l from ?_]
      · exact k H (Same.refl _)
      · unfold figB
        rw [show decide (1 ≤ l.length) = false from decide_eq_false (by omega), Bool.false_and, Bool.false_and, Bool.false_and]
def spNum : Sp := fun vs H Q _ => ∃ n : Int, vs = [.str (sOf (figL n))] ∧ NumOk n ∧ ∀ H', Same H H' → Q (.int n) H'
theorem c_number_of (T : Txt w K mg A) : C8.Cal P w K mg base 2 "number_of" spNum [] := by
  obtain ⟨f, fd, D, B⟩ := T.d_number_of
  refine C8.cal0 D B .nil sc_number_of (fun vs H Q E h => ?_) (fun cdv A' outer s H vs Q E hr h => ?_)
  · obtain ⟨n, rfl, _⟩ := h
    rfl
  · obtain ⟨n, rfl, hn, k⟩ := h
    have hu := hr.units
    have hu1 := hu_of hr
    have nd := sc_number_of.nd
    refine ⟨_, (pss_cons (ps_set (i := 1) nd rfl (Or.inl rfl) (pe_sliceB (pv 0) (k_bm K PySem.F.plainAttrs_str PySem.F.slot_str_startswith PySem.F.type_str_startswith mt_startswith (pv 0) (pa_cons pe_str pa_nil))))
      (pss_cons (ps_if (PW.pt (pw_or (pt_not (pt_val (C8.pe_c (c_is_figures T) hr (by decide) (by rfl) (pa_cons (pv 1) pa_nil)))) (pw_or1 (pt_cmpR (k_eq K hu) (pv 0) pe_str (nomark _))))) (pss_one ps_never) pss_nil)
      (pss_one (ps_ret (pe_callTy call_int_str (by rfl) T.b_int (by decide +kernel) (pa_cons (pv 0) pa_nil)))))), ?_⟩
    refine (start_of (σ := [some (.str (sOf (figL n))), none]) rfl ?_)
    walk_at "go"
    have hl := figL_len hn
    have hsz : (sOf (figL n)).length ≤ sizeLine := by rw [len_sOf]; exact Nat.le_trans hl.2 (by decide)
    refine ⟨rfl, ?_⟩
    walk_at "go"
    refine ⟨_, _, rfl, rfl, ?_⟩
    rw [starts_minus]
    refine ⟨_, _, rfl, rfl, hsz, ?_⟩
    rw [cut_minus, figL_tail]
    walk_at "go"
    refine ⟨_, rfl, Nat.le_trans (TL.numL_len (k := 60) (by decide) hn) (by decide), fun H1 s1 => ?_⟩
    rw [figB_num hn]
    walk_at "go"
    refine s_ifF (decide_eq_false ?_) ?_
    · rw [sOf_lit "-0" (l := [45, 48]) rfl]
      exact fun e => figL_not n (sOf_inj e)
    walk_at "go"
    refine ⟨_, _, rfl, figL_read hn, by rw [len_sOf]; omega, ?_⟩
    exact k _ s1
def spKeyOf : Sp := fun vs H Q _ => ∃ l, vs = [.str (sOf l)] ∧ keyB l = true ∧ ∀ H', Same H H' → Q (.str (sOf l)) H'
theorem c_key_of (T : Txt w K mg A) : C8.Cal P w K mg base 2 "key_of" spKeyOf [] := by
  obtain ⟨f, fd, D, B⟩ := T.d_key_of
  refine C8.cal0 D B .nil sc_key_of (fun vs H Q E h => ?_) (fun cdv A' outer s H vs Q E hr h => ?_)
  · obtain ⟨l, rfl, _⟩ := h
    rfl
  · obtain ⟨l, rfl, hk, k⟩ := h
    have hu := hr.units
    have hu1 := hu_of hr
    have nd := sc_key_of.nd
    refine ⟨_, (pss_cons (ps_if (pt_not (pt_val (C8.pe_c (c_is_key T) hr (by decide) (by rfl) (pa_cons (pv 0) pa_nil)))) (pss_one ps_never) pss_nil)
      (pss_one (ps_ret (pv 0)))), ?_⟩
    refine (start_of (σ := [some (.str (sOf l))]) rfl ?_)
    walk_at "go"
    refine ⟨l, rfl, ?_, fun H1 s1 => ?_⟩
    · have : l.length ≤ 12 := by
        unfold keyB at hk
        simp at hk
        omega
      omega
    · rw [hk]
      walk_at "go"
      exact k _ s1
end
end Toy

set_option Elab.async false
set_option linter.all false
set_option maxRecDepth 100000
set_option maxHeartbeats 4000000
namespace Toy
open PySem PySem.Spec PyProof.Rows L2 Lt
local macro_rules
  | `(tactic| walk_at "get") => `(tactic| first
    | assumption
    | exact upd_same
    | ((with_reducible refine' get_new ?g1 ?g2); (case g1 => assumption); (case g2 => walk_at "get"))
    | ((with_reducible refine' get_ne ?g1 ?g2); (case g1 => assumption); (case g2 => walk_at "get"))
    | ((with_reducible refine' get_dif ?g1 ?g2 ?g3); (case g1 => walk_at "get"); (case g2 => walk_at "get"); (case g3 => (intro z; cases z)))
    | (refine' (by assumption : Same _ _) _ _ ?g1; (case g1 => walk_at "get")))
local macro_rules
  | `(tactic| walk_at "cls") => `(tactic| first | assumption)
local macro_rules
  | `(tactic| walk_at "sq") => `(tactic| first
    | assumption
    | exact SqL.of (by walk_at "get")
    | exact SqT.of (by walk_at "get")
    | exact FzT.sq (by assumption)
    | exact Same.seq (by assumption) (by assumption))
local macro_rules
  | `(tactic| walk_at "st") => `(tactic| first
    | with_reducible refine s_seq ?_
    | with_reducible refine s_cons ?_
    | with_reducible refine s_nil ?_
    | ((with_reducible refine' s_var ?g1 ?g2); (case g1 => rfl))
    | with_reducible refine s_c ?_
    | with_reducible refine s_op ?_
    | with_reducible refine s_addI ?_
    | with_reducible refine s_i0 ?_
    | with_reducible refine s_ret ?_
    | with_reducible refine s_retN ?_
    | with_reducible refine s_drop ?_
    | with_reducible refine s_next ?_
    | with_reducible refine s_ifs ?_
    | with_reducible refine s_asg ?_
    | with_reducible refine s_gname ?_
    | with_reducible refine s_gnil ?_
    | with_reducible refine s_gcons ?_
    | with_reducible refine s_gsub ?_
    | with_reducible refine s_un ?_
    | with_reducible refine s_cb ?_
    | with_reducible refine s_call ?_
    | with_reducible refine s_meth ?_
    | ((with_reducible refine' s_meth2 ?g1 ?g2 ?g3); (case g1 => walk_at "get"); (case g2 => rfl))
    | with_reducible refine s_test ?_
    | with_reducible refine s_tb ?_
    | with_reducible refine s_exbl ?_
    | with_reducible refine s_exint ?_
    | with_reducible refine s_and ?_
    | with_reducible refine s_or ?_
    | with_reducible refine s_not ?_
    | with_reducible refine s_andV ?_
    | with_reducible refine s_orV ?_
    | with_reducible refine s_notV ?_
    | with_reducible refine s_ifx ?_
    | with_reducible refine s_yes ?_
    | with_reducible refine s_tup ?_
    | with_reducible refine s_lst ?_
    | with_reducible refine s_fld ?_
    | ((with_reducible refine' s_fld2 ?g1 ?g2 ?g3 ?g4 ?g5); (case g1 => walk_at "get"); (case g2 => walk_at "cls"); (case g3 => walk_at "cls"); (case g4 => rfl))
    | with_reducible refine s_sfld ?_
    | with_reducible refine s_sl ?_
    | with_reducible refine s_nopart ?_
    | with_reducible refine s_part ?_
    | with_reducible refine s_for ?_
    | with_reducible refine s_ilist ?_
    | with_reducible refine s_itup ?_
    | with_reducible refine s_irng1 ?_
    | with_reducible refine s_bm ?_
    | with_reducible refine s_bm0 ?_
    | with_reducible refine s_dget ?_
    | with_reducible refine s_din ?_
    | with_reducible refine s_dnotin ?_
    | with_reducible refine s_dput ?_
    | with_reducible refine s_dget2 ?_
    | with_reducible refine s_dget1 ?_
    | with_reducible refine s_eqI ?_
    | with_reducible refine s_eqS ?_
    | with_reducible refine s_neI ?_
    | with_reducible refine s_neB ?_
    | with_reducible refine s_neS ?_
    | with_reducible refine s_ltI ?_
    | with_reducible refine s_isN ?_
    | with_reducible refine s_isNotN ?_
    | with_reducible refine s_chain ?_
    | with_reducible refine s_make ?_
    | with_reducible refine s_irng2 ?_
    | with_reducible refine s_intI ?_
    | with_reducible refine s_intB ?_
    | ((with_reducible refine' s_mod ?g1 ?g2); (case g1 => omega))
    | ((with_reducible refine' s_fdiv ?g1 ?g2); (case g1 => omega))
    | ((with_reducible refine' s_pow ?g1 ?g2); (case g1 => omega))
    | with_reducible refine s_dc ?_
    | with_reducible refine s_lc ?_
    | with_reducible refine s_iitems ?_
    | with_reducible refine s_ikeys ?_
    | ((with_reducible refine' s_sfld2 ?g1 ?g2 ?g3 ?g4 ?g5); (case g1 => walk_at "get"); (case g2 => walk_at "cls"); (case g3 => walk_at "cls"); (case g4 => exact len1000 rfl))
    | with_reducible refine s_ex2 ?_
    | with_reducible refine s_dnew ?_
    | with_reducible refine s_istr ?_
    | with_reducible refine s_exstr ?_
    | with_reducible refine s_inSg ?_
    | with_reducible refine s_notInSg ?_
    | with_reducible refine s_slb ?_
    | with_reducible refine s_m1 ?_
    | with_reducible refine s_strS ?_
    | with_reducible refine s_kget2 ?_
    | with_reducible refine s_neg ?_
    | ((with_reducible refine' s_ifT ?g1 ?g2); (case g1 => rfl))
    | ((with_reducible refine' s_ifF ?g1 ?g2); (case g1 => rfl))
    | with_reducible refine s_isi_non_int ?_
    | with_reducible refine s_isi_non_bool ?_
    | with_reducible refine s_isi_non_str ?_
    | with_reducible refine s_isi_non_tuple ?_
    | with_reducible refine s_isi_non_list ?_
    | with_reducible refine s_isi_bl_int ?_
    | with_reducible refine s_isi_bl_bool ?_
    | with_reducible refine s_isi_bl_str ?_
    | with_reducible refine s_isi_bl_tuple ?_
    | with_reducible refine s_isi_bl_list ?_
    | with_reducible refine s_isi_int_int ?_
    | with_reducible refine s_isi_int_bool ?_
    | with_reducible refine s_isi_int_str ?_
    | with_reducible refine s_isi_int_tuple ?_
    | with_reducible refine s_isi_int_list ?_
    | with_reducible refine s_isi_str_int ?_
    | with_reducible refine s_isi_str_bool ?_
    | with_reducible refine s_isi_str_str ?_
    | with_reducible refine s_isi_str_tuple ?_
    | with_reducible refine s_isi_str_list ?_
    | ((with_reducible refine' s_isi_tup_int ?g1 ?g2); (case g1 => walk_at "get"))
    | ((with_reducible refine' s_isi_tup_bool ?g1 ?g2); (case g1 => walk_at "get"))
    | ((with_reducible refine' s_isi_tup_str ?g1 ?g2); (case g1 => walk_at "get"))
    | ((with_reducible refine' s_isi_tup_tuple ?g1 ?g2); (case g1 => walk_at "get"))
    | ((with_reducible refine' s_isi_tup_list ?g1 ?g2); (case g1 => walk_at "get"))
    | ((with_reducible refine' s_isi_lst_int ?g1 ?g2); (case g1 => walk_at "get"))
    | ((with_reducible refine' s_isi_lst_bool ?g1 ?g2); (case g1 => walk_at "get"))
    | ((with_reducible refine' s_isi_lst_str ?g1 ?g2); (case g1 => walk_at "get"))
    | ((with_reducible refine' s_isi_lst_tuple ?g1 ?g2); (case g1 => walk_at "get"))
    | ((with_reducible refine' s_isi_lst_list ?g1 ?g2); (case g1 => walk_at "get"))
    | ((with_reducible refine' s_isi_dK_int ?g1 ?g2); (case g1 => walk_at "get"))
    | ((with_reducible refine' s_isi_dK_bool ?g1 ?g2); (case g1 => walk_at "get"))
    | ((with_reducible refine' s_isi_dK_str ?g1 ?g2); (case g1 => walk_at "get"))
    | ((with_reducible refine' s_isi_dK_tuple ?g1 ?g2); (case g1 => walk_at "get"))
    | ((with_reducible refine' s_isi_dK_list ?g1 ?g2); (case g1 => walk_at "get")))
local macro_rules
  | `(tactic| walk_at "go") => `(tactic| (repeat walk_at "st"))

section
variable {P : Program} {w : World} {K : PySem.W.Frag} {mg : Str → Option Value} {base : Heap} {A : Adr}
abbrev vSs (ws : List (List Nat)) : List V := ws.map vS
def spParts (sel : Deed → Prop) : Sp := fun vs H Q _ => ∃ (a : Addr) (d : Deed) (ws : List (List Nat)), vs = [.ref a] ∧ sel d ∧ d.Ok ∧ H a = some (.lst (vSs ws)) ∧ (∃ x, d.words = x :: ws) ∧ ∀ t H', Same H H' → DeedAt H' t d.items → Q (.ref t) H'
def isWrite : Deed → Prop
  | .cut .. => True
  | .put .. => True
  | _ => False
theorem c_read_write (T : Txt w K mg A) : C8.Cal P w K mg base 3 "read_write" (spParts isWrite) [] := by
  obtain ⟨f, fd, D, B⟩ := T.d_read_write
  refine C8.cal0 D B .nil sc_read_write (fun vs H Q E h => ?_) (fun cdv A' outer s H vs Q E hr h => ?_)
  · obtain ⟨a, d, ws, rfl, _⟩ := h
    rfl
  · obtain ⟨a, d, ws, rfl, hd, hok, ha, ⟨x0, hw⟩, k⟩ := h
    have hu := hr.units
    have hu1 := hu_of hr
    have nd := sc_read_write.nd
    refine ⟨_, (pss_cons (ps_if (PW.pt (pw_and (pt_cmpR (k_eq K hu) (pe_callB (k_len K) (by rfl) T.b_len (by decide +kernel) (pa_cons (pv 0) pa_nil)) pe_int (nomark _)) (pw_and1 (pt_cmpR (k_eq K hu) (pe_ix (k_ix K) (pv 0) pe_int (fun _ _ => rfl)) pe_str (nomark _))))) (pss_one (ps_ret (pe_tup (pa_cons pe_str (pa_cons (C8.pe_c (c_number_of T) hr (by decide) (by rfl) (pa_cons (pe_ix (k_ix K) (pv 0) pe_int (fun _ _ => rfl)) pa_nil)) (pa_cons (pe_tup (pa_cons pe_str (pa_cons (C8.pe_c (c_key_of T) hr (by decide) (by rfl) (pa_cons (pe_ix (k_ix K) (pv 0) pe_int (fun _ _ => rfl)) pa_nil)) (pa_cons (C8.pe_c (c_number_of T) hr (by decide) (by rfl) (pa_cons (pe_ix (k_ix K) (pv 0) pe_int (fun _ _ => rfl)) pa_nil)) pa_nil)))) pa_nil)))))) pss_nil)
      (pss_cons (ps_if (PW.pt (pw_and (pt_cmpR (k_eq K hu) (pe_callB (k_len K) (by rfl) T.b_len (by decide +kernel) (pa_cons (pv 0) pa_nil)) pe_int (nomark _)) (pw_and1 (pt_cmpR (k_eq K hu) (pe_ix (k_ix K) (pv 0) pe_int (fun _ _ => rfl)) pe_str (nomark _))))) (pss_one (ps_ret (pe_tup (pa_cons pe_str (pa_cons (C8.pe_c (c_number_of T) hr (by decide) (by rfl) (pa_cons (pe_ix (k_ix K) (pv 0) pe_int (fun _ _ => rfl)) pa_nil)) (pa_cons (pe_tup (pa_cons pe_str (pa_cons (C8.pe_c (c_key_of T) hr (by decide) (by rfl) (pa_cons (pe_ix (k_ix K) (pv 0) pe_int (fun _ _ => rfl)) pa_nil)) pa_nil))) pa_nil)))))) pss_nil)
      (pss_one ps_never))), ?_⟩
    refine (start_of (σ := [some (.ref a)]) rfl ?_)
    cases d with
    | cut h key =>
      have hw2 : ws = [figL h, wd "cut", key] := (List.cons.inj hw).2.symm
      subst hw2
      walk_at "go"
      refine s_lenL (SqL.of ha) ?_
      walk_at "go"
      refine s_lenL (SqL.of ha) ?_
      walk_at "go"
      refine s_ixL (SqL.of ha) (v := vS (wd "cut")) (atI_nat (i := 1) rfl) ?_
      walk_at "go"
      refine s_ixL (SqL.of ha) (v := vS (figL h)) (atI_nat (i := 0) rfl) ?_
      walk_at "go"
      refine ⟨h, rfl, hok.1, fun H1 s1 => ?_⟩
      walk_at "go"
      refine s_ixL (SqL.of (s1 _ _ ha)) (v := vS key) (atI_nat (i := 2) rfl) ?_
      walk_at "go"
      refine ⟨key, rfl, hok.2, fun H2 s2 => ?_⟩
      walk_at "go"
      refine ⟨by show 2 ≤ sizeLine; decide, fun p hp => ?_⟩
      walk_at "go"
      refine ⟨by show 3 ≤ sizeLine; decide, fun q hq => ?_⟩
      refine k q _ (same_upd (same_upd (s1.trans s2) hp) hq) ⟨_, upd_same, .cons ?_ (.cons rfl (.cons ⟨p, rfl, get_new hq upd_same⟩ .nil))⟩
      show V.str (Str.ofString "write") = vS (wd "write")
      rw [wd_of]
    | put h key v =>
      have hw2 : ws = [figL h, wd "set", key, figL v] := (List.cons.inj hw).2.symm
      subst hw2
      walk_at "go"
      refine s_lenL (SqL.of ha) ?_
      walk_at "go"
      refine s_ixL (SqL.of ha) (v := vS (wd "set")) (atI_nat (i := 1) rfl) ?_
      walk_at "go"
      refine s_ixL (SqL.of ha) (v := vS (figL h)) (atI_nat (i := 0) rfl) ?_
      walk_at "go"
      refine ⟨h, rfl, hok.1, fun H1 s1 => ?_⟩
      walk_at "go"
      refine s_ixL (SqL.of (s1 _ _ ha)) (v := vS key) (atI_nat (i := 2) rfl) ?_
      walk_at "go"
      refine ⟨key, rfl, hok.2.1, fun H2 s2 => ?_⟩
      walk_at "go"
      refine s_ixL (SqL.of (s2 _ _ (s1 _ _ ha))) (v := vS (figL v)) (atI_nat (i := 3) rfl) ?_
      walk_at "go"
      refine ⟨v, rfl, hok.2.2, fun H3 s3 => ?_⟩
      walk_at "go"
      refine ⟨by show 3 ≤ sizeLine; decide, fun p hp => ?_⟩
      walk_at "go"
      refine ⟨by show 3 ≤ sizeLine; decide, fun q hq => ?_⟩
      refine k q _ (same_upd (same_upd ((s1.trans s2).trans s3) hp) hq) ⟨_, upd_same, .cons ?_ (.cons rfl (.cons ⟨p, rfl, get_new hq upd_same⟩ .nil))⟩
      show V.str (Str.ofString "write") = vS (wd "write")
      rw [wd_of]
    | read h1 h2 => exact hd.elim
    | readAt h1 h2 h3 => exact hd.elim
    | take h1 h2 h3 => exact hd.elim
    | apply1 h1 => exact hd.elim
    | apply2 h1 h2 => exact hd.elim
    | nums h1 h2 => exact hd.elim
def isRead : Deed → Prop
  | .read .. => True
  | .readAt .. => True
  | _ => False
theorem c_read_reading (T : Txt w K mg A) : C8.Cal P w K mg base 3 "read_reading" (spParts isRead) [] := by
  obtain ⟨f, fd, D, B⟩ := T.d_read_reading
  refine C8.cal0 D B .nil sc_read_reading (fun vs H Q E h => ?_) (fun cdv A' outer s H vs Q E hr h => ?_)
  · obtain ⟨a, d, ws, rfl, _⟩ := h
    rfl
  · obtain ⟨a, d, ws, rfl, hd, hok, ha, ⟨x0, hw⟩, k⟩ := h
    have hu := hr.units
    have hu1 := hu_of hr
    have nd := sc_read_reading.nd
    refine ⟨_, (pss_cons (ps_if (pt_cmpR (k_eq K hu) (pe_callB (k_len K) (by rfl) T.b_len (by decide +kernel) (pa_cons (pv 0) pa_nil)) pe_int (nomark _)) (pss_one (ps_ret (pe_tup (pa_cons pe_str (pa_cons (C8.pe_c (c_number_of T) hr (by decide) (by rfl) (pa_cons (pe_ix (k_ix K) (pv 0) pe_int (fun _ _ => rfl)) pa_nil)) (pa_cons (C8.pe_c (c_key_of T) hr (by decide) (by rfl) (pa_cons (pe_ix (k_ix K) (pv 0) pe_int (fun _ _ => rfl)) pa_nil)) (pa_cons pe_non pa_nil))))))) pss_nil)
      (pss_cons (ps_if (PW.pt (pw_and (pt_cmpR (k_eq K hu) (pe_callB (k_len K) (by rfl) T.b_len (by decide +kernel) (pa_cons (pv 0) pa_nil)) pe_int (nomark _)) (pw_and1 (pt_cmpR (k_eq K hu) (pe_ix (k_ix K) (pv 0) pe_int (fun _ _ => rfl)) pe_str (nomark _))))) (pss_one (ps_ret (pe_tup (pa_cons pe_str (pa_cons (C8.pe_c (c_number_of T) hr (by decide) (by rfl) (pa_cons (pe_ix (k_ix K) (pv 0) pe_int (fun _ _ => rfl)) pa_nil)) (pa_cons (C8.pe_c (c_key_of T) hr (by decide) (by rfl) (pa_cons (pe_ix (k_ix K) (pv 0) pe_int (fun _ _ => rfl)) pa_nil)) (pa_cons (C8.pe_c (c_number_of T) hr (by decide) (by rfl) (pa_cons (pe_ix (k_ix K) (pv 0) pe_int (fun _ _ => rfl)) pa_nil)) pa_nil))))))) pss_nil)
      (pss_one ps_never))), ?_⟩
    refine (start_of (σ := [some (.ref a)]) rfl ?_)
    cases d with
    | read h key =>
      have hw2 : ws = [figL h, key] := (List.cons.inj hw).2.symm
      subst hw2
      walk_at "go"
      refine s_lenL (SqL.of ha) ?_
      walk_at "go"
      refine s_ixL (SqL.of (ha)) (v := vS (figL h)) (atI_nat (i := 0) rfl) ?_
      walk_at "go"
      refine ⟨h, rfl, hok.1, fun H1 s1 => ?_⟩
      walk_at "go"
      refine s_ixL (SqL.of (s1 _ _ ha)) (v := vS (key)) (atI_nat (i := 1) rfl) ?_
      walk_at "go"
      refine ⟨key, rfl, hok.2, fun H2 s2 => ?_⟩
      walk_at "go"
      refine ⟨by show 4 ≤ sizeLine; decide, fun p hp => ?_⟩
      refine k p _ (same_upd (s1.trans s2) hp) ⟨_, upd_same, .cons ?_ (.cons rfl (.cons rfl (.cons rfl .nil)))⟩
      show V.str (Str.ofString "read") = vS (wd "read")
      rw [wd_of]
    | readAt h key t =>
      have hw2 : ws = [figL h, key, wd "at", figL t] := (List.cons.inj hw).2.symm
      subst hw2
      walk_at "go"
      refine s_lenL (SqL.of ha) ?_
      walk_at "go"
      refine s_lenL (SqL.of ha) ?_
      walk_at "go"
      refine s_ixL (SqL.of (ha)) (v := vS (wd "at")) (atI_nat (i := 2) rfl) ?_
      walk_at "go"
      refine s_ixL (SqL.of (ha)) (v := vS (figL h)) (atI_nat (i := 0) rfl) ?_
      walk_at "go"
      refine ⟨h, rfl, hok.1, fun H1 s1 => ?_⟩
      walk_at "go"
      refine s_ixL (SqL.of (s1 _ _ ha)) (v := vS (key)) (atI_nat (i := 1) rfl) ?_
      walk_at "go"
      refine ⟨key, rfl, hok.2.1, fun H2 s2 => ?_⟩
      walk_at "go"
      refine s_ixL (SqL.of (s2 _ _ (s1 _ _ ha))) (v := vS (figL t)) (atI_nat (i := 3) rfl) ?_
      walk_at "go"
      refine ⟨t, rfl, hok.2.2, fun H3 s3 => ?_⟩
      walk_at "go"
      refine ⟨by show 4 ≤ sizeLine; decide, fun p hp => ?_⟩
      refine k p _ (same_upd ((s1.trans s2).trans s3) hp) ⟨_, upd_same, .cons ?_ (.cons rfl (.cons rfl (.cons rfl .nil)))⟩
      show V.str (Str.ofString "read") = vS (wd "read")
      rw [wd_of]
    | cut h key => exact hd.elim
    | put h key v => exact hd.elim
    | take h as fo => exact hd.elim
    | apply1 h => exact hd.elim
    | apply2 h n => exact hd.elim
    | nums w1 ns => exact hd.elim
def isApply : Deed → Prop
  | .apply1 .. => True
  | .apply2 .. => True
  | _ => False
theorem c_read_apply (T : Txt w K mg A) : C8.Cal P w K mg base 3 "read_apply" (spParts isApply) [] := by
  obtain ⟨f, fd, D, B⟩ := T.d_read_apply
  refine C8.cal0 D B .nil sc_read_apply (fun vs H Q E h => ?_) (fun cdv A' outer s H vs Q E hr h => ?_)
  · obtain ⟨a, d, ws, rfl, _⟩ := h
    rfl
  · obtain ⟨a, d, ws, rfl, hd, hok, ha, ⟨x0, hw⟩, k⟩ := h
    have hu := hr.units
    have hu1 := hu_of hr
    have nd := sc_read_apply.nd
    refine ⟨_, (pss_cons (ps_if (pt_cmpR (k_eq K hu) (pe_callB (k_len K) (by rfl) T.b_len (by decide +kernel) (pa_cons (pv 0) pa_nil)) pe_int (nomark _)) (pss_one (ps_ret (pe_tup (pa_cons pe_str (pa_cons (C8.pe_c (c_number_of T) hr (by decide) (by rfl) (pa_cons (pe_ix (k_ix K) (pv 0) pe_int (fun _ _ => rfl)) pa_nil)) (pa_cons pe_non pa_nil)))))) pss_nil)
      (pss_cons (ps_if (pt_cmpR (k_eq K hu) (pe_callB (k_len K) (by rfl) T.b_len (by decide +kernel) (pa_cons (pv 0) pa_nil)) pe_int (nomark _)) (pss_one (ps_ret (pe_tup (pa_cons pe_str (pa_cons (C8.pe_c (c_number_of T) hr (by decide) (by rfl) (pa_cons (pe_ix (k_ix K) (pv 0) pe_int (fun _ _ => rfl)) pa_nil)) (pa_cons (C8.pe_c (c_number_of T) hr (by decide) (by rfl) (pa_cons (pe_ix (k_ix K) (pv 0) pe_int (fun _ _ => rfl)) pa_nil)) pa_nil)))))) pss_nil)
      (pss_one ps_never))), ?_⟩
    refine (start_of (σ := [some (.ref a)]) rfl ?_)
    cases d with
    | apply1 h =>
      have hw2 : ws = [figL h] := (List.cons.inj hw).2.symm
      subst hw2
      walk_at "go"
      refine s_lenL (SqL.of ha) ?_
      walk_at "go"
      refine s_ixL (SqL.of (ha)) (v := vS (figL h)) (atI_nat (i := 0) rfl) ?_
      walk_at "go"
      refine ⟨h, rfl, hok, fun H1 s1 => ?_⟩
      walk_at "go"
      refine ⟨by show 3 ≤ sizeLine; decide, fun p hp => ?_⟩
      refine k p _ (same_upd s1 hp) ⟨_, upd_same, .cons ?_ (.cons rfl (.cons rfl .nil))⟩
      show V.str (Str.ofString "apply") = vS (wd "apply")
      rw [wd_of]
    | apply2 h n =>
      have hw2 : ws = [figL h, figL n] := (List.cons.inj hw).2.symm
      subst hw2
      walk_at "go"
      refine s_lenL (SqL.of ha) ?_
      walk_at "go"
      refine s_lenL (SqL.of ha) ?_
      walk_at "go"
      refine s_ixL (SqL.of (ha)) (v := vS (figL h)) (atI_nat (i := 0) rfl) ?_
      walk_at "go"
      refine ⟨h, rfl, hok.1, fun H1 s1 => ?_⟩
      walk_at "go"
      refine s_ixL (SqL.of (s1 _ _ ha)) (v := vS (figL n)) (atI_nat (i := 1) rfl) ?_
      walk_at "go"
      refine ⟨n, rfl, hok.2, fun H2 s2 => ?_⟩
      walk_at "go"
      refine ⟨by show 3 ≤ sizeLine; decide, fun p hp => ?_⟩
      refine k p _ (same_upd (s1.trans s2) hp) ⟨_, upd_same, .cons ?_ (.cons rfl (.cons rfl .nil))⟩
      show V.str (Str.ofString "apply") = vS (wd "apply")
      rw [wd_of]
    | cut h key => exact hd.elim
    | put h key v => exact hd.elim
    | read h key => exact hd.elim
    | readAt h key t => exact hd.elim
    | take h as fo => exact hd.elim
    | nums w1 ns => exact hd.elim
def spTakeover : Sp := fun vs H Q _ => ∃ (a : Addr) (h : Int) (as : List Int) (fo : Bool), vs = [.ref a, .bl fo] ∧ (Deed.take h as fo).Ok ∧ H a = some (.lst (vSs (figL h :: as.map figL))) ∧ ∀ t H', Same H H' → DeedAt H' t (Deed.take h as fo).items → Q (.ref t) H'
theorem c_read_takeover (T : Txt w K mg A) : C8.Cal P w K mg base 3 "read_takeover" spTakeover [] := by
  obtain ⟨f, fd, D, B⟩ := T.d_read_takeover
  refine C8.cal0 D B .nil sc_read_takeover (fun vs H Q E h => ?_) (fun cdv A' outer s H vs Q E hr h => ?_)
  · obtain ⟨a, h, as, fo, rfl, _⟩ := h
    rfl
  · obtain ⟨a, h, as, fo, rfl, hok, ha, k⟩ := h
    have hu := hr.units
    have hu1 := hu_of hr
    have nd := sc_read_takeover.nd
    refine ⟨_, (pss_cons (ps_if (pt_cmpR (k_eq K hu) (pe_callB (k_len K) (by rfl) T.b_len (by decide +kernel) (pa_cons (pv 0) pa_nil)) pe_int (nomark _)) (pss_one ps_never) pss_nil)
      (pss_cons (ps_asg (pe_lc (own := [("part", 4)]) rfl nd (ki_list K (pv 0)) (blkOk_by (N := ["parts", "forced", "house", "asked", "part"]) (sc := C8.fnScope s_read_takeover) (own := [("part", 4)]) (by decide +kernel)) (fun _ _ _ _ _ => (pg_name (i := 4) nd rfl (Or.inl rfl))) (fun _ _ _ _ _ => pts_nil) (fun _ _ _ _ _ => (C8.pe_c (c_number_of T) hr (by decide) (by rfl) (pa_cons (pv 4) pa_nil)))) (kg_star K rfl (pgs_cons (pg_name (i := 2) nd rfl (Or.inl rfl)) (pgs_cons (pg_name (i := 3) nd rfl (Or.inl rfl)) pgs_nil))))
      (pss_one (ps_ret (pe_tup (pa_cons pe_str (pa_cons (pv 2) (pa_cons (pe_callTy (k_tuple K) (by rfl) T.b_tuple (by decide +kernel) (pa_cons (pv 3) pa_nil)) (pa_cons (pv 1) pa_nil))))))))), ?_⟩
    refine (start_of (σ := [some (.ref a), some (.bl fo), none, none, none]) rfl ?_)
    walk_at "go"
    refine s_lenL (SqL.of ha) ?_
    walk_at "go"
    have ha2 : H a = some (.lst (((h :: as).map figL).map vS)) := ha
    refine s_ilist2 (SqL.of ha2) fun D hD => lc_L (ys := (h :: as).map V.int) (SqL.of ha2) (by simp) (by have := hok.2.2; simp; omega) hD (fun _ => rfl) (fun n x y H1 Q hx hy s1 re => ?_) (fun H1 s1 h1 => ?_)
    · rw [List.getElem?_map, List.getElem?_map] at hx
      rw [List.getElem?_map] at hy
      cases e : (h :: as)[n]? with
      | none => rw [e] at hx; cases hx
      | some m =>
        rw [e] at hx hy
        cases hx
        cases hy
        have hm : NumOk m := by
          rcases List.mem_cons.mp (List.mem_of_getElem? e) with rfl | hm
          · exact hok.1
          · exact hok.2.1 m hm
        walk_at "go"
        exact ⟨m, rfl, hm, fun H2 s2 => re _ s2⟩
    · walk_at "go"
      refine s_gstar (.inl (SqL.of h1)) fun p hp => ?_
      walk_at "go"
      refine ⟨p, as.map V.int, rfl, .inl ⟨SqL.of upd_same, fun q hq => ?_⟩⟩
      walk_at "go"
      refine ⟨by show 4 ≤ sizeLine; decide, fun t ht => ?_⟩
      refine k t _ (same_upd (same_upd (same_upd s1 hp) hq) ht) ⟨_, upd_same, .cons ?_ (.cons rfl (.cons ⟨q, rfl, get_new ht upd_same⟩ (.cons rfl .nil)))⟩
      show V.str (Str.ofString "takeover") = vS (wd "takeover")
      rw [wd_of]
theorem numWords_facts : ∀ p ∈ numWords, sOf p.1 ≠ Str.ofString "write" ∧ sOf p.1 ≠ Str.ofString "read" ∧ sOf p.1 ≠ Str.ofString "apply" ∧ inV (vS p.1) [V.str (Str.ofString "takeover"), V.str (Str.ofString "force")] = false ∧
    ((tab_COUNTS.lookup (sOf p.1) = some (p.2 : Int) ∧ tab_MORE_COUNTS.lookup (sOf p.1) = none) ∨ (tab_COUNTS.lookup (sOf p.1) = none ∧ tab_MORE_COUNTS.lookup (sOf p.1) = some (p.2 : Int))) := by decide +kernel
def spRead : Sp := fun vs H Q _ => ∃ d : Deed, vs = [vS d.line] ∧ d.Ok ∧ ∀ t H', Same H H' → DeedAt H' t d.items → Q (.ref t) H'
theorem c_read_line (T : Txt w K mg A) : C8.Cal P w K mg base 4 "read_line" spRead [] := by
  obtain ⟨f, fd, D, B⟩ := T.d_read_line
  refine C8.cal0 D B .nil sc_read_line (fun vs H Q E h => ?_) (fun cdv A' outer s H vs Q E hr h => ?_)
  · obtain ⟨d, rfl, _⟩ := h
    rfl
  · obtain ⟨d, rfl, hok, k⟩ := h
    have hu := hr.units
    have hu1 := hu_of hr
    have nd := sc_read_line.nd
    refine ⟨_, (pss_cons (ps_if (pt_not (pt_val (pe_callB (k_isi K) (by rfl) T.b_isinstance (by decide +kernel) (pa_cons (pv 0) (pa_cons (pe_bltn (v := .ty "str") (by rfl) T.b_str (by decide +kernel) rfl) pa_nil))))) (pss_one ps_never) pss_nil)
      (pss_cons (ps_asg (pe_split (pv 0) pe_str) (kg_star K rfl (pgs_cons (pg_name (i := 1) nd rfl (Or.inl rfl)) (pgs_cons (pg_name (i := 2) nd rfl (Or.inl rfl)) pgs_nil))))
      (pss_cons (ps_if (pt_cmpR (k_eq K hu) (pv 1) pe_str (nomark _)) (pss_one (ps_ret (C8.pe_c (c_read_write T) hr (by decide) (by rfl) (pa_cons (pv 2) pa_nil)))) pss_nil)
      (pss_cons (ps_if (pt_cmpR (k_eq K hu) (pv 1) pe_str (nomark _)) (pss_one (ps_ret (C8.pe_c (c_read_reading T) hr (by decide) (by rfl) (pa_cons (pv 2) pa_nil)))) pss_nil)
      (pss_cons (ps_if (pt_cmpR (k_eq K hu) (pv 1) pe_str (nomark _)) (pss_one (ps_ret (C8.pe_c (c_read_apply T) hr (by decide) (by rfl) (pa_cons (pv 2) pa_nil)))) pss_nil)
      (pss_cons (ps_if (pt_cmpR (k_in K) (pv 1) (pe_tup (pa_cons pe_str (pa_cons pe_str pa_nil))) (by rfl)) (pss_one (ps_ret (C8.pe_c (c_read_takeover T) hr (by decide) (by rfl) (pa_cons (pv 2) (pa_cons (pe_cmpR (k_eq K hu) (pv 1) pe_str (nomark _)) pa_nil))))) pss_nil)
      (pss_cons (ps_set (i := 3) nd rfl (Or.inl rfl) (pe_kget2 K (C8.pe_gc (by rfl) T.kd_COUNTS) (pv 1) (pe_kget2 K (C8.pe_gc (by rfl) T.kd_MORE_COUNTS) (pv 1) (pe_un un_neg pe_int) ⟨rfl, rfl, rfl, rfl⟩) ⟨rfl, rfl, rfl, rfl⟩))
      (pss_cons (ps_if (pt_cmpR (k_ne K hu) (pe_callB (k_len K) (by rfl) T.b_len (by decide +kernel) (pa_cons (pv 2) pa_nil)) (pv 3) (nomark _)) (pss_one ps_never) pss_nil)
      (pss_one (ps_ret (pe_op (k_add K) (pe_tup (pa_cons (pv 1) pa_nil)) (pe_callTy (k_tuple K) (by rfl) T.b_tuple (by decide +kernel) (pa_cons (pe_lc (own := [("part", 4)]) rfl nd (ki_list K (pv 2)) (blkOk_by (N := ["text", "word", "parts", "count", "part"]) (sc := C8.fnScope s_read_line) (own := [("part", 4)]) (by decide +kernel)) (fun _ _ _ _ _ => (pg_name (i := 4) nd rfl (Or.inl rfl))) (fun _ _ _ _ _ => pts_nil) (fun _ _ _ _ _ => (C8.pe_c (c_number_of T) hr (by decide) (by rfl) (pa_cons (pv 4) pa_nil)))) pa_nil))))))))))))), ?_⟩
    refine (start_of (σ := [some (vS d.line), none, none, none, none]) rfl ?_)
    walk_at "go"
    obtain ⟨w0, w32, wl, wx⟩ := words_ok hok
    have hlen := line_len d.words wx
    obtain ⟨x0, ws, hw⟩ : ∃ x0 ws, d.words = x0 :: ws := by
      cases e : d.words with
      | nil => exact absurd e w0
      | cons a b => exact ⟨a, b, rfl⟩
    refine ⟨⟨_, rfl⟩, ?_⟩
    walk_at "go"
    refine ⟨_, _, rfl, rfl, by decide +kernel, ?_, fun p hp => ?_⟩
    · rw [len_sOf]
      exact Nat.le_trans (Nat.add_le_add_right (Nat.le_trans hlen (Nat.mul_le_mul_left 62 wl)) 2) (by decide)
    have hsp : (Txt.split (sOf d.line) (Str.ofString " ")).map V.str = vS x0 :: vSs ws := by
      show (Txt.split (sOf (TL.joinL [32] d.words)) (Str.ofString " ")).map V.str = _
      rw [split_line w0 w32, hw, List.map_map]
      rfl
    rw [hsp]
    walk_at "go"
    refine s_gstar (.inl (SqL.of upd_same)) fun p2 hp2 => ?_
    have s2 : Same H (upd (upd H p (.lst (vS x0 :: vSs ws))) p2 (.lst (vSs ws))) := same_upd (same_upd (Same.refl _) hp) hp2
    have h2 : upd (upd H p (.lst (vS x0 :: vSs ws))) p2 (.lst (vSs ws)) p2 = some (.lst (vSs ws)) := upd_same
    generalize upd (upd H p (.lst (vS x0 :: vSs ws))) p2 (.lst (vSs ws)) = H2 at s2 h2 ⊢
    cases d with
    | cut h key =>
      cases (List.cons.inj hw).1
      walk_at "go"
      exact ⟨p2, .cut h key, ws, rfl, trivial, hok, h2, ⟨_, hw⟩, fun t H3 s3 hd => k t H3 (s2.trans s3) hd⟩
    | put h key v =>
      cases (List.cons.inj hw).1
      walk_at "go"
      exact ⟨p2, .put h key v, ws, rfl, trivial, hok, h2, ⟨_, hw⟩, fun t H3 s3 hd => k t H3 (s2.trans s3) hd⟩
    | read h key =>
      cases (List.cons.inj hw).1
      walk_at "go"
      exact ⟨p2, .read h key, ws, rfl, trivial, hok, h2, ⟨_, hw⟩, fun t H3 s3 hd => k t H3 (s2.trans s3) hd⟩
    | readAt h key t0 =>
      cases (List.cons.inj hw).1
      walk_at "go"
      exact ⟨p2, .readAt h key t0, ws, rfl, trivial, hok, h2, ⟨_, hw⟩, fun t H3 s3 hd => k t H3 (s2.trans s3) hd⟩
    | apply1 h =>
      cases (List.cons.inj hw).1
      walk_at "go"
      exact ⟨p2, .apply1 h, ws, rfl, trivial, hok, h2, ⟨_, hw⟩, fun t H3 s3 hd => k t H3 (s2.trans s3) hd⟩
    | apply2 h n =>
      cases (List.cons.inj hw).1
      walk_at "go"
      exact ⟨p2, .apply2 h n, ws, rfl, trivial, hok, h2, ⟨_, hw⟩, fun t H3 s3 hd => k t H3 (s2.trans s3) hd⟩
    | take h as fo =>
      have e2 : ws = figL h :: as.map figL := (List.cons.inj hw).2.symm
      subst e2
      cases fo with
      | true =>
        cases (List.cons.inj hw).1
        walk_at "go"
        refine ⟨by show 2 ≤ sizeLine; decide, fun p3 hp3 => ?_⟩
        refine s_inD (.inr (SqT.of upd_same)) rfl rfl ?_
        refine ⟨_, rfl, s_ifT (by decide +kernel) ?_⟩
        walk_at "go"
        rw [show decide (sOf (if true = true then wd "force" else wd "takeover") = Str.ofString "force") = true from by decide +kernel]
        refine ⟨p2, h, as, true, rfl, hok, get_new hp3 h2, fun t H3 s3 hd => k t H3 (s2.trans ((same_upd (Same.refl _) hp3).trans s3)) hd⟩
      | false =>
        cases (List.cons.inj hw).1
        walk_at "go"
        refine ⟨by show 2 ≤ sizeLine; decide, fun p3 hp3 => ?_⟩
        refine s_inD (.inr (SqT.of upd_same)) rfl rfl ?_
        refine ⟨_, rfl, s_ifT (by decide +kernel) ?_⟩
        walk_at "go"
        rw [show decide (sOf (if false = true then wd "force" else wd "takeover") = Str.ofString "force") = false from by decide +kernel]
        refine ⟨p2, h, as, false, rfl, hok, get_new hp3 h2, fun t H3 s3 hd => k t H3 (s2.trans ((same_upd (Same.refl _) hp3).trans s3)) hd⟩
    | nums w1 ns =>
      cases (List.cons.inj hw).1
      have e2 : ws = ns.map figL := (List.cons.inj hw).2.symm
      subst e2
      obtain ⟨q1, q2, q3, q4, q5⟩ := numWords_facts _ hok.1
      walk_at "go"
      refine s_ifF (decide_eq_false q1) ?_
      walk_at "go"
      refine s_ifF (decide_eq_false q2) ?_
      walk_at "go"
      refine s_ifF (decide_eq_false q3) ?_
      walk_at "go"
      refine ⟨by show 2 ≤ sizeLine; decide, fun p3 hp3 => ?_⟩
      refine s_inD (.inr (SqT.of upd_same)) rfl rfl ?_
      refine ⟨_, rfl, s_ifF q4 ?_⟩
      have s3 : Same H2 (upd H2 p3 (.tup [V.str (Str.ofString "takeover"), V.str (Str.ofString "force")])) := same_upd (Same.refl _) hp3
      generalize upd H2 p3 (.tup [V.str (Str.ofString "takeover"), V.str (Str.ofString "force")]) = H3 at s3 ⊢
      have h3 := s3 _ _ h2
      walk_at "go"
      obtain ⟨e1, n1, K1⟩ := T.kf_COUNTS
      refine ⟨_, e1, n1, rfl, K1, ?_⟩
      walk_at "go"
      obtain ⟨e2, n2, K2⟩ := T.kf_MORE_COUNTS
      refine ⟨_, e2, n2, rfl, K2, ?_⟩
      walk_at "go"
      obtain ⟨r1, hr1, m1⟩ := T.kv_COUNTS (sOf x0)
      obtain ⟨r2, hr2, m2⟩ := T.kv_MORE_COUNTS (sOf x0)
      rcases q5 with ⟨q5, q6⟩ | ⟨q5, q6⟩
      · rw [q5] at m1
        rw [q6] at m2
        obtain ⟨t1, rfl⟩ := m1
        refine ⟨_, r2, rfl, hr2, fun _ => ⟨_, _, rfl, hr1, (fun e => by cases e), fun u e => ⟨.int (ns.length : Int), ?_, ?_⟩⟩, fun u e => by rw [m2] at e; cases e⟩
        · cases e
          exact ⟨t1, rfl⟩
        walk_at "go"
        refine s_lenL (SqL.of h3) ?_
        walk_at "go"
        refine s_ifF (by simp [vSs]) ?_
        walk_at "go"
        refine ⟨by show 1 ≤ sizeLine; decide, fun p4 hp4 => ?_⟩
        walk_at "go"
        have h4 : upd H3 p4 (.tup [vS x0]) p2 = some (.lst ((ns.map figL).map vS)) := get_new hp4 h3
        have hl2 : ns.length ≤ 2 := (show ∀ p ∈ numWords, p.2 ≤ 2 from by decide +kernel) _ hok.1
        refine s_ilist2 (SqL.of h4) fun D hD => lc_L (ys := ns.map V.int) (SqL.of h4) (by simp) (by rw [List.length_map]; omega) hD (fun _ => rfl) (fun n x y H1 Q hx hy s1 re => ?_) (fun H5 s5 h5 => ?_)
        · rw [List.getElem?_map, List.getElem?_map] at hx
          rw [List.getElem?_map] at hy
          cases e : ns[n]? with
          | none => rw [e] at hx; cases hx
          | some m =>
            rw [e] at hx hy
            cases hx
            cases hy
            walk_at "go"
            exact ⟨m, rfl, hok.2 m (List.mem_of_getElem? e), fun H2 s2 => re _ s2⟩
        · walk_at "go"
          refine ⟨_, ns.map V.int, rfl, .inl ⟨SqL.of h5, fun p6 hp6 => ?_⟩⟩
          have h6 : upd H5 p6 (.tup (ns.map V.int)) p4 = some (.tup [vS x0]) := get_new hp6 (s5 _ _ upd_same)
          have s6 : Same H (upd H5 p6 (.tup (ns.map V.int))) := same_upd (((s2.trans s3).trans (same_upd (Same.refl _) hp4)).trans s5) hp6
          have pr : ∀ l : List Int, Paired (ItAt (upd H5 p6 (.tup (ns.map V.int)))) (l.map V.int) (l.map fun n => .inl (V.int n)) := fun l => by
            induction l with
            | nil => exact .nil
            | cons a r ih => exact .cons rfl ih
          refine .inr (.inr (.inr ⟨p4, p6, [vS x0], ns.map V.int, rfl, rfl, SqT.of h6, SqT.of upd_same, by rw [List.length_map]; exact Nat.le_trans (Nat.add_le_add_left hl2 _) (by show 1 + 2 ≤ sizeLine; decide), fun e => absurd e (by simp), fun _ e => ?_, fun _ _ p7 hp7 => ?_⟩))
          · have e0 : ns = [] := List.map_eq_nil_iff.mp e
            subst e0
            exact k p4 _ s6 ⟨_, h6, .cons rfl .nil⟩
          · exact k p7 _ (same_upd s6 hp7) ⟨_, upd_same, Paired.mapP (.cons rfl (pr ns)) fun _ _ q => ItAt.same (same_upd (Same.refl _) hp7) q⟩
      · rw [q5] at m1
        rw [q6] at m2
        obtain ⟨t2, rfl⟩ := m2
        refine ⟨_, _, rfl, hr2, (fun e => by cases e), fun u e => ⟨.int (ns.length : Int), ?_, ⟨_, r1, rfl, hr1, fun _ => ?_, fun u e => by rw [m1] at e; cases e⟩⟩⟩
        · cases e
          exact ⟨t2, rfl⟩
        walk_at "go"
        refine s_lenL (SqL.of h3) ?_
        walk_at "go"
        refine s_ifF (by simp [vSs]) ?_
        walk_at "go"
        refine ⟨by show 1 ≤ sizeLine; decide, fun p4 hp4 => ?_⟩
        walk_at "go"
        have h4 : upd H3 p4 (.tup [vS x0]) p2 = some (.lst ((ns.map figL).map vS)) := get_new hp4 h3
        have hl2 : ns.length ≤ 2 := (show ∀ p ∈ numWords, p.2 ≤ 2 from by decide +kernel) _ hok.1
        refine s_ilist2 (SqL.of h4) fun D hD => lc_L (ys := ns.map V.int) (SqL.of h4) (by simp) (by rw [List.length_map]; omega) hD (fun _ => rfl) (fun n x y H1 Q hx hy s1 re => ?_) (fun H5 s5 h5 => ?_)
        · rw [List.getElem?_map, List.getElem?_map] at hx
          rw [List.getElem?_map] at hy
          cases e : ns[n]? with
          | none => rw [e] at hx; cases hx
          | some m =>
            rw [e] at hx hy
            cases hx
            cases hy
            walk_at "go"
            exact ⟨m, rfl, hok.2 m (List.mem_of_getElem? e), fun H2 s2 => re _ s2⟩
        · walk_at "go"
          refine ⟨_, ns.map V.int, rfl, .inl ⟨SqL.of h5, fun p6 hp6 => ?_⟩⟩
          have h6 : upd H5 p6 (.tup (ns.map V.int)) p4 = some (.tup [vS x0]) := get_new hp6 (s5 _ _ upd_same)
          have s6 : Same H (upd H5 p6 (.tup (ns.map V.int))) := same_upd (((s2.trans s3).trans (same_upd (Same.refl _) hp4)).trans s5) hp6
          have pr : ∀ l : List Int, Paired (ItAt (upd H5 p6 (.tup (ns.map V.int)))) (l.map V.int) (l.map fun n => .inl (V.int n)) := fun l => by
            induction l with
            | nil => exact .nil
            | cons a r ih => exact .cons rfl ih
          refine .inr (.inr (.inr ⟨p4, p6, [vS x0], ns.map V.int, rfl, rfl, SqT.of h6, SqT.of upd_same, by rw [List.length_map]; exact Nat.le_trans (Nat.add_le_add_left hl2 _) (by show 1 + 2 ≤ sizeLine; decide), fun e => absurd e (by simp), fun _ e => ?_, fun _ _ p7 hp7 => ?_⟩))
          · have e0 : ns = [] := List.map_eq_nil_iff.mp e
            subst e0
            exact k p4 _ s6 ⟨_, h6, .cons rfl .nil⟩
          · exact k p7 _ (same_upd s6 hp7) ⟨_, upd_same, Paired.mapP (.cons rfl (pr ns)) fun _ _ q => ItAt.same (same_upd (Same.refl _) hp7) q⟩
end
end Toy

set_option Elab.async false
set_option linter.all false
set_option maxRecDepth 100000
set_option maxHeartbeats 4000000
namespace Toy
open PySem PySem.Spec PyProof.Rows L2 Lt
local macro_rules
  | `(tactic| walk_at "get") => `(tactic| first
    | assumption
    | exact upd_same
    | ((with_reducible refine' get_new ?g1 ?g2); (case g1 => assumption); (case g2 => walk_at "get"))
    | ((with_reducible refine' get_ne ?g1 ?g2); (case g1 => assumption); (case g2 => walk_at "get"))
    | ((with_reducible refine' get_dif ?g1 ?g2 ?g3); (case g1 => walk_at "get"); (case g2 => walk_at "get"); (case g3 => (intro z; cases z)))
    | (refine' (by assumption : Same _ _) _ _ ?g1; (case g1 => walk_at "get")))
local macro_rules
  | `(tactic| walk_at "cls") => `(tactic| first | assumption)
local macro_rules
  | `(tactic| walk_at "sq") => `(tactic| first
    | assumption
    | exact SqL.of (by walk_at "get")
    | exact SqT.of (by walk_at "get")
    | exact FzT.sq (by assumption)
    | exact Same.seq (by assumption) (by assumption))
local macro_rules
  | `(tactic| walk_at "st") => `(tactic| first
    | with_reducible refine s_seq ?_
    | with_reducible refine s_cons ?_
    | with_reducible refine s_nil ?_
    | ((with_reducible refine' s_var ?g1 ?g2); (case g1 => rfl))
    | with_reducible refine s_c ?_
    | with_reducible refine s_op ?_
    | with_reducible refine s_addI ?_
    | with_reducible refine s_i0 ?_
    | with_reducible refine s_ret ?_
    | with_reducible refine s_retN ?_
    | with_reducible refine s_drop ?_
    | with_reducible refine s_next ?_
    | with_reducible refine s_ifs ?_
    | with_reducible refine s_asg ?_
    | with_reducible refine s_gname ?_
    | with_reducible refine s_gnil ?_
    | with_reducible refine s_gcons ?_
    | with_reducible refine s_gsub ?_
    | with_reducible refine s_un ?_
    | with_reducible refine s_cb ?_
    | with_reducible refine s_call ?_
    | with_reducible refine s_meth ?_
    | ((with_reducible refine' s_meth2 ?g1 ?g2 ?g3); (case g1 => walk_at "get"); (case g2 => rfl))
    | with_reducible refine s_test ?_
    | with_reducible refine s_tb ?_
    | with_reducible refine s_exbl ?_
    | with_reducible refine s_exint ?_
    | with_reducible refine s_and ?_
    | with_reducible refine s_or ?_
    | with_reducible refine s_not ?_
    | with_reducible refine s_andV ?_
    | with_reducible refine s_orV ?_
    | with_reducible refine s_notV ?_
    | with_reducible refine s_ifx ?_
    | with_reducible refine s_yes ?_
    | with_reducible refine s_tup ?_
    | with_reducible refine s_lst ?_
    | with_reducible refine s_fld ?_
    | ((with_reducible refine' s_fld2 ?g1 ?g2 ?g3 ?g4 ?g5); (case g1 => walk_at "get"); (case g2 => walk_at "cls"); (case g3 => walk_at "cls"); (case g4 => rfl))
    | with_reducible refine s_sfld ?_
    | with_reducible refine s_sl ?_
    | with_reducible refine s_nopart ?_
    | with_reducible refine s_part ?_
    | with_reducible refine s_for ?_
    | with_reducible refine s_ilist ?_
    | with_reducible refine s_itup ?_
    | with_reducible refine s_irng1 ?_
    | with_reducible refine s_bm ?_
    | with_reducible refine s_bm0 ?_
    | with_reducible refine s_dget ?_
    | with_reducible refine s_din ?_
    | with_reducible refine s_dnotin ?_
    | with_reducible refine s_dput ?_
    | with_reducible refine s_dget2 ?_
    | with_reducible refine s_dget1 ?_
    | with_reducible refine s_eqI ?_
    | with_reducible refine s_eqS ?_
    | with_reducible refine s_neI ?_
    | with_reducible refine s_neB ?_
    | with_reducible refine s_neS ?_
    | with_reducible refine s_ltI ?_
    | with_reducible refine s_isN ?_
    | with_reducible refine s_isNotN ?_
    | with_reducible refine s_chain ?_
    | with_reducible refine s_make ?_
    | with_reducible refine s_irng2 ?_
    | with_reducible refine s_intI ?_
    | with_reducible refine s_intB ?_
    | ((with_reducible refine' s_mod ?g1 ?g2); (case g1 => omega))
    | ((with_reducible refine' s_fdiv ?g1 ?g2); (case g1 => omega))
    | ((with_reducible refine' s_pow ?g1 ?g2); (case g1 => omega))
    | with_reducible refine s_dc ?_
    | with_reducible refine s_lc ?_
    | with_reducible refine s_iitems ?_
    | with_reducible refine s_ikeys ?_
    | ((with_reducible refine' s_sfld2 ?g1 ?g2 ?g3 ?g4 ?g5); (case g1 => walk_at "get"); (case g2 => walk_at "cls"); (case g3 => walk_at "cls"); (case g4 => exact len1000 rfl))
    | with_reducible refine s_ex2 ?_
    | with_reducible refine s_dnew ?_
    | with_reducible refine s_istr ?_
    | with_reducible refine s_exstr ?_
    | with_reducible refine s_inSg ?_
    | with_reducible refine s_notInSg ?_
    | with_reducible refine s_slb ?_
    | with_reducible refine s_m1 ?_
    | with_reducible refine s_strS ?_
    | with_reducible refine s_kget2 ?_
    | with_reducible refine s_neg ?_
    | ((with_reducible refine' s_ifT ?g1 ?g2); (case g1 => rfl))
    | ((with_reducible refine' s_ifF ?g1 ?g2); (case g1 => rfl))
    | with_reducible refine s_isi_non_int ?_
    | with_reducible refine s_isi_non_bool ?_
    | with_reducible refine s_isi_non_str ?_
    | with_reducible refine s_isi_non_tuple ?_
    | with_reducible refine s_isi_non_list ?_
    | with_reducible refine s_isi_bl_int ?_
    | with_reducible refine s_isi_bl_bool ?_
    | with_reducible refine s_isi_bl_str ?_
    | with_reducible refine s_isi_bl_tuple ?_
    | with_reducible refine s_isi_bl_list ?_
    | with_reducible refine s_isi_int_int ?_
    | with_reducible refine s_isi_int_bool ?_
    | with_reducible refine s_isi_int_str ?_
    | with_reducible refine s_isi_int_tuple ?_
    | with_reducible refine s_isi_int_list ?_
    | with_reducible refine s_isi_str_int ?_
    | with_reducible refine s_isi_str_bool ?_
    | with_reducible refine s_isi_str_str ?_
    | with_reducible refine s_isi_str_tuple ?_
    | with_reducible refine s_isi_str_list ?_
    | ((with_reducible refine' s_isi_tup_int ?g1 ?g2); (case g1 => walk_at "get"))
    | ((with_reducible refine' s_isi_tup_bool ?g1 ?g2); (case g1 => walk_at "get"))
    | ((with_reducible refine' s_isi_tup_str ?g1 ?g2); (case g1 => walk_at "get"))
    | ((with_reducible refine' s_isi_tup_tuple ?g1 ?g2); (case g1 => walk_at "get"))
    | ((with_reducible refine' s_isi_tup_list ?g1 ?g2); (case g1 => walk_at "get"))
    | ((with_reducible refine' s_isi_lst_int ?g1 ?g2); (case g1 => walk_at "get"))
    | ((with_reducible refine' s_isi_lst_bool ?g1 ?g2); (case g1 => walk_at "get"))
    | ((with_reducible refine' s_isi_lst_str ?g1 ?g2); (case g1 => walk_at "get"))
    | ((with_reducible refine' s_isi_lst_tuple ?g1 ?g2); (case g1 => walk_at "get"))
    | ((with_reducible refine' s_isi_lst_list ?g1 ?g2); (case g1 => walk_at "get"))
    | ((with_reducible refine' s_isi_dK_int ?g1 ?g2); (case g1 => walk_at "get"))
    | ((with_reducible refine' s_isi_dK_bool ?g1 ?g2); (case g1 => walk_at "get"))
    | ((with_reducible refine' s_isi_dK_str ?g1 ?g2); (case g1 => walk_at "get"))
    | ((with_reducible refine' s_isi_dK_tuple ?g1 ?g2); (case g1 => walk_at "get"))
    | ((with_reducible refine' s_isi_dK_list ?g1 ?g2); (case g1 => walk_at "get")))
local macro_rules
  | `(tactic| walk_at "go") => `(tactic| (repeat walk_at "st"))

section
variable {P : Program} {w : World} {K : PySem.W.Frag} {mg : Str → Option Value} {base : Heap} {A : Adr}
theorem log_ok {n : Int} (h : NumOk n) : n.natAbs.log2 < 1920 := by
  have h1 : n.natAbs < 2 ^ 200 := Nat.lt_trans h (by decide)
  by_cases c : n.natAbs = 0
  · rw [c]; decide
  · have := (Nat.log2_lt c).mpr h1
    omega
theorem str_fig (n : Int) : V.str (Str.ofString (toString n)) = vS (figL n) := by rw [figL_show]
def StrOf (x : V) (l : List Nat) : Prop := (∃ n, x = .int n ∧ NumOk n ∧ l = figL n) ∨ x = vS l
theorem s_str3 {x : V} {l : List Nat} {H : Hp} {Q : VK} (h : StrOf x l) (q : Q (vS l) H) : rStr3 [x] H Q := by
  rcases h with ⟨n, rfl, hn, rfl⟩ | rfl
  · refine s_strI (log_ok hn) ?_
    rw [str_fig]
    exact q
  · exact s_strS q
theorem strs_at {xs : List V} {ws : List (List Nat)} (h : Paired StrOf xs ws) {n : Nat} {x y : V} (hx : xs[n]? = some x) (hy : (vSs ws)[n]? = some y) : ∃ l, StrOf x l ∧ y = vS l := by
  obtain ⟨l, hl, q⟩ := (pairAll h).2 _ _ hx
  rw [List.getElem?_map, hl] at hy
  exact ⟨l, q, (Option.some.inj hy).symm⟩
theorem same_mut {H H' : Hp} {p : Addr} {u : HO} (s : Same H H') (n : H p = none) : Same H (upd H' p u) := fun b o e => by
  rw [upd_ne (ne_of_none e n)]
  exact s _ _ e
theorem partsF {xs : List V} (hl : xs.length ≤ 900) (h : ∀ x ∈ xs, (∃ m, x = .int m ∧ NumOk m) ∨ x = .non) : xs.length ≤ 900 ∧ ∀ x ∈ xs, (∃ m, x = .int m ∧ NumOk m) ∨ x = .non := ⟨hl, h⟩
def strG : V → Option V
  | .int m => some (vS (figL m))
  | _ => none
theorem strG_nums (ns : List Int) : (ns.map V.int).filterMap strG = vSs (ns.map figL) := by
  induction ns with
  | nil => rfl
  | cons a r ih =>
    show vS (figL a) :: (r.map V.int).filterMap strG = _
    rw [ih]
    rfl
theorem pairsI : ∀ as : List Int, (∀ a ∈ as, NumOk a) → Paired StrOf (as.map V.int) (as.map figL)
  | [], _ => .nil
  | m :: r, h => .cons (.inl ⟨m, rfl, h m (by simp), rfl⟩) (pairsI r fun x hx => h x (List.mem_cons_of_mem _ hx))
theorem paired_ints {H : Hp} : ∀ {xs : List V} {ns : List Int}, Paired (ItAt H) xs (ns.map fun n => .inl (V.int n)) → xs = ns.map V.int := fun {xs ns} h => by
  induction ns generalizing xs with
  | nil => cases h; rfl
  | cons a r ih =>
    cases h with
    | cons i h =>
      cases i
      rw [ih h]
      rfl
theorem numWords_show : ∀ p ∈ numWords, sOf p.1 ≠ Str.ofString "write" ∧ sOf p.1 ≠ Str.ofString "read" ∧ sOf p.1 ≠ Str.ofString "takeover" := by decide +kernel
def spShow : Sp := fun vs H Q _ => ∃ (a : Addr) (d : Deed), vs = [.ref a] ∧ d.Ok ∧ DeedAt H a d.items ∧ ∀ H', Same H H' → Q (vS d.line) H'
theorem c_show_line (T : Txt w K mg A) : C8.Cal P w K mg base 1 "show_line" spShow [] := by
  obtain ⟨f, fd, D, B⟩ := T.d_show_line
  refine C8.cal0 D B .nil sc_show_line (fun vs H Q E h => ?_) (fun cdv A' outer s H vs Q E hr h => ?_)
  · obtain ⟨a, d, rfl, _⟩ := h
    rfl
  · obtain ⟨a, d, rfl, hok, ⟨xs, ha, pr⟩, k⟩ := h
    have hu := hr.units
    have hu1 := hu_of hr
    have nd := sc_show_line.nd
    refine ⟨_, (pss_cons (ps_asg (pv 0) (kg_star K rfl (pgs_cons (pg_name (i := 1) nd rfl (Or.inl rfl)) (pgs_cons (pg_name (i := 2) nd rfl (Or.inl rfl)) pgs_nil))))
      (pss_cons (ps_set (i := 3) nd rfl (Or.inl rfl) (pe_lst (pa_cons (pv 1) pa_nil)))
      (pss_cons (ps_if (pt_cmpR (k_eq K hu) (pv 1) pe_str (nomark _)) (pss_cons (ps_asg (pv 2) (kg_lst K (n := 2) rfl (pgs_cons (pg_name (i := 4) nd rfl (Or.inl rfl)) (pgs_cons (pg_name (i := 5) nd rfl (Or.inl rfl)) pgs_nil))))
      (pss_one (ps_expr (k_bm K PySem.F.plainAttrs_list PySem.F.slot_list_extend PySem.F.type_list_extend mt_extend (pv 3) (pa_cons (pe_op (k_add K) (pe_lst (pa_cons (pe_callTy call_str3 (by rfl) T.b_str (by decide +kernel) (pa_cons (pv 4) pa_nil)) pa_nil)) (pe_lc (own := [("part", 6)]) rfl nd (ki_tup K (pv 5)) (blkOk_by (N := ["deed", "word", "parts", "words", "house", "row", "part", "asked", "forced", "other", "key", "at"]) (sc := C8.fnScope s_show_line) (own := [("part", 6)]) (by decide +kernel)) (fun _ _ _ _ _ => (pg_name (i := 6) nd rfl (Or.inl rfl))) (fun _ _ _ _ _ => pts_nil) (fun _ _ _ _ _ => (pe_callTy call_str3 (by rfl) T.b_str (by decide +kernel) (pa_cons (pv 6) pa_nil))))) pa_nil))))) (pss_one (ps_if (pt_cmpR (k_eq K hu) (pv 1) pe_str (nomark _)) (pss_cons (ps_asg (pv 2) (kg_lst K (n := 3) rfl (pgs_cons (pg_name (i := 4) nd rfl (Or.inl rfl)) (pgs_cons (pg_name (i := 7) nd rfl (Or.inl rfl)) (pgs_cons (pg_name (i := 8) nd rfl (Or.inl rfl)) pgs_nil)))))
      (pss_one (ps_set (i := 3) nd rfl (Or.inl rfl) (pe_op (k_add K) (pe_lst (pa_cons (pe_ix (k_ixB K) (pe_tup (pa_cons pe_str (pa_cons pe_str pa_nil))) (pv 8) (fun _ _ => rfl)) (pa_cons (pe_callTy call_str3 (by rfl) T.b_str (by decide +kernel) (pa_cons (pv 4) pa_nil)) pa_nil))) (pe_lc (own := [("other", 9)]) rfl nd (ki_tup K (pv 7)) (blkOk_by (N := ["deed", "word", "parts", "words", "house", "row", "part", "asked", "forced", "other", "key", "at"]) (sc := C8.fnScope s_show_line) (own := [("other", 9)]) (by decide +kernel)) (fun _ _ _ _ _ => (pg_name (i := 9) nd rfl (Or.inl rfl))) (fun _ _ _ _ _ => pts_nil) (fun _ _ _ _ _ => (pe_callTy call_str3 (by rfl) T.b_str (by decide +kernel) (pa_cons (pv 9) pa_nil)))))))) (pss_one (ps_if (pt_cmpR (k_eq K hu) (pv 1) pe_str (nomark _)) (pss_cons (ps_asg (pv 2) (kg_lst K (n := 3) rfl (pgs_cons (pg_name (i := 4) nd rfl (Or.inl rfl)) (pgs_cons (pg_name (i := 10) nd rfl (Or.inl rfl)) (pgs_cons (pg_name (i := 11) nd rfl (Or.inl rfl)) pgs_nil)))))
      (pss_cons (ps_expr (k_bm K PySem.F.plainAttrs_list PySem.F.slot_list_extend PySem.F.type_list_extend mt_extend (pv 3) (pa_cons (pe_lst (pa_cons (pe_callTy call_str3 (by rfl) T.b_str (by decide +kernel) (pa_cons (pv 4) pa_nil)) (pa_cons (pv 10) pa_nil))) pa_nil)))
      (pss_one (ps_if (pt_cmpR op_isnot3 (pv 11) pe_non (nomark _)) (pss_one (ps_expr (k_bm K PySem.F.plainAttrs_list PySem.F.slot_list_extend PySem.F.type_list_extend mt_extend (pv 3) (pa_cons (pe_lst (pa_cons pe_str (pa_cons (pe_callTy call_str3 (by rfl) T.b_str (by decide +kernel) (pa_cons (pv 11) pa_nil)) pa_nil))) pa_nil)))) pss_nil)))) (pss_one (ps_expr (k_bm K PySem.F.plainAttrs_list PySem.F.slot_list_extend PySem.F.type_list_extend mt_extend (pv 3) (pa_cons (pe_lc (own := [("part", 6)]) rfl nd (ki_list K (pv 2)) (blkOk_by (N := ["deed", "word", "parts", "words", "house", "row", "part", "asked", "forced", "other", "key", "at"]) (sc := C8.fnScope s_show_line) (own := [("part", 6)]) (by decide +kernel)) (fun _ _ _ _ _ => (pg_name (i := 6) nd rfl (Or.inl rfl))) (fun _ _ _ _ _ => pts_one (pt_cmpR op_isnot3 (pv 6) pe_non (nomark _))) (fun _ _ _ _ _ => (pe_callTy call_str3 (by rfl) T.b_str (by decide +kernel) (pa_cons (pv 6) pa_nil)))) pa_nil)))))))))
      (pss_one (ps_ret (pe_join pe_str (pv 3))))))), ?_⟩
    refine (start_of (σ := [some (.ref a), none, none, none, none, none, none, none, none, none, none, none]) rfl ?_)
    have fin : ∀ (H' : Hp) (p : Addr) (ws : List (List Nat)), Same H H' → H' p = some (.lst (vSs ws)) → ws = d.words → ∃ a p_1 ys, V.str (Str.ofString " ") = V.str a ∧ [V.ref p] = [V.ref p_1] ∧ (SqL K H' p_1 (ys.map V.str) ∨ SqT K H' p_1 (ys.map V.str)) ∧ (ys.map (·.length)).sum + ys.length * a.length ≤ 16777216 ∧ Q (.str (Txt.join a ys)) H' := by
      intro H' p ws s' hp e
      subst e
      obtain ⟨w0, w32, wl, wx⟩ := words_ok hok
      refine ⟨_, p, d.words.map sOf, rfl, rfl, .inl (SqL.of (by rw [hp, List.map_map]; rfl)), ?_, ?_⟩
      · have hsum : ∀ l : List (List Nat), (∀ x ∈ l, x.length ≤ 61) → ((l.map sOf).map (·.length)).sum ≤ 61 * l.length := fun l h => by
          induction l with
          | nil => simp
          | cons a r ih =>
            have h1 := h a (by simp)
            have h2 := ih fun x hx => h x (List.mem_cons_of_mem _ hx)
            rw [List.map_cons, List.map_cons, List.sum_cons, len_sOf, List.length_cons]
            omega
        have h1 := hsum d.words wx
        rw [List.length_map, show (Str.ofString " ").length = 1 from by decide +kernel]
        omega
      · rw [join_line]
        exact k _ s'
    cases d with
    | cut h key =>
      cases pr with
      | cons i1 pr =>
      cases pr with
      | cons i2 pr =>
      cases pr with
      | cons i3 pr =>
      cases pr with
      | nil =>
      cases i1
      cases i2
      obtain ⟨q, rfl, hq⟩ := i3
      walk_at "go"
      refine s_gstar (.inr (SqT.of ha)) fun p1 hp1 => ?_
      walk_at "go"
      refine ⟨by show 1 ≤ sizeLine; decide, fun p2 hp2 => ?_⟩
      have n2 : H p2 = none := (same_upd (Same.refl _) hp1).free hp2
      have h2 : upd (upd H p1 (.lst [V.int h, .ref q])) p2 (.lst [vS (wd "write")]) p2 = some (.lst [vS (wd "write")]) := upd_same
      have h1 : upd (upd H p1 (.lst [V.int h, .ref q])) p2 (.lst [vS (wd "write")]) p1 = some (.lst [V.int h, .ref q]) := get_new hp2 upd_same
      have s2 : Same H (upd (upd H p1 (.lst [V.int h, .ref q])) p2 (.lst [vS (wd "write")])) := same_upd (same_upd (Same.refl _) hp1) hp2
      generalize upd (upd H p1 (.lst [V.int h, .ref q])) p2 (.lst [vS (wd "write")]) = H2 at h1 h2 s2 ⊢
      have hq2 := s2 _ _ hq
      walk_at "go"
      refine s_glst (SqL.of h1) rfl ?_
      walk_at "go"
      refine ⟨.inl ⟨rfl, _, SqL.of h2⟩, ?_⟩
      walk_at "go"
      refine s_str3 (.inl ⟨h, rfl, hok.1, rfl⟩) ?_
      walk_at "go"
      refine ⟨by show 1 ≤ sizeLine; decide, fun p3 hp3 => ?_⟩
      walk_at "go"
      have hq3 := get_new (u := .lst [vS (figL h)]) hp3 hq2
      have pw : Paired StrOf [vS (wd "cut"), vS key] [wd "cut", key] := .cons (.inr rfl) (.cons (.inr rfl) .nil)
      refine s_itup2 (SqT.of hq3) fun D hD => lc_T (ys := vSs [wd "cut", key]) (SqT.of hq3) rfl (by show 2 ≤ 900; decide) hD (fun _ => rfl) (fun n x y H1 Q hx hy s1 re => ?_) (fun H5 s5 h5 => ?_)
      · walk_at "go"
        obtain ⟨l, q1, rfl⟩ := strs_at pw hx hy
        exact s_str3 q1 (re _ (Same.refl _))
      · walk_at "go"
        refine s_addL (s5 _ _ upd_same) h5 (by show 1 + 2 ≤ sizeLine; decide) fun p6 hp6 => ?_
        walk_at "go"
        have h2' := get_new (u := .lst ([vS (figL h)] ++ vSs [wd "cut", key])) hp6 (s5 _ _ (get_new (u := .lst [vS (figL h)]) hp3 h2))
        refine ⟨p2, p6, _, _, rfl, rfl, h2', upd_same, by show 1 + (1 + 2) ≤ sizeLine; decide, ?_⟩
        walk_at "go"
        refine ⟨⟨_, rfl⟩, ?_⟩
        walk_at "go"
        exact fin _ _ ([wd "write", figL h] ++ [wd "cut", key]) (same_mut (same_upd ((s2.trans (same_upd (Same.refl _) hp3)).trans s5) hp6) n2) upd_same rfl
    | put h key v =>
      cases pr with
      | cons i1 pr =>
      cases pr with
      | cons i2 pr =>
      cases pr with
      | cons i3 pr =>
      cases pr with
      | nil =>
      cases i1
      cases i2
      obtain ⟨q, rfl, hq⟩ := i3
      walk_at "go"
      refine s_gstar (.inr (SqT.of ha)) fun p1 hp1 => ?_
      walk_at "go"
      refine ⟨by show 1 ≤ sizeLine; decide, fun p2 hp2 => ?_⟩
      have n2 : H p2 = none := (same_upd (Same.refl _) hp1).free hp2
      have h2 : upd (upd H p1 (.lst [V.int h, .ref q])) p2 (.lst [vS (wd "write")]) p2 = some (.lst [vS (wd "write")]) := upd_same
      have h1 : upd (upd H p1 (.lst [V.int h, .ref q])) p2 (.lst [vS (wd "write")]) p1 = some (.lst [V.int h, .ref q]) := get_new hp2 upd_same
      have s2 : Same H (upd (upd H p1 (.lst [V.int h, .ref q])) p2 (.lst [vS (wd "write")])) := same_upd (same_upd (Same.refl _) hp1) hp2
      generalize upd (upd H p1 (.lst [V.int h, .ref q])) p2 (.lst [vS (wd "write")]) = H2 at h1 h2 s2 ⊢
      have hq2 := s2 _ _ hq
      walk_at "go"
      refine s_glst (SqL.of h1) rfl ?_
      walk_at "go"
      refine ⟨.inl ⟨rfl, _, SqL.of h2⟩, ?_⟩
      walk_at "go"
      refine s_str3 (.inl ⟨h, rfl, hok.1, rfl⟩) ?_
      walk_at "go"
      refine ⟨by show 1 ≤ sizeLine; decide, fun p3 hp3 => ?_⟩
      walk_at "go"
      have hq3 := get_new (u := .lst [vS (figL h)]) hp3 hq2
      have pw : Paired StrOf [vS (wd "set"), vS key, .int v] [wd "set", key, figL v] := .cons (.inr rfl) (.cons (.inr rfl) (.cons (.inl ⟨v, rfl, hok.2.2, rfl⟩) .nil))
      refine s_itup2 (SqT.of hq3) fun D hD => lc_T (ys := vSs [wd "set", key, figL v]) (SqT.of hq3) rfl (by show 3 ≤ 900; decide) hD (fun _ => rfl) (fun n x y H1 Q hx hy s1 re => ?_) (fun H5 s5 h5 => ?_)
      · walk_at "go"
        obtain ⟨l, q1, rfl⟩ := strs_at pw hx hy
        exact s_str3 q1 (re _ (Same.refl _))
      · walk_at "go"
        refine s_addL (s5 _ _ upd_same) h5 (by show 1 + 3 ≤ sizeLine; decide) fun p6 hp6 => ?_
        walk_at "go"
        have h2' := get_new (u := .lst ([vS (figL h)] ++ vSs [wd "set", key, figL v])) hp6 (s5 _ _ (get_new (u := .lst [vS (figL h)]) hp3 h2))
        refine ⟨p2, p6, _, _, rfl, rfl, h2', upd_same, by show 1 + (1 + 3) ≤ sizeLine; decide, ?_⟩
        walk_at "go"
        refine ⟨⟨_, rfl⟩, ?_⟩
        walk_at "go"
        exact fin _ _ ([wd "write", figL h] ++ [wd "set", key, figL v]) (same_mut (same_upd ((s2.trans (same_upd (Same.refl _) hp3)).trans s5) hp6) n2) upd_same rfl
    | read h key =>
      cases pr with
      | cons i1 pr =>
      cases pr with
      | cons i2 pr =>
      cases pr with
      | cons i3 pr =>
      cases pr with
      | cons i4 pr =>
      cases pr with
      | nil =>
      cases i1
      cases i2
      cases i3
      cases i4
      walk_at "go"
      refine s_gstar (.inr (SqT.of ha)) fun p1 hp1 => ?_
      walk_at "go"
      refine ⟨by show 1 ≤ sizeLine; decide, fun p2 hp2 => ?_⟩
      have n2 : H p2 = none := (same_upd (Same.refl _) hp1).free hp2
      have h2 : upd (upd H p1 (.lst [V.int h, vS key, .non])) p2 (.lst [vS (wd "read")]) p2 = some (.lst [vS (wd "read")]) := upd_same
      have h1 : upd (upd H p1 (.lst [V.int h, vS key, .non])) p2 (.lst [vS (wd "read")]) p1 = some (.lst [V.int h, vS key, .non]) := get_new hp2 upd_same
      have s2 : Same H (upd (upd H p1 (.lst [V.int h, vS key, .non])) p2 (.lst [vS (wd "read")])) := same_upd (same_upd (Same.refl _) hp1) hp2
      generalize upd (upd H p1 (.lst [V.int h, vS key, .non])) p2 (.lst [vS (wd "read")]) = H2 at h1 h2 s2 ⊢
      walk_at "go"
      refine s_glst (SqL.of h1) rfl ?_
      walk_at "go"
      refine ⟨.inl ⟨rfl, _, SqL.of h2⟩, ?_⟩
      walk_at "go"
      refine s_str3 (.inl ⟨h, rfl, hok.1, rfl⟩) ?_
      walk_at "go"
      refine ⟨by show 2 ≤ sizeLine; decide, fun p3 hp3 => ?_⟩
      walk_at "go"
      refine ⟨p2, p3, _, _, rfl, rfl, get_new hp3 h2, upd_same, by show 1 + 2 ≤ sizeLine; decide, ?_⟩
      have s3 := same_mut (u := .lst ([vS (wd "read")] ++ [vS (figL h), vS key])) (same_upd (u := .lst [vS (figL h), vS key]) s2 hp3) n2
      walk_at "go"
      refine ⟨⟨_, rfl⟩, ?_⟩
      walk_at "go"
      exact fin _ _ [wd "read", figL h, key] s3 upd_same rfl
    | readAt h key t0 =>
      cases pr with
      | cons i1 pr =>
      cases pr with
      | cons i2 pr =>
      cases pr with
      | cons i3 pr =>
      cases pr with
      | cons i4 pr =>
      cases pr with
      | nil =>
      cases i1
      cases i2
      cases i3
      cases i4
      walk_at "go"
      refine s_gstar (.inr (SqT.of ha)) fun p1 hp1 => ?_
      walk_at "go"
      refine ⟨by show 1 ≤ sizeLine; decide, fun p2 hp2 => ?_⟩
      have n2 : H p2 = none := (same_upd (Same.refl _) hp1).free hp2
      have h2 : upd (upd H p1 (.lst [V.int h, vS key, .int t0])) p2 (.lst [vS (wd "read")]) p2 = some (.lst [vS (wd "read")]) := upd_same
      have h1 : upd (upd H p1 (.lst [V.int h, vS key, .int t0])) p2 (.lst [vS (wd "read")]) p1 = some (.lst [V.int h, vS key, .int t0]) := get_new hp2 upd_same
      have s2 : Same H (upd (upd H p1 (.lst [V.int h, vS key, .int t0])) p2 (.lst [vS (wd "read")])) := same_upd (same_upd (Same.refl _) hp1) hp2
      generalize upd (upd H p1 (.lst [V.int h, vS key, .int t0])) p2 (.lst [vS (wd "read")]) = H2 at h1 h2 s2 ⊢
      walk_at "go"
      refine s_glst (SqL.of h1) rfl ?_
      walk_at "go"
      refine ⟨.inl ⟨rfl, _, SqL.of h2⟩, ?_⟩
      walk_at "go"
      refine s_str3 (.inl ⟨h, rfl, hok.1, rfl⟩) ?_
      walk_at "go"
      refine ⟨by show 2 ≤ sizeLine; decide, fun p3 hp3 => ?_⟩
      walk_at "go"
      refine ⟨p2, p3, _, _, rfl, rfl, get_new hp3 h2, upd_same, by show 1 + 2 ≤ sizeLine; decide, ?_⟩
      have s3 := same_mut (u := .lst ([vS (wd "read")] ++ [vS (figL h), vS key])) (same_upd (u := .lst [vS (figL h), vS key]) s2 hp3) n2
      walk_at "go"
      generalize hH3 : upd (upd H2 p3 (.lst [vS (figL h), vS key])) p2 (.lst ([vS (wd "read")] ++ [vS (figL h), vS key])) = H3 at s3 ⊢
      have h3 : H3 p2 = some (.lst ([vS (wd "read")] ++ [vS (figL h), vS key])) := by rw [← hH3]; exact upd_same
      refine ⟨.inl ⟨rfl, _, SqL.of h3⟩, ?_⟩
      walk_at "go"
      refine s_str3 (.inl ⟨t0, rfl, hok.2.2, rfl⟩) ?_
      walk_at "go"
      refine ⟨by show 2 ≤ sizeLine; decide, fun p4 hp4 => ?_⟩
      walk_at "go"
      refine ⟨p2, p4, _, _, rfl, rfl, get_new hp4 h3, upd_same, by show 3 + 2 ≤ sizeLine; decide, ?_⟩
      walk_at "go"
      refine ⟨⟨_, rfl⟩, ?_⟩
      walk_at "go"
      refine fin _ _ [wd "read", figL h, key, wd "at", figL t0] (same_mut (same_upd s3 hp4) n2) (upd_same.trans ?_) rfl
      rw [show V.str (Str.ofString "at") = vS (wd "at") from by rw [wd_of]]
      rfl
    | take h as fo =>
      cases pr with
      | cons i1 pr =>
      cases pr with
      | cons i2 pr =>
      cases pr with
      | cons i3 pr =>
      cases pr with
      | cons i4 pr =>
      cases pr with
      | nil =>
      cases i1
      cases i2
      obtain ⟨q, rfl, hq⟩ := i3
      cases i4
      walk_at "go"
      refine s_gstar (.inr (SqT.of ha)) fun p1 hp1 => ?_
      walk_at "go"
      refine ⟨by show 1 ≤ sizeLine; decide, fun p2 hp2 => ?_⟩
      have n2 : H p2 = none := (same_upd (Same.refl _) hp1).free hp2
      have h2 : upd (upd H p1 (.lst [V.int h, .ref q, .bl fo])) p2 (.lst [vS (wd "takeover")]) p2 = some (.lst [vS (wd "takeover")]) := upd_same
      have h1 : upd (upd H p1 (.lst [V.int h, .ref q, .bl fo])) p2 (.lst [vS (wd "takeover")]) p1 = some (.lst [V.int h, .ref q, .bl fo]) := get_new hp2 upd_same
      have s2 : Same H (upd (upd H p1 (.lst [V.int h, .ref q, .bl fo])) p2 (.lst [vS (wd "takeover")])) := same_upd (same_upd (Same.refl _) hp1) hp2
      generalize upd (upd H p1 (.lst [V.int h, .ref q, .bl fo])) p2 (.lst [vS (wd "takeover")]) = H2 at h1 h2 s2 ⊢
      have hq2 := s2 _ _ hq
      walk_at "go"
      refine s_glst (SqL.of h1) rfl ?_
      walk_at "go"
      refine ⟨by show 2 ≤ sizeLine; decide, fun p3 hp3 => ?_⟩
      walk_at "go"
      refine s_ixB (SqT.of upd_same) (v := vS (if fo = true then wd "force" else wd "takeover")) (by cases fo <;> (simp only [wd_of]; rfl)) ?_
      walk_at "go"
      refine s_str3 (.inl ⟨h, rfl, hok.1, rfl⟩) ?_
      walk_at "go"
      refine ⟨by show 2 ≤ sizeLine; decide, fun p4 hp4 => ?_⟩
      walk_at "go"
      have hq4 := get_new (u := .lst [vS (if fo = true then wd "force" else wd "takeover"), vS (figL h)]) hp4 (get_new (u := .tup [V.str (Str.ofString "takeover"), V.str (Str.ofString "force")]) hp3 hq2)
      have pw := pairsI as hok.2.1
      have hl6 := hok.2.2
      refine s_itup2 (SqT.of hq4) fun D hD => lc_T (ys := vSs (as.map figL)) (SqT.of hq4) (by simp) (by rw [List.length_map, List.length_map]; omega) hD (fun _ => rfl) (fun n x y H1 Q hx hy s1 re => ?_) (fun H5 s5 h5 => ?_)
      · walk_at "go"
        obtain ⟨l, q1, rfl⟩ := strs_at pw hx hy
        exact s_str3 q1 (re _ (Same.refl _))
      · walk_at "go"
        refine s_addL (s5 _ _ upd_same) h5 (by rw [List.length_map, List.length_map]; exact Nat.le_trans (Nat.add_le_add_left hl6 _) (by show 2 + 6 ≤ sizeLine; decide)) fun p6 hp6 => ?_
        walk_at "go"
        refine ⟨⟨_, rfl⟩, ?_⟩
        walk_at "go"
        exact fin _ _ ((if fo = true then wd "force" else wd "takeover") :: figL h :: as.map figL) (same_upd (((s2.trans (same_upd (Same.refl _) hp3)).trans (same_upd (Same.refl _) hp4)).trans s5) hp6) upd_same rfl
    | apply1 h =>
      cases pr with
      | cons i1 pr =>
      cases pr with
      | cons i2 pr =>
      cases pr with
      | cons i3 pr =>
      cases pr with
      | nil =>
      cases i1
      cases i2
      cases i3
      walk_at "go"
      refine s_gstar (.inr (SqT.of ha)) fun p1 hp1 => ?_
      walk_at "go"
      refine ⟨by show 1 ≤ sizeLine; decide, fun p2 hp2 => ?_⟩
      have n2 : H p2 = none := (same_upd (Same.refl _) hp1).free hp2
      have h2 : upd (upd H p1 (.lst [V.int h, .non])) p2 (.lst [vS (wd "apply")]) p2 = some (.lst [vS (wd "apply")]) := upd_same
      have h1 : upd (upd H p1 (.lst [V.int h, .non])) p2 (.lst [vS (wd "apply")]) p1 = some (.lst [V.int h, .non]) := get_new hp2 upd_same
      have s2 : Same H (upd (upd H p1 (.lst [V.int h, .non])) p2 (.lst [vS (wd "apply")])) := same_upd (same_upd (Same.refl _) hp1) hp2
      generalize upd (upd H p1 (.lst [V.int h, .non])) p2 (.lst [vS (wd "apply")]) = H2 at h1 h2 s2 ⊢
      have pf := partsF (xs := [V.int h, .non]) (by show 2 ≤ 900; decide) (fun x hx => by
        rcases List.mem_cons.mp hx with rfl | hx
        · exact .inl ⟨h, rfl, hok⟩
        · exact .inr (List.mem_singleton.mp hx))
      walk_at "go"
      refine ⟨.inl ⟨rfl, _, SqL.of h2⟩, ?_⟩
      walk_at "go"
      refine s_ilist2 (SqL.of h1) fun D hD => lc_filtL (g := strG) (SqL.of h1) pf.1 hD (fun _ => rfl) (fun n x H1 Qy Qn hx s1 ry rn => ?_) (fun H5 s5 h5 => ?_)
      · walk_at "go"
        rcases pf.2 x (List.mem_of_getElem? hx) with ⟨m, rfl, hm⟩ | rfl
        · refine s_ifT rfl ?_
          walk_at "go"
          exact s_str3 (.inl ⟨m, rfl, hm, rfl⟩) (ry _ rfl _ (Same.refl _))
        · refine s_ifF rfl ?_
          exact rn rfl _ (Same.refl _)
      · walk_at "go"
        refine ⟨p2, D, _, _, rfl, rfl, s5 _ _ h2, h5, Nat.le_trans (Nat.add_le_add_left (List.length_filterMap_le _ _) _) (Nat.le_trans (Nat.add_le_add_left pf.1 _) (by show 1 + 900 ≤ sizeLine; decide)), ?_⟩
        walk_at "go"
        refine ⟨⟨_, rfl⟩, ?_⟩
        walk_at "go"
        refine fin _ _ ([wd "apply", figL h]) (same_mut (s2.trans s5) n2) (upd_same.trans ?_) rfl
        rfl
    | apply2 h n =>
      cases pr with
      | cons i1 pr =>
      cases pr with
      | cons i2 pr =>
      cases pr with
      | cons i3 pr =>
      cases pr with
      | nil =>
      cases i1
      cases i2
      cases i3
      walk_at "go"
      refine s_gstar (.inr (SqT.of ha)) fun p1 hp1 => ?_
      walk_at "go"
      refine ⟨by show 1 ≤ sizeLine; decide, fun p2 hp2 => ?_⟩
      have n2 : H p2 = none := (same_upd (Same.refl _) hp1).free hp2
      have h2 : upd (upd H p1 (.lst [V.int h, .int n])) p2 (.lst [vS (wd "apply")]) p2 = some (.lst [vS (wd "apply")]) := upd_same
      have h1 : upd (upd H p1 (.lst [V.int h, .int n])) p2 (.lst [vS (wd "apply")]) p1 = some (.lst [V.int h, .int n]) := get_new hp2 upd_same
      have s2 : Same H (upd (upd H p1 (.lst [V.int h, .int n])) p2 (.lst [vS (wd "apply")])) := same_upd (same_upd (Same.refl _) hp1) hp2
      generalize upd (upd H p1 (.lst [V.int h, .int n])) p2 (.lst [vS (wd "apply")]) = H2 at h1 h2 s2 ⊢
      have pf := partsF (xs := [V.int h, .int n]) (by show 2 ≤ 900; decide) (fun x hx => by
        rcases List.mem_cons.mp hx with rfl | hx
        · exact .inl ⟨h, rfl, hok.1⟩
        · exact .inl ⟨n, List.mem_singleton.mp hx, hok.2⟩)
      walk_at "go"
      refine ⟨.inl ⟨rfl, _, SqL.of h2⟩, ?_⟩
      walk_at "go"
      refine s_ilist2 (SqL.of h1) fun D hD => lc_filtL (g := strG) (SqL.of h1) pf.1 hD (fun _ => rfl) (fun n x H1 Qy Qn hx s1 ry rn => ?_) (fun H5 s5 h5 => ?_)
      · walk_at "go"
        rcases pf.2 x (List.mem_of_getElem? hx) with ⟨m, rfl, hm⟩ | rfl
        · refine s_ifT rfl ?_
          walk_at "go"
          exact s_str3 (.inl ⟨m, rfl, hm, rfl⟩) (ry _ rfl _ (Same.refl _))
        · refine s_ifF rfl ?_
          exact rn rfl _ (Same.refl _)
      · walk_at "go"
        refine ⟨p2, D, _, _, rfl, rfl, s5 _ _ h2, h5, Nat.le_trans (Nat.add_le_add_left (List.length_filterMap_le _ _) _) (Nat.le_trans (Nat.add_le_add_left pf.1 _) (by show 1 + 900 ≤ sizeLine; decide)), ?_⟩
        walk_at "go"
        refine ⟨⟨_, rfl⟩, ?_⟩
        walk_at "go"
        refine fin _ _ ([wd "apply", figL h, figL n]) (same_mut (s2.trans s5) n2) (upd_same.trans ?_) rfl
        rfl
    | nums w1 ns =>
      cases pr with
      | cons i1 pr =>
      cases i1
      rename_i xs
      have e1 : xs = ns.map V.int := paired_ints pr
      subst e1
      obtain ⟨q1, q2, q3⟩ := numWords_show _ hok.1
      walk_at "go"
      refine s_gstar (.inr (SqT.of ha)) fun p1 hp1 => ?_
      walk_at "go"
      refine ⟨by show 1 ≤ sizeLine; decide, fun p2 hp2 => ?_⟩
      have n2 : H p2 = none := (same_upd (Same.refl _) hp1).free hp2
      have h2 : upd (upd H p1 (.lst (ns.map V.int))) p2 (.lst [vS (w1)]) p2 = some (.lst [vS (w1)]) := upd_same
      have h1 : upd (upd H p1 (.lst (ns.map V.int))) p2 (.lst [vS (w1)]) p1 = some (.lst (ns.map V.int)) := get_new hp2 upd_same
      have s2 : Same H (upd (upd H p1 (.lst (ns.map V.int))) p2 (.lst [vS (w1)])) := same_upd (same_upd (Same.refl _) hp1) hp2
      generalize upd (upd H p1 (.lst (ns.map V.int))) p2 (.lst [vS (w1)]) = H2 at h1 h2 s2 ⊢
      have pf := partsF (xs := ns.map V.int) (by rw [List.length_map]; have := (show ∀ p ∈ numWords, p.2 ≤ 2 from by decide +kernel) _ hok.1; omega) (fun x hx => by
        obtain ⟨m, hm, rfl⟩ := List.mem_map.mp hx
        exact .inl ⟨m, rfl, hok.2 m hm⟩)
      walk_at "go"
      refine s_ifF (decide_eq_false q1) ?_
      walk_at "go"
      refine s_ifF (decide_eq_false q3) ?_
      walk_at "go"
      refine s_ifF (decide_eq_false q2) ?_
      walk_at "go"
      refine ⟨.inl ⟨rfl, _, SqL.of h2⟩, ?_⟩
      walk_at "go"
      refine s_ilist2 (SqL.of h1) fun D hD => lc_filtL (g := strG) (SqL.of h1) pf.1 hD (fun _ => rfl) (fun n x H1 Qy Qn hx s1 ry rn => ?_) (fun H5 s5 h5 => ?_)
      · walk_at "go"
        rcases pf.2 x (List.mem_of_getElem? hx) with ⟨m, rfl, hm⟩ | rfl
        · refine s_ifT rfl ?_
          walk_at "go"
          exact s_str3 (.inl ⟨m, rfl, hm, rfl⟩) (ry _ rfl _ (Same.refl _))
        · refine s_ifF rfl ?_
          exact rn rfl _ (Same.refl _)
      · walk_at "go"
        refine ⟨p2, D, _, _, rfl, rfl, s5 _ _ h2, h5, Nat.le_trans (Nat.add_le_add_left (List.length_filterMap_le _ _) _) (Nat.le_trans (Nat.add_le_add_left pf.1 _) (by show 1 + 900 ≤ sizeLine; decide)), ?_⟩
        walk_at "go"
        refine ⟨⟨_, rfl⟩, ?_⟩
        walk_at "go"
        refine fin _ _ (w1 :: ns.map figL) (same_mut (s2.trans s5) n2) (upd_same.trans ?_) rfl
        rw [strG_nums]
        rfl
end
end Toy

set_option Elab.async false
set_option linter.all false
set_option maxRecDepth 100000
set_option maxHeartbeats 4000000
namespace Toy
open PySem PySem.Spec PyProof.Rows L2 Lt
local macro_rules
  | `(tactic| walk_at "get") => `(tactic| first
    | assumption
    | exact upd_same
    | ((with_reducible refine' get_new ?g1 ?g2); (case g1 => assumption); (case g2 => walk_at "get"))
    | ((with_reducible refine' get_ne ?g1 ?g2); (case g1 => assumption); (case g2 => walk_at "get"))
    | ((with_reducible refine' get_dif ?g1 ?g2 ?g3); (case g1 => walk_at "get"); (case g2 => walk_at "get"); (case g3 => (intro z; cases z)))
    | (refine' (by assumption : Same _ _) _ _ ?g1; (case g1 => walk_at "get")))
local macro_rules
  | `(tactic| walk_at "cls") => `(tactic| first | assumption)
local macro_rules
  | `(tactic| walk_at "sq") => `(tactic| first
    | assumption
    | exact SqL.of (by walk_at "get")
    | exact SqT.of (by walk_at "get")
    | exact FzT.sq (by assumption)
    | exact Same.seq (by assumption) (by assumption))
local macro_rules
  | `(tactic| walk_at "st") => `(tactic| first
    | with_reducible refine s_seq ?_
    | with_reducible refine s_cons ?_
    | with_reducible refine s_nil ?_
    | ((with_reducible refine' s_var ?g1 ?g2); (case g1 => rfl))
    | with_reducible refine s_c ?_
    | with_reducible refine s_op ?_
    | with_reducible refine s_addI ?_
    | with_reducible refine s_i0 ?_
    | with_reducible refine s_ret ?_
    | with_reducible refine s_retN ?_
    | with_reducible refine s_drop ?_
    | with_reducible refine s_next ?_
    | with_reducible refine s_ifs ?_
    | with_reducible refine s_asg ?_
    | with_reducible refine s_gname ?_
    | with_reducible refine s_gnil ?_
    | with_reducible refine s_gcons ?_
    | with_reducible refine s_gsub ?_
    | with_reducible refine s_un ?_
    | with_reducible refine s_cb ?_
    | with_reducible refine s_call ?_
    | with_reducible refine s_meth ?_
    | ((with_reducible refine' s_meth2 ?g1 ?g2 ?g3); (case g1 => walk_at "get"); (case g2 => rfl))
    | with_reducible refine s_test ?_
    | with_reducible refine s_tb ?_
    | with_reducible refine s_exbl ?_
    | with_reducible refine s_exint ?_
    | with_reducible refine s_and ?_
    | with_reducible refine s_or ?_
    | with_reducible refine s_not ?_
    | with_reducible refine s_andV ?_
    | with_reducible refine s_orV ?_
    | with_reducible refine s_notV ?_
    | with_reducible refine s_ifx ?_
    | with_reducible refine s_yes ?_
    | with_reducible refine s_tup ?_
    | with_reducible refine s_lst ?_
    | with_reducible refine s_fld ?_
    | ((with_reducible refine' s_fld2 ?g1 ?g2 ?g3 ?g4 ?g5); (case g1 => walk_at "get"); (case g2 => walk_at "cls"); (case g3 => walk_at "cls"); (case g4 => rfl))
    | with_reducible refine s_sfld ?_
    | with_reducible refine s_sl ?_
    | with_reducible refine s_nopart ?_
    | with_reducible refine s_part ?_
    | with_reducible refine s_for ?_
    | with_reducible refine s_ilist ?_
    | with_reducible refine s_itup ?_
    | with_reducible refine s_irng1 ?_
    | with_reducible refine s_bm ?_
    | with_reducible refine s_bm0 ?_
    | with_reducible refine s_dget ?_
    | with_reducible refine s_din ?_
    | with_reducible refine s_dnotin ?_
    | with_reducible refine s_dput ?_
    | with_reducible refine s_dget2 ?_
    | with_reducible refine s_dget1 ?_
    | with_reducible refine s_eqI ?_
    | with_reducible refine s_eqS ?_
    | with_reducible refine s_neI ?_
    | with_reducible refine s_neB ?_
    | with_reducible refine s_neS ?_
    | with_reducible refine s_ltI ?_
    | with_reducible refine s_isN ?_
    | with_reducible refine s_isNotN ?_
    | with_reducible refine s_chain ?_
    | with_reducible refine s_make ?_
    | with_reducible refine s_irng2 ?_
    | with_reducible refine s_intI ?_
    | with_reducible refine s_intB ?_
    | ((with_reducible refine' s_mod ?g1 ?g2); (case g1 => omega))
    | ((with_reducible refine' s_fdiv ?g1 ?g2); (case g1 => omega))
    | ((with_reducible refine' s_pow ?g1 ?g2); (case g1 => omega))
    | with_reducible refine s_dc ?_
    | with_reducible refine s_lc ?_
    | with_reducible refine s_iitems ?_
    | with_reducible refine s_ikeys ?_
    | ((with_reducible refine' s_sfld2 ?g1 ?g2 ?g3 ?g4 ?g5); (case g1 => walk_at "get"); (case g2 => walk_at "cls"); (case g3 => walk_at "cls"); (case g4 => exact len1000 rfl))
    | with_reducible refine s_ex2 ?_
    | with_reducible refine s_dnew ?_
    | with_reducible refine s_istr ?_
    | with_reducible refine s_exstr ?_
    | with_reducible refine s_inSg ?_
    | with_reducible refine s_notInSg ?_
    | with_reducible refine s_slb ?_
    | with_reducible refine s_m1 ?_
    | with_reducible refine s_strS ?_
    | with_reducible refine s_kget2 ?_
    | with_reducible refine s_neg ?_
    | ((with_reducible refine' s_ifT ?g1 ?g2); (case g1 => rfl))
    | ((with_reducible refine' s_ifF ?g1 ?g2); (case g1 => rfl))
    | with_reducible refine s_isi_non_int ?_
    | with_reducible refine s_isi_non_bool ?_
    | with_reducible refine s_isi_non_str ?_
    | with_reducible refine s_isi_non_tuple ?_
    | with_reducible refine s_isi_non_list ?_
    | with_reducible refine s_isi_bl_int ?_
    | with_reducible refine s_isi_bl_bool ?_
    | with_reducible refine s_isi_bl_str ?_
    | with_reducible refine s_isi_bl_tuple ?_
    | with_reducible refine s_isi_bl_list ?_
    | with_reducible refine s_isi_int_int ?_
    | with_reducible refine s_isi_int_bool ?_
    | with_reducible refine s_isi_int_str ?_
    | with_reducible refine s_isi_int_tuple ?_
    | with_reducible refine s_isi_int_list ?_
    | with_reducible refine s_isi_str_int ?_
    | with_reducible refine s_isi_str_bool ?_
    | with_reducible refine s_isi_str_str ?_
    | with_reducible refine s_isi_str_tuple ?_
    | with_reducible refine s_isi_str_list ?_
    | ((with_reducible refine' s_isi_tup_int ?g1 ?g2); (case g1 => walk_at "get"))
    | ((with_reducible refine' s_isi_tup_bool ?g1 ?g2); (case g1 => walk_at "get"))
    | ((with_reducible refine' s_isi_tup_str ?g1 ?g2); (case g1 => walk_at "get"))
    | ((with_reducible refine' s_isi_tup_tuple ?g1 ?g2); (case g1 => walk_at "get"))
    | ((with_reducible refine' s_isi_tup_list ?g1 ?g2); (case g1 => walk_at "get"))
    | ((with_reducible refine' s_isi_lst_int ?g1 ?g2); (case g1 => walk_at "get"))
    | ((with_reducible refine' s_isi_lst_bool ?g1 ?g2); (case g1 => walk_at "get"))
    | ((with_reducible refine' s_isi_lst_str ?g1 ?g2); (case g1 => walk_at "get"))
    | ((with_reducible refine' s_isi_lst_tuple ?g1 ?g2); (case g1 => walk_at "get"))
    | ((with_reducible refine' s_isi_lst_list ?g1 ?g2); (case g1 => walk_at "get"))
    | ((with_reducible refine' s_isi_dK_int ?g1 ?g2); (case g1 => walk_at "get"))
    | ((with_reducible refine' s_isi_dK_bool ?g1 ?g2); (case g1 => walk_at "get"))
    | ((with_reducible refine' s_isi_dK_str ?g1 ?g2); (case g1 => walk_at "get"))
    | ((with_reducible refine' s_isi_dK_tuple ?g1 ?g2); (case g1 => walk_at "get"))
    | ((with_reducible refine' s_isi_dK_list ?g1 ?g2); (case g1 => walk_at "get")))
local macro_rules
  | `(tactic| walk_at "go") => `(tactic| (repeat walk_at "st"))

section
variable {P : Program} {w : World} {K : PySem.W.Frag} {mg : Str → Option Value} {base : Heap} {A : Adr}
/-! ### the law's own draws -/
structure StAt (H : Hp) (q c : Addr) (cells : List Int) (n : Int) : Prop where
  qq : ∃ i l s : Int, H q = some (.lst [.ref c, .int i, .int l, .int s]) ∧ (0 ≤ i ∧ i ≤ n) ∧ 0 ≤ l ∧ 0 ≤ s ∧ s < 2147483648
  cc : H c = some (.lst (cells.map V.int))
  ne : q ≠ c
  pos : 0 < cells.length
theorem StAt.le {H : Hp} {q c : Addr} {cells : List Int} {n m : Int} (h : n ≤ m) (S : StAt H q c cells n) : StAt H q c cells m := by
  obtain ⟨⟨i, l, s, h1, h2, h3⟩, h4, h5, h6⟩ := S
  exact ⟨⟨i, l, s, h1, ⟨h2.1, by omega⟩, h3⟩, h4, h5, h6⟩
theorem StAt.same {H H' : Hp} {q c : Addr} {cells : List Int} {n : Int} (s : Same H H') (S : StAt H q c cells n) : StAt H' q c cells n := by
  obtain ⟨⟨i, l, s0, h1, h2, h3⟩, h4, h5, h6⟩ := S
  exact ⟨⟨i, l, s0, s _ _ h1, h2, h3⟩, s _ _ h4, h5, h6⟩
/-- all but the state stands -/
def But (q : Addr) (H H' : Hp) : Prop := ∀ b o, H b = some o → b ≠ q → H' b = some o
theorem But.refl (q : Addr) (H : Hp) : But q H H := fun _ _ e _ => e
theorem But.trans {q : Addr} {H H1 H2 : Hp} (a : But q H H1) (b : But q H1 H2) : But q H H2 := fun x o e n => b x o (a x o e n) n
theorem But.of {q : Addr} {H H' : Hp} (s : Same H H') : But q H H' := fun x o e _ => s x o e
def spState (K : PySem.W.Frag) : Sp := fun vs H Q _ => ∃ (a : Addr) (ns : List Int) (sd : Int), vs = [.ref a, .int sd] ∧ (0 ≤ sd ∧ sd ≤ 1000) ∧ SqL K H a (ns.map V.int) ∧ ns.length ≤ 63 ∧
  ∀ q c cells H', Same H H' → H q = none → StAt H' q c cells 0 → Q (.ref q) H'
theorem cut_63 {ns : List Int} (h : ns.length ≤ 63) : cutV (ns.map V.int) none (some 63) = ns.map V.int := by
  unfold cutV
  rw [show HT.sIx (ns.map V.int).length 0 none = 0 from rfl]
  have e : HT.sIx (ns.map V.int).length (ns.map V.int).length (some 63) = (ns.map V.int).length := by
    show (if (63 : Int) < 0 then ((63 : Int) + ((ns.map V.int).length : Int)).toNat else min (63 : Int).toNat (ns.map V.int).length) = _
    rw [if_neg (by decide), List.length_map]
    show min 63 ns.length = ns.length
    omega
  rw [e, List.drop_zero, Nat.sub_zero, List.take_length]
theorem c__law_state (T : Txt w K mg A) : C8.Cal P w K mg base 1 "_law_state" (spState K) [] := by
  obtain ⟨f, fd, D, B⟩ := T.d__law_state
  refine C8.cal0 D B .nil sc__law_state (fun vs H Q E h => ?_) (fun cdv A' outer s H vs Q E hr h => ?_)
  · obtain ⟨a, ns, sd, rfl, _⟩ := h
    rfl
  · obtain ⟨a, ns, sd, rfl, hsd, hS, hl, k⟩ := h
    have hu := hr.units
    have hu1 := hu_of hr
    have nd := sc__law_state.nd
    refine ⟨_, (pss_cons (ps_set (i := 2) nd rfl (Or.inl rfl) (pe_callTy (k_list K) (by rfl) T.b_list (by decide +kernel) (pa_cons (pe_slice (k_sll K) (pv 0) po_none (po_some pe_int)) pa_nil)))
      (pss_cons (ps_if (pt_cmpR (k_eq K hu) (pe_callB (k_len K) (by rfl) T.b_len (by decide +kernel) (pa_cons (pv 2) pa_nil)) pe_int (nomark _)) (pss_one (ps_set (i := 2) nd rfl (Or.inl rfl) (pe_lst (pa_cons pe_int pa_nil)))) pss_nil)
      (pss_one (ps_ret (pe_lst (pa_cons (pv 2) (pa_cons pe_int (pa_cons pe_int (pa_cons (pv 1) pa_nil))))))))), ?_⟩
    refine (start_of (σ := [some (.ref a), some (.int sd), none]) rfl ?_)
    walk_at "go"
    refine ⟨a, _, rfl, hS, fun p1 hp1 => ?_⟩
    rw [cut_63 hl]
    walk_at "go"
    refine ⟨p1, _, rfl, .inl (SqL.of upd_same), fun p2 hp2 => ?_⟩
    walk_at "go"
    refine s_lenL (SqL.of upd_same) ?_
    walk_at "go"
    have s2 : Same H (upd (upd H p1 (.lst (ns.map V.int))) p2 (.lst (ns.map V.int))) := same_upd (same_upd (Same.refl _) hp1) hp2
    have h2 : upd (upd H p1 (.lst (ns.map V.int))) p2 (.lst (ns.map V.int)) p2 = some (.lst (ns.map V.int)) := upd_same
    generalize upd (upd H p1 (.lst (ns.map V.int))) p2 (.lst (ns.map V.int)) = H2 at s2 h2 ⊢
    refine s_ifD (fun h0 => ?_) (fun h0 => ?_)
    · walk_at "go"
      refine ⟨by show 1 ≤ sizeLine; decide, fun p3 hp3 => ?_⟩
      walk_at "go"
      refine ⟨by show 4 ≤ sizeLine; decide, fun q hq => ?_⟩
      have s3 := same_upd (u := .lst [V.int 0]) s2 hp3
      exact k q p3 [0] _ (same_upd s3 hq) (s3.free hq) ⟨⟨0, 0, sd, upd_same, by omega, by omega, by omega⟩, get_new hq upd_same, (ne_of_none upd_same hq).symm, by decide⟩
    · walk_at "go"
      refine ⟨by show 4 ≤ sizeLine; decide, fun q hq => ?_⟩
      exact k q p2 ns _ (same_upd s2 hq) (s2.free hq) ⟨⟨0, 0, sd, upd_same, by omega, by omega, by omega⟩, get_new hq h2, (ne_of_none h2 hq).symm, by rw [List.length_map] at h0; omega⟩
def spNext : Sp := fun vs H Q _ => ∃ (q c : Addr) (cells : List Int) (n below : Int), vs = [.ref q, .int below] ∧ StAt H q c cells n ∧ (0 ≤ n ∧ n ≤ 100000) ∧ (1 ≤ below ∧ below ≤ 1000000) ∧
  ∀ m H', (0 ≤ m ∧ m < below) → StAt H' q c cells (n + 1) → But q H H' → Q (.int m) H'
theorem c__law_next (T : Txt w K mg A) : C8.Cal P w K mg base 1 "_law_next" spNext [] := by
  obtain ⟨f, fd, D, B⟩ := T.d__law_next
  refine C8.cal0 D B .nil sc__law_next (fun vs H Q E h => ?_) (fun cdv A' outer s H vs Q E hr h => ?_)
  · obtain ⟨q, c, cells, n, below, rfl, _⟩ := h
    rfl
  · obtain ⟨q, c, cells, n, below, rfl, ⟨⟨i, l, sd, hq, hi, hl0, hs0, hs1⟩, hc, hne, hpos⟩, hn, hb, k⟩ := h
    have hu := hr.units
    have hu1 := hu_of hr
    have nd := sc__law_next.nd
    refine ⟨_, (pss_cons (ps_if (pt_cmpR op_gt (pe_ix (k_ix K) (pv 0) pe_int (fun _ _ => rfl)) pe_int (nomark _)) (pss_cons (ps_set (i := 2) nd rfl (Or.inl rfl) (pe_op op_mod (pe_ix (k_ix K) (pv 0) pe_int (fun _ _ => rfl)) (pv 1)))
      (pss_cons (ps_asg (pe_op op_fdivW (pe_ix (k_ix K) (pv 0) pe_int (fun _ _ => rfl)) (pv 1)) (pg_sub (pv 0) pe_int set_list))
      (pss_one (ps_ret (pv 2))))) pss_nil)
      (pss_cons (ps_set (i := 3) nd rfl (Or.inl rfl) (pe_ix (k_ix K) (pv 0) pe_int (fun _ _ => rfl)))
      (pss_cons (ps_set (i := 4) nd rfl (Or.inl rfl) (pe_ix (k_ix K) (pv 3) (pe_op op_mod (pe_ix (k_ix K) (pv 0) pe_int (fun _ _ => rfl)) (pe_callB (k_len K) (by rfl) T.b_len (by decide +kernel) (pa_cons (pv 3) pa_nil))) (fun _ _ => rfl)))
      (pss_cons (ps_asg (pe_op (k_add K) (pe_ix (k_ix K) (pv 0) pe_int (fun _ _ => rfl)) pe_int) (pg_sub (pv 0) pe_int set_list))
      (pss_cons (ps_if (PW.pt (pw_and (pt_cmpR op_ge (pv 4) (pe_op op_pow pe_int pe_int) (nomark _)) (pw_and1 (pt_cmpR op_le (pe_ix (k_ix K) (pv 0) pe_int (fun _ _ => rfl)) (pe_callB (k_len K) (by rfl) T.b_len (by decide +kernel) (pa_cons (pv 3) pa_nil)) (nomark _))))) (pss_cons (ps_asg (pe_op op_fdivW (pv 4) (pv 1)) (pg_sub (pv 0) pe_int set_list))
      (pss_one (ps_ret (pe_op op_mod (pv 4) (pv 1))))) pss_nil)
      (pss_cons (ps_asg (pe_op op_mod (pe_op (k_add K) (pe_op (k_add K) (pe_op (k_mul K) (pe_ix (k_ix K) (pv 0) pe_int (fun _ _ => rfl)) pe_int) (pe_op op_mod (pv 4) pe_int)) (pe_op (k_mul K) pe_int (pe_ix (k_ix K) (pv 0) pe_int (fun _ _ => rfl)))) pe_int) (pg_sub (pv 0) pe_int set_list))
      (pss_one (ps_ret (pe_op op_mod (pe_op op_fdivW (pe_op op_mod (pe_op (k_mul K) (pe_ix (k_ix K) (pv 0) pe_int (fun _ _ => rfl)) pe_int) pe_int) pe_int) (pv 1)))))))))), ?_⟩
    refine (start_of (σ := [some (.ref q), some (.int below), none, none, none]) rfl ?_)
    walk_at "go"
    refine s_ixL (SqL.of hq) (v := .int l) (atI_nat (i := 2) rfl) ?_
    walk_at "go"
    refine s_ifD (fun h1 => ?_) (fun h1 => ?_)
    · walk_at "go"
      refine s_ixL (SqL.of hq) (v := .int l) (atI_nat (i := 2) rfl) ?_
      walk_at "go"
      refine s_ixL (SqL.of hq) (v := .int l) (atI_nat (i := 2) rfl) ?_
      walk_at "go"
      refine s_setL hq (ixN_ok (by decide) (by show (2 : Int) < 4; decide)) ?_
      walk_at "go"
      refine k (l % below) _ ⟨Int.emod_nonneg _ (by omega), Int.emod_lt_of_pos _ (by omega)⟩ ⟨⟨i, l / below, sd, upd_same, by omega, Int.ediv_nonneg (by omega) (by omega), hs0, hs1⟩, by rw [upd_ne hne.symm]; exact hc, hne, hpos⟩ fun b o e nq => by rw [upd_ne nq]; exact e
    · walk_at "go"
      refine s_ixL (SqL.of hq) (v := .ref c) (atI_nat (i := 0) rfl) ?_
      walk_at "go"
      refine s_ixL (SqL.of hq) (v := .int i) (atI_nat (i := 1) rfl) ?_
      walk_at "go"
      refine s_lenL (K := K) (SqL.of hc) ?_
      rw [List.length_map]
      walk_at "go"
      have hpl : 0 ≤ i % (cells.length : Int) ∧ i % (cells.length : Int) < cells.length := ⟨Int.emod_nonneg _ (by omega), Int.emod_lt_of_pos _ (by omega)⟩
      generalize i % (cells.length : Int) = pl at hpl ⊢
      obtain ⟨y, hy1, hy2⟩ := atI_ok (xs := cells) (i := pl) hpl.1 hpl.2
      refine s_ixL (SqL.of hc) (atI_map hy2) ?_
      walk_at "go"
      refine s_ixL (SqL.of hq) (v := .int i) (atI_nat (i := 1) rfl) ?_
      walk_at "go"
      refine s_setL hq (ixN_ok (by decide) (by show (1 : Int) < 4; decide)) ?_
      have hq1 : upd H q (.lst ([V.ref c, .int i, .int l, .int sd].set (1 : Int).toNat (.int (i + 1)))) q = some (.lst [V.ref c, .int (i + 1), .int l, .int sd]) := upd_same
      have hc1 : upd H q (.lst ([V.ref c, .int i, .int l, .int sd].set (1 : Int).toNat (.int (i + 1)))) c = some (.lst (cells.map V.int)) := by rw [upd_ne hne.symm]; exact hc
      have b1 : But q H (upd H q (.lst ([V.ref c, .int i, .int l, .int sd].set (1 : Int).toNat (.int (i + 1))))) := fun b o e nq => by rw [upd_ne nq]; exact e
      generalize upd H q (.lst ([V.ref c, .int i, .int l, .int sd].set (1 : Int).toNat (.int (i + 1)))) = H1 at hq1 hc1 b1 ⊢
      walk_at "go"
      refine s_ifD (fun h2 => ?_) (fun h2 => ?_)
      · walk_at "go"
        refine s_ixL (SqL.of hq1) (v := .int (i + 1)) (atI_nat (i := 1) rfl) ?_
        walk_at "go"
        refine s_lenL (K := K) (SqL.of hc1) ?_
        rw [List.length_map]
        walk_at "go"
        refine s_ifD (fun h3 => ?_) (fun h3 => ?_)
        · walk_at "go"
          refine s_setL hq1 (ixN_ok (by decide) (by show (2 : Int) < 4; decide)) ?_
          walk_at "go"
          have h2' : (0 : Int) ≤ y := Int.le_trans (by decide) h2
          refine k (y % below) _ ⟨Int.emod_nonneg _ (by omega), Int.emod_lt_of_pos _ (by omega)⟩ ⟨⟨i + 1, y / below, sd, upd_same, by omega, Int.ediv_nonneg h2' (by omega), hs0, hs1⟩, by rw [upd_ne hne.symm]; exact hc1, hne, hpos⟩ (b1.trans fun b o e nq => by rw [upd_ne nq]; exact e)
        · walk_at "go"
          refine s_ixL (SqL.of hq1) (v := .int sd) (atI_nat (i := 3) rfl) ?_
          walk_at "go"
          refine s_mulI (.inr (by decide)) ?_
          walk_at "go"
          refine s_ixL (SqL.of hq1) (v := .int (i + 1)) (atI_nat (i := 1) rfl) ?_
          walk_at "go"
          refine s_mulI (.inl (by decide)) ?_
          walk_at "go"
          have hz : 0 ≤ (sd * 48271 + y % 2147483629 + 7 * (i + 1)) % 2147483647 ∧ (sd * 48271 + y % 2147483629 + 7 * (i + 1)) % 2147483647 < 2147483647 := ⟨Int.emod_nonneg _ (by decide), Int.emod_lt_of_pos _ (by decide)⟩
          generalize (sd * 48271 + y % 2147483629 + 7 * (i + 1)) % 2147483647 = z at hz ⊢
          refine s_setL hq1 (ixN_ok (by decide) (by show (3 : Int) < 4; decide)) ?_
          walk_at "go"
          refine s_ixL (SqL.of upd_same) (v := .int z) (atI_nat (i := 3) rfl) ?_
          walk_at "go"
          refine s_mulI (.inr (by decide)) ?_
          walk_at "go"
          refine k _ _ ⟨Int.emod_nonneg _ (by omega), Int.emod_lt_of_pos _ (by omega)⟩ ⟨⟨i + 1, l, z, upd_same, by omega, hl0, by omega, by omega⟩, by rw [upd_ne hne.symm]; exact hc1, hne, hpos⟩ (b1.trans fun b o e nq => by rw [upd_ne nq]; exact e)
      · walk_at "go"
        refine s_ixL (SqL.of hq1) (v := .int sd) (atI_nat (i := 3) rfl) ?_
        walk_at "go"
        refine s_mulI (.inr (by decide)) ?_
        walk_at "go"
        refine s_ixL (SqL.of hq1) (v := .int (i + 1)) (atI_nat (i := 1) rfl) ?_
        walk_at "go"
        refine s_mulI (.inl (by decide)) ?_
        walk_at "go"
        have hz : 0 ≤ (sd * 48271 + y % 2147483629 + 7 * (i + 1)) % 2147483647 ∧ (sd * 48271 + y % 2147483629 + 7 * (i + 1)) % 2147483647 < 2147483647 := ⟨Int.emod_nonneg _ (by decide), Int.emod_lt_of_pos _ (by decide)⟩
        generalize (sd * 48271 + y % 2147483629 + 7 * (i + 1)) % 2147483647 = z at hz ⊢
        refine s_setL hq1 (ixN_ok (by decide) (by show (3 : Int) < 4; decide)) ?_
        walk_at "go"
        refine s_ixL (SqL.of upd_same) (v := .int z) (atI_nat (i := 3) rfl) ?_
        walk_at "go"
        refine s_mulI (.inr (by decide)) ?_
        walk_at "go"
        refine k _ _ ⟨Int.emod_nonneg _ (by omega), Int.emod_lt_of_pos _ (by omega)⟩ ⟨⟨i + 1, l, z, upd_same, by omega, hl0, by omega, by omega⟩, by rw [upd_ne hne.symm]; exact hc1, hne, hpos⟩ (b1.trans fun b o e nq => by rw [upd_ne nq]; exact e)
end
end Toy

set_option Elab.async false
set_option linter.all false
set_option maxRecDepth 100000
set_option maxHeartbeats 4000000
namespace Toy
open PySem PySem.Spec PyProof.Rows L2 Lt
local macro_rules
  | `(tactic| walk_at "get") => `(tactic| first
    | assumption
    | exact upd_same
    | ((with_reducible refine' get_new ?g1 ?g2); (case g1 => assumption); (case g2 => walk_at "get"))
    | ((with_reducible refine' get_ne ?g1 ?g2); (case g1 => assumption); (case g2 => walk_at "get"))
    | ((with_reducible refine' get_dif ?g1 ?g2 ?g3); (case g1 => walk_at "get"); (case g2 => walk_at "get"); (case g3 => (intro z; cases z)))
    | (refine' (by assumption : Same _ _) _ _ ?g1; (case g1 => walk_at "get")))
local macro_rules
  | `(tactic| walk_at "cls") => `(tactic| first | assumption)
local macro_rules
  | `(tactic| walk_at "sq") => `(tactic| first
    | assumption
    | exact SqL.of (by walk_at "get")
    | exact SqT.of (by walk_at "get")
    | exact FzT.sq (by assumption)
    | exact Same.seq (by assumption) (by assumption))
local macro_rules
  | `(tactic| walk_at "st") => `(tactic| first
    | with_reducible refine s_seq ?_
    | with_reducible refine s_cons ?_
    | with_reducible refine s_nil ?_
    | ((with_reducible refine' s_var ?g1 ?g2); (case g1 => rfl))
    | with_reducible refine s_c ?_
    | with_reducible refine s_op ?_
    | with_reducible refine s_addI ?_
    | with_reducible refine s_i0 ?_
    | with_reducible refine s_ret ?_
    | with_reducible refine s_retN ?_
    | with_reducible refine s_drop ?_
    | with_reducible refine s_next ?_
    | with_reducible refine s_ifs ?_
    | with_reducible refine s_asg ?_
    | with_reducible refine s_gname ?_
    | with_reducible refine s_gnil ?_
    | with_reducible refine s_gcons ?_
    | with_reducible refine s_gsub ?_
    | with_reducible refine s_un ?_
    | with_reducible refine s_cb ?_
    | with_reducible refine s_call ?_
    | with_reducible refine s_meth ?_
    | ((with_reducible refine' s_meth2 ?g1 ?g2 ?g3); (case g1 => walk_at "get"); (case g2 => rfl))
    | with_reducible refine s_test ?_
    | with_reducible refine s_tb ?_
    | with_reducible refine s_exbl ?_
    | with_reducible refine s_exint ?_
    | with_reducible refine s_and ?_
    | with_reducible refine s_or ?_
    | with_reducible refine s_not ?_
    | with_reducible refine s_andV ?_
    | with_reducible refine s_orV ?_
    | with_reducible refine s_notV ?_
    | with_reducible refine s_ifx ?_
    | with_reducible refine s_yes ?_
    | with_reducible refine s_tup ?_
    | with_reducible refine s_lst ?_
    | with_reducible refine s_fld ?_
    | ((with_reducible refine' s_fld2 ?g1 ?g2 ?g3 ?g4 ?g5); (case g1 => walk_at "get"); (case g2 => walk_at "cls"); (case g3 => walk_at "cls"); (case g4 => rfl))
    | with_reducible refine s_sfld ?_
    | with_reducible refine s_sl ?_
    | with_reducible refine s_nopart ?_
    | with_reducible refine s_part ?_
    | with_reducible refine s_for ?_
    | with_reducible refine s_ilist ?_
    | with_reducible refine s_itup ?_
    | with_reducible refine s_irng1 ?_
    | with_reducible refine s_bm ?_
    | with_reducible refine s_bm0 ?_
    | with_reducible refine s_dget ?_
    | with_reducible refine s_din ?_
    | with_reducible refine s_dnotin ?_
    | with_reducible refine s_dput ?_
    | with_reducible refine s_dget2 ?_
    | with_reducible refine s_dget1 ?_
    | with_reducible refine s_eqI ?_
    | with_reducible refine s_eqS ?_
    | with_reducible refine s_neI ?_
    | with_reducible refine s_neB ?_
    | with_reducible refine s_neS ?_
    | with_reducible refine s_ltI ?_
    | with_reducible refine s_isN ?_
    | with_reducible refine s_isNotN ?_
    | with_reducible refine s_chain ?_
    | with_reducible refine s_make ?_
    | with_reducible refine s_irng2 ?_
    | with_reducible refine s_intI ?_
    | with_reducible refine s_intB ?_
    | ((with_reducible refine' s_mod ?g1 ?g2); (case g1 => omega))
    | ((with_reducible refine' s_fdiv ?g1 ?g2); (case g1 => omega))
    | ((with_reducible refine' s_pow ?g1 ?g2); (case g1 => omega))
    | with_reducible refine s_dc ?_
    | with_reducible refine s_lc ?_
    | with_reducible refine s_iitems ?_
    | with_reducible refine s_ikeys ?_
    | ((with_reducible refine' s_sfld2 ?g1 ?g2 ?g3 ?g4 ?g5); (case g1 => walk_at "get"); (case g2 => walk_at "cls"); (case g3 => walk_at "cls"); (case g4 => exact len1000 rfl))
    | with_reducible refine s_ex2 ?_
    | with_reducible refine s_dnew ?_
    | with_reducible refine s_istr ?_
    | with_reducible refine s_exstr ?_
    | with_reducible refine s_inSg ?_
    | with_reducible refine s_notInSg ?_
    | with_reducible refine s_slb ?_
    | with_reducible refine s_m1 ?_
    | with_reducible refine s_strS ?_
    | with_reducible refine s_kget2 ?_
    | with_reducible refine s_neg ?_
    | ((with_reducible refine' s_ifT ?g1 ?g2); (case g1 => rfl))
    | ((with_reducible refine' s_ifF ?g1 ?g2); (case g1 => rfl))
    | with_reducible refine s_isi_non_int ?_
    | with_reducible refine s_isi_non_bool ?_
    | with_reducible refine s_isi_non_str ?_
    | with_reducible refine s_isi_non_tuple ?_
    | with_reducible refine s_isi_non_list ?_
    | with_reducible refine s_isi_bl_int ?_
    | with_reducible refine s_isi_bl_bool ?_
    | with_reducible refine s_isi_bl_str ?_
    | with_reducible refine s_isi_bl_tuple ?_
    | with_reducible refine s_isi_bl_list ?_
    | with_reducible refine s_isi_int_int ?_
    | with_reducible refine s_isi_int_bool ?_
    | with_reducible refine s_isi_int_str ?_
    | with_reducible refine s_isi_int_tuple ?_
    | with_reducible refine s_isi_int_list ?_
    | with_reducible refine s_isi_str_int ?_
    | with_reducible refine s_isi_str_bool ?_
    | with_reducible refine s_isi_str_str ?_
    | with_reducible refine s_isi_str_tuple ?_
    | with_reducible refine s_isi_str_list ?_
    | ((with_reducible refine' s_isi_tup_int ?g1 ?g2); (case g1 => walk_at "get"))
    | ((with_reducible refine' s_isi_tup_bool ?g1 ?g2); (case g1 => walk_at "get"))
    | ((with_reducible refine' s_isi_tup_str ?g1 ?g2); (case g1 => walk_at "get"))
    | ((with_reducible refine' s_isi_tup_tuple ?g1 ?g2); (case g1 => walk_at "get"))
    | ((with_reducible refine' s_isi_tup_list ?g1 ?g2); (case g1 => walk_at "get"))
    | ((with_reducible refine' s_isi_lst_int ?g1 ?g2); (case g1 => walk_at "get"))
    | ((with_reducible refine' s_isi_lst_bool ?g1 ?g2); (case g1 => walk_at "get"))
    | ((with_reducible refine' s_isi_lst_str ?g1 ?g2); (case g1 => walk_at "get"))
    | ((with_reducible refine' s_isi_lst_tuple ?g1 ?g2); (case g1 => walk_at "get"))
    | ((with_reducible refine' s_isi_lst_list ?g1 ?g2); (case g1 => walk_at "get"))
    | ((with_reducible refine' s_isi_dK_int ?g1 ?g2); (case g1 => walk_at "get"))
    | ((with_reducible refine' s_isi_dK_bool ?g1 ?g2); (case g1 => walk_at "get"))
    | ((with_reducible refine' s_isi_dK_str ?g1 ?g2); (case g1 => walk_at "get"))
    | ((with_reducible refine' s_isi_dK_tuple ?g1 ?g2); (case g1 => walk_at "get"))
    | ((with_reducible refine' s_isi_dK_list ?g1 ?g2); (case g1 => walk_at "get")))
local macro_rules
  | `(tactic| walk_at "go") => `(tactic| (repeat walk_at "st"))

section
variable {P : Program} {w : World} {K : PySem.W.Frag} {mg : Str → Option Value} {base : Heap} {A : Adr}
/-- a draw's promise: from the state, with at most d turns of it -/
def spDraw (d : Int) (R : Hp → V → Prop) : Sp := fun vs H Q _ => ∃ (q c : Addr) (cells : List Int) (n : Int), vs = [.ref q] ∧ StAt H q c cells n ∧ (0 ≤ n ∧ n + d ≤ 50000) ∧ ∀ v H', R H' v → StAt H' q c cells (n + d) → But q H H' → Q v H'
theorem letters_at {m : Int} (h0 : 0 ≤ m) (h1 : m < 26) : atI (Str.ofString "abcdefghijklmnopqrstuvwxyz").cps.toList m = some (97 + m.toNat) := by
  have e : (Str.ofString "abcdefghijklmnopqrstuvwxyz").cps.toList = (List.range 26).map (97 + ·) := by decide +kernel
  obtain ⟨k, rfl⟩ : ∃ k : Nat, m = (k : Int) := ⟨m.toNat, by omega⟩
  refine Lt.atI_nat ?_
  rw [e, List.getElem?_map, List.getElem?_range (by omega)]
  rfl
theorem five_at {m : Int} (h0 : 0 ≤ m) (h1 : m < 5) : ∃ l, keyB l = true ∧ atI [V.str (Str.ofString "a"), V.str (Str.ofString "b"), V.str (Str.ofString "ab"), V.str (Str.ofString "ba"), V.str (Str.ofString "aa")] m = some (vS l) := by
  have e : m = 0 ∨ m = 1 ∨ m = 2 ∨ m = 3 ∨ m = 4 := by omega
  simp only [wd_of]
  rcases e with rfl | rfl | rfl | rfl | rfl
  · exact ⟨wd "a", by decide +kernel, atI_nat (i := 0) rfl⟩
  · exact ⟨wd "b", by decide +kernel, atI_nat (i := 1) rfl⟩
  · exact ⟨wd "ab", by decide +kernel, atI_nat (i := 2) rfl⟩
  · exact ⟨wd "ba", by decide +kernel, atI_nat (i := 3) rfl⟩
  · exact ⟨wd "aa", by decide +kernel, atI_nat (i := 4) rfl⟩
def IsKey (_ : Hp) (v : V) : Prop := ∃ l, keyB l = true ∧ v = vS l
theorem c__law_key (T : Txt w K mg A) : C8.Cal P w K mg base 2 "_law_key" (spDraw 20 IsKey) [] := by
  obtain ⟨f, fd, D, B⟩ := T.d__law_key
  refine C8.cal0 D B .nil sc__law_key (fun vs H Q E h => ?_) (fun cdv A' outer s H vs Q E hr h => ?_)
  · obtain ⟨q, c, cells, n, rfl, _⟩ := h
    rfl
  · obtain ⟨q, c, cells, n, rfl, S, hn, k⟩ := h
    have hu := hr.units
    have hu1 := hu_of hr
    have nd := sc__law_key.nd
    refine ⟨_, (pss_cons (ps_if (pt_cmpR op_gt (C8.pe_c (c__law_next T) hr (by decide) (by rfl) (pa_cons (pv 0) (pa_cons pe_int pa_nil))) pe_int (nomark _)) (pss_one (ps_ret (pe_ix (k_ix K) (pe_lst (pa_cons pe_str (pa_cons pe_str (pa_cons pe_str (pa_cons pe_str (pa_cons pe_str pa_nil)))))) (C8.pe_c (c__law_next T) hr (by decide) (by rfl) (pa_cons (pv 0) (pa_cons pe_int pa_nil))) (fun _ _ => rfl)))) pss_nil)
      (pss_cons (ps_set (i := 1) nd rfl (Or.inl rfl) pe_str)
      (pss_cons (ps_set (i := 2) nd rfl (Or.inl rfl) pe_str)
      (pss_cons (ps_for PassesOwn.never rfl (pi_range1 (by rfl) T.b_range (pa_cons (pe_op (k_add K) pe_int (C8.pe_c (c__law_next T) hr (by decide) (by rfl) (pa_cons (pv 0) (pa_cons pe_int pa_nil)))) pa_nil)) (pg_name (i := 3) nd rfl (Or.inl rfl)) (pss_one (ps_set (i := 2) nd rfl (Or.inl rfl) (pe_op (k_add K) (pv 2) (pe_ix (k_ix K) (pv 1) (C8.pe_c (c__law_next T) hr (by decide) (by rfl) (pa_cons (pv 0) (pa_cons pe_int pa_nil))) (fun _ _ => rfl))))))
      (pss_one (ps_ret (pv 2))))))), ?_⟩
    refine (start_of (σ := [some (.ref q), none, none, none]) rfl ?_)
    walk_at "go"
    refine ⟨q, c, cells, n, 3, rfl, S, by omega, by omega, fun m1 H1 hm1 S1 B1 => ?_⟩
    walk_at "go"
    refine s_ifD (fun _ => ?_) (fun _ => ?_)
    · walk_at "go"
      refine ⟨by show 5 ≤ sizeLine; decide, fun p hp => ?_⟩
      walk_at "go"
      refine ⟨q, c, cells, n + 1, 5, rfl, S1.same (same_upd (Same.refl _) hp), by omega, by omega, fun m2 H2 hm2 S2 B2 => ?_⟩
      obtain ⟨l, hl, hat⟩ := five_at hm2.1 hm2.2
      obtain ⟨i', l', s', hqq, _⟩ := S1.qq
      refine s_ixL (SqL.of (B2 _ _ upd_same (ne_of_none hqq hp).symm)) hat ?_
      exact k _ _ ⟨l, hl, rfl⟩ (S2.le (by omega)) ((B1.trans (But.of (same_upd (Same.refl _) hp))).trans B2)
    · walk_at "go"
      refine ⟨q, c, cells, n + 1, 12, rfl, S1, by omega, by omega, fun m2 H2 hm2 S2 B2 => ?_⟩
      walk_at "go"
      refine s_rng1 (by omega) (by omega) (f_range (fun i σ H' => ∃ (l : List Nat) (v : Option V), σ = [some (.ref q), some (.str (Str.ofString "abcdefghijklmnopqrstuvwxyz")), some (vS l), v] ∧ l.length = i ∧ l.all lowB = true ∧ StAt H' q c cells (n + 2 + i) ∧ But q H H')
        ⟨[], none, rfl, rfl, rfl, S2.le (by omega), B1.trans B2⟩ ?_ ?_)
      · rintro i σ H3 hi ⟨l, v, rfl, hl, ha, S3, B3⟩
        walk_at "go"
        refine ⟨q, c, cells, n + 2 + i, 26, rfl, S3, by omega, by omega, fun m4 H4 hm4 S4 B4 => ?_⟩
        refine s_ixS (by decide +kernel) (letters_at hm4.1 hm4.2) ?_
        refine s_addS (by rw [len_sOf, hl]; show i + 1 ≤ sizeLine; exact Nat.le_trans (show i + 1 ≤ 100 by omega) (by decide)) ?_
        walk_at "go"
        refine ⟨l ++ [97 + m4.toNat], some (.int (0 + i)), ?_, by rw [List.length_append, hl]; rfl, ?_, S4.le (by omega), B3.trans B4⟩
        · rw [show sOf l ++ (⟨#[97 + m4.toNat]⟩ : Str) = sOf (l ++ [97 + m4.toNat]) from sOf_app l [97 + m4.toNat]]
          rfl
        · rw [List.all_append, ha]
          show (true && (lowB (97 + m4.toNat) && true)) = true
          unfold lowB
          simp
          omega
      · rintro σ H3 ⟨l, v, rfl, hl, ha, S3, B3⟩
        walk_at "go"
        refine k _ _ ⟨l, ?_, rfl⟩ (S3.le (by omega)) B3
        unfold keyB
        rw [ha, decide_eq_true (by omega), decide_eq_true (by omega)]
        rfl
def IsNum (_ : Hp) (v : V) : Prop := ∃ n, NumOk n ∧ v = .int n
theorem pick_num {xs : List Int} {m : Int} (h0 : 0 ≤ m) (h1 : m < xs.length) (h : ∀ x ∈ xs, NumOk x) : ∃ n, NumOk n ∧ atI (xs.map V.int) m = some (.int n) := by
  obtain ⟨v, h2, h3⟩ := atI_ok h0 h1
  exact ⟨v, h v (List.mem_of_getElem? h2), atI_map h3⟩
theorem c__law_number (T : Txt w K mg A) : C8.Cal P w K mg base 2 "_law_number" (spDraw 20 IsNum) [] := by
  obtain ⟨f, fd, D, B⟩ := T.d__law_number
  refine C8.cal0 D B .nil sc__law_number (fun vs H Q E h => ?_) (fun cdv A' outer s H vs Q E hr h => ?_)
  · obtain ⟨q, c, cells, n, rfl, _⟩ := h
    rfl
  · obtain ⟨q, c, cells, n, rfl, S, hn, k⟩ := h
    have hu := hr.units
    have hu1 := hu_of hr
    have nd := sc__law_number.nd
    refine ⟨_, (pss_cons (ps_set (i := 1) nd rfl (Or.inl rfl) (C8.pe_c (c__law_next T) hr (by decide) (by rfl) (pa_cons (pv 0) (pa_cons pe_int pa_nil))))
      (pss_cons (ps_if (pt_cmpR (k_eq K hu) (pv 1) pe_int (nomark _)) (pss_one (ps_ret (pe_ix (k_ix K) (pe_lst (pa_cons pe_int (pa_cons pe_int (pa_cons (pe_un un_neg pe_int) (pa_cons pe_int (pa_cons (pe_un un_neg pe_int) pa_nil)))))) (C8.pe_c (c__law_next T) hr (by decide) (by rfl) (pa_cons (pv 0) (pa_cons pe_int pa_nil))) (fun _ _ => rfl)))) pss_nil)
      (pss_cons (ps_set (i := 2) nd rfl (Or.inl rfl) pe_int)
      (pss_cons (ps_for PassesOwn.never rfl (pi_range1 (by rfl) T.b_range (pa_cons (pe_ix (k_ix K) (pe_lst (pa_cons pe_int (pa_cons pe_int (pa_cons pe_int (pa_cons pe_int (pa_cons pe_int pa_nil)))))) (pv 1) (fun _ _ => rfl)) pa_nil)) (pg_name (i := 3) nd rfl (Or.inl rfl)) (pss_one (ps_set (i := 2) nd rfl (Or.inl rfl) (pe_op (k_add K) (pe_op (k_mul K) (pv 2) (pe_op op_pow pe_int pe_int)) (C8.pe_c (c__law_next T) hr (by decide) (by rfl) (pa_cons (pv 0) (pa_cons (pe_op op_pow pe_int pe_int) pa_nil)))))))
      (pss_one (ps_ret (pe_ix (k_ix K) (pe_lst (pa_cons (pv 2) (pa_cons (pe_op op_sub pe_int (pv 2)) (pa_cons (pe_op op_mod (pv 2) pe_int) (pa_cons (pe_op op_sub (pe_op op_sub (pe_op op_pow pe_int pe_int) pe_int) (pe_op op_mod (pv 2) pe_int)) pa_nil))))) (C8.pe_c (c__law_next T) hr (by decide) (by rfl) (pa_cons (pv 0) (pa_cons pe_int pa_nil))) (fun _ _ => rfl)))))))), ?_⟩
    refine (start_of (σ := [some (.ref q), none, none, none]) rfl ?_)
    walk_at "go"
    refine ⟨q, c, cells, n, 5, rfl, S, by omega, by omega, fun m1 H1 hm1 S1 B1 => ?_⟩
    walk_at "go"
    refine s_ifD (fun _ => ?_) (fun _ => ?_)
    · walk_at "go"
      refine ⟨by show 5 ≤ sizeLine; decide, fun p hp => ?_⟩
      walk_at "go"
      refine ⟨q, c, cells, n + 1, 5, rfl, S1.same (same_upd (Same.refl _) hp), by omega, by omega, fun m2 H2 hm2 S2 B2 => ?_⟩
      obtain ⟨x, hx, hat⟩ := pick_num (xs := [0, 1, -1, 10, -10]) hm2.1 hm2.2 (by intro x hx; simp at hx; unfold NumOk; rcases hx with rfl | rfl | rfl | rfl | rfl <;> decide)
      obtain ⟨i', l', s', hqq, _⟩ := S1.qq
      refine s_ixL (SqL.of (B2 _ _ upd_same (ne_of_none hqq hp).symm)) hat ?_
      exact k _ _ ⟨x, hx, rfl⟩ (S2.le (by omega)) ((B1.trans (But.of (same_upd (Same.refl _) hp))).trans B2)
    · walk_at "go"
      refine ⟨by show 5 ≤ sizeLine; decide, fun p hp => ?_⟩
      walk_at "go"
      obtain ⟨x, h2, h3⟩ := atI_ok (xs := [(1 : Int), 1, 1, 4, 12]) hm1.1 hm1.2
      have hx : 0 ≤ x ∧ x ≤ 12 := by
        have := List.mem_of_getElem? h2
        simp at this
        omega
      refine s_ixL (SqL.of upd_same) (atI_map h3) ?_
      refine s_rng1 (by omega) (by omega) (f_range (fun i σ H' => ∃ (far : Int) (v : Option V), σ = [some (.ref q), some (.int m1), some (.int far), v] ∧ (0 ≤ far ∧ far < 10 ^ (5 * i)) ∧ StAt H' q c cells (n + 1 + i) ∧ But q H H')
        ⟨0, none, rfl, ⟨by omega, by decide⟩, S1.le (by omega) |>.same (same_upd (Same.refl _) hp), B1.trans (But.of (same_upd (Same.refl _) hp))⟩ ?_ ?_)
      · rintro i σ H3 hi ⟨far, v, rfl, hf, S3, B3⟩
        walk_at "go"
        refine s_mulI (.inr (by decide)) ?_
        walk_at "go"
        refine ⟨q, c, cells, n + 1 + i, _, rfl, S3, by omega, by decide, fun m4 H4 hm4 S4 B4 => ?_⟩
        walk_at "go"
        refine ⟨far * 10 ^ (5 : Int).toNat + m4, some (.int (0 + i)), rfl, ?_, S4.le (by omega), B3.trans B4⟩
        have e5 : (10 : Int) ^ (5 : Int).toNat = 100000 := by decide
        rw [e5] at hm4 ⊢
        rw [show 5 * (i + 1) = 5 * i + 5 by omega, Int.pow_add]
        rw [show (10 : Int) ^ 5 = 100000 from by decide]
        omega
      · rintro σ H3 ⟨far, v, rfl, hf, S3, B3⟩
        have hf2 : far < 10 ^ 60 := Int.lt_of_lt_of_le hf.2 (by
          have : (10 : Nat) ^ (5 * x.toNat) ≤ 10 ^ 60 := Nat.pow_le_pow_right (by decide) (by omega)
          exact_mod_cast this)
        walk_at "go"
        refine ⟨by show 4 ≤ sizeLine; decide, fun p hp => ?_⟩
        walk_at "go"
        refine ⟨q, c, cells, n + 1 + x.toNat, 4, rfl, S3.same (same_upd (Same.refl _) hp), by omega, by omega, fun m2 H4 hm2 S4 B4 => ?_⟩
        obtain ⟨y, hy, hat⟩ := pick_num (xs := [far, 0 - far, far % 9, 10 ^ (60 : Int).toNat - 1 - far % 5]) hm2.1 hm2.2 (by
          intro y hy
          have e60 : (10 : Int) ^ (60 : Int).toNat = 10 ^ 60 := by decide
          rw [e60] at hy
          simp only [List.mem_cons, List.not_mem_nil, or_false] at hy
          unfold NumOk
          rcases hy with rfl | rfl | rfl | rfl <;> omega)
        obtain ⟨i', l', s', hqq, _⟩ := S3.qq
        refine s_ixL (SqL.of (B4 _ _ upd_same (ne_of_none hqq hp).symm)) hat ?_
        exact k _ _ ⟨y, hy, rfl⟩ (S4.le (by omega)) ((B3.trans (But.of (same_upd (Same.refl _) hp))).trans B4)
/-- the figures so far and what is left of the number -/
def Left (N : Nat) (l : List Nat) (L : Nat) : Prop := (l = [] ∧ L = N) ∨ (l ≠ [] ∧ ((L = 0 ∧ l = TL.numL N) ∨ (0 < L ∧ TL.numL L ++ l = TL.numL N)))
theorem Left.step {N : Nat} {l : List Nat} {L : Nat} (h : Left N l L) (g : 0 < L ∨ l = []) : Left N ((48 + L % 10) :: l) (L / 10) := by
  refine .inr ⟨by simp, ?_⟩
  have key : ∀ l' : List Nat, TL.numL L ++ l' = TL.numL N → (L / 10 = 0 ∧ (48 + L % 10) :: l' = TL.numL N) ∨ (0 < L / 10 ∧ TL.numL (L / 10) ++ ((48 + L % 10) :: l') = TL.numL N) := fun l' e => by
    by_cases c : L < 10
    · left
      rw [TL.numL_lt c] at e
      rw [Nat.mod_eq_of_lt c]
      exact ⟨by omega, e⟩
    · right
      rw [TL.numL_step (by omega), List.append_assoc] at e
      exact ⟨by omega, e⟩
  rcases h with ⟨rfl, rfl⟩ | ⟨hl, ⟨hL, _⟩ | ⟨_, e⟩⟩
  · exact key [] (List.append_nil _)
  · rcases g with g | g
    · omega
    · exact absurd g hl
  · exact key l e
theorem Left.len {N : Nat} {l : List Nat} {L : Nat} (h : Left N l L) : l.length ≤ (TL.numL N).length := by
  rcases h with ⟨rfl, _⟩ | ⟨_, ⟨_, rfl⟩ | ⟨_, e⟩⟩
  · simp
  · exact Nat.le_refl _
  · rw [← e, List.length_append]; omega
theorem dig_at {m : Int} (h0 : 0 ≤ m) (h1 : m < 10) : atI (Str.ofString "0123456789").cps.toList m = some (48 + m.toNat) := by
  have e : (Str.ofString "0123456789").cps.toList = (List.range 10).map (48 + ·) := by decide +kernel
  obtain ⟨k, rfl⟩ : ∃ k : Nat, m = (k : Int) := ⟨m.toNat, by omega⟩
  refine Lt.atI_nat ?_
  rw [e, List.getElem?_map, List.getElem?_range (by omega)]
  rfl
def spFigures : Sp := fun vs H Q _ => ∃ n : Int, vs = [.int n] ∧ NumOk n ∧ ∀ H', Same H H' → Q (vS (figL n)) H'
theorem c__law_figures (T : Txt w K mg A) : C8.Cal P w K mg base 1 "_law_figures" spFigures [] := by
  obtain ⟨f, fd, D, B⟩ := T.d__law_figures
  refine C8.cal0 D B .nil sc__law_figures (fun vs H Q E h => ?_) (fun cdv A' outer s H vs Q E hr h => ?_)
  · obtain ⟨n, rfl, _⟩ := h
    rfl
  · obtain ⟨n, rfl, hn, k⟩ := h
    have hu := hr.units
    have hu1 := hu_of hr
    have nd := sc__law_figures.nd
    refine ⟨_, (pss_cons (ps_set (i := 1) nd rfl (Or.inl rfl) pe_str)
      (pss_cons (ps_set (i := 2) nd rfl (Or.inl rfl) (pe_callB call_abs (by rfl) T.b_abs (by decide +kernel) (pa_cons (pv 0) pa_nil)))
      (pss_cons (ps_while PassesOwn.never (PW.pt (pw_or (pt_cmpR op_gt (pv 2) pe_int (nomark _)) (pw_or1 (pt_cmpR (k_eq K hu) (pv 1) pe_str (nomark _))))) (pss_cons (ps_set (i := 1) nd rfl (Or.inl rfl) (pe_op (k_add K) (pe_ix (k_ix K) pe_str (pe_op op_mod (pv 2) pe_int) (fun _ _ => rfl)) (pv 1)))
      (pss_one (ps_set (i := 2) nd rfl (Or.inl rfl) (pe_op op_fdivW (pv 2) pe_int)))))
      (pss_one (ps_ret (pe_op (k_add K) (pe_ix (k_ix K) (pe_lst (pa_cons pe_str (pa_cons pe_str pa_nil))) (pe_callTy k_int (by rfl) T.b_int (by decide +kernel) (pa_cons (pe_cmpR (k_lt K hu) (pv 0) pe_int (nomark _)) pa_nil)) (fun _ _ => rfl)) (pv 1))))))), ?_⟩
    refine (start_of (σ := [some (.int n), none, none]) rfl ?_)
    walk_at "go"
    refine ⟨n, rfl, ?_⟩
    have hlen := TL.numL_len (k := 60) (by decide) hn
    rw [show (if n < 0 then -n else n) = (n.natAbs : Int) from by split <;> omega]
    walk_at "go"
    refine ⟨fun m σ H' => ∃ (l : List Nat) (L : Nat), σ = [some (.int n), some (vS l), some (.int (L : Int))] ∧ Left n.natAbs l L ∧ m = L + (if l = [] then 1 else 0) ∧ Same H H', ⟨_, [], n.natAbs, rfl, .inl ⟨rfl, rfl⟩, rfl, Same.refl _⟩, ?_⟩
    rintro m σ H1 ⟨l, L, rfl, hL, rfl, s1⟩
    walk_at "go"
    by_cases h1 : 0 < L
    · refine s_ifT (decide_eq_true (by omega)) ?_
      walk_at "go"
      refine ⟨fun σ' H' => ∃ (l' : List Nat) (L' : Nat), σ' = [some (.int n), some (vS l'), some (.int (L' : Int))] ∧ Left n.natAbs l' L' ∧ (L' + (if l' = [] then 1 else 0) < L + (if l = [] then 1 else 0)) ∧ Same H H', fun σ' H' ⟨l', L', a1, a2, a3, a4⟩ => ⟨_, a3, l', L', a1, a2, rfl, a4⟩, ?_⟩
      walk_at "go"
      refine s_ixS (by decide +kernel) (dig_at (Int.emod_nonneg _ (by decide)) (Int.emod_lt_of_pos _ (by decide))) ?_
      walk_at "go"
      have st := hL.step (.inl h1)
      have hll := hL.len
      refine s_addS (by rw [len_sOf]; show 1 + l.length ≤ sizeLine; exact Nat.le_trans (show 1 + l.length ≤ 100 by omega) (by decide)) ?_
      walk_at "go"
      refine ⟨(48 + L % 10) :: l, L / 10, ?_, st, ?_, s1⟩
      · rw [show (⟨#[48 + ((L : Int) % 10).toNat]⟩ : Str) ++ sOf l = sOf ((48 + L % 10) :: l) from ?_]
        · rfl
        · have e1 : ((L : Int) % 10).toNat = L % 10 := by omega
          rw [e1]
          exact sOf_app [48 + L % 10] l
      · rw [if_neg (by simp)]
        split <;> omega
    · refine s_ifF (decide_eq_false (by omega)) ?_
      walk_at "go"
      by_cases h2 : l = []
      · refine s_ifT (decide_eq_true (by rw [h2]; decide +kernel)) ?_
        walk_at "go"
        refine ⟨fun σ' H' => ∃ (l' : List Nat) (L' : Nat), σ' = [some (.int n), some (vS l'), some (.int (L' : Int))] ∧ Left n.natAbs l' L' ∧ (L' + (if l' = [] then 1 else 0) < L + (if l = [] then 1 else 0)) ∧ Same H H', fun σ' H' ⟨l', L', a1, a2, a3, a4⟩ => ⟨_, a3, l', L', a1, a2, rfl, a4⟩, ?_⟩
        walk_at "go"
        refine s_ixS (by decide +kernel) (dig_at (Int.emod_nonneg _ (by decide)) (Int.emod_lt_of_pos _ (by decide))) ?_
        walk_at "go"
        have st := hL.step (.inr h2)
        have hll := hL.len
        refine s_addS (by rw [len_sOf]; show 1 + l.length ≤ sizeLine; exact Nat.le_trans (show 1 + l.length ≤ 100 by omega) (by decide)) ?_
        walk_at "go"
        refine ⟨(48 + L % 10) :: l, L / 10, ?_, st, ?_, s1⟩
        · rw [show (⟨#[48 + ((L : Int) % 10).toNat]⟩ : Str) ++ sOf l = sOf ((48 + L % 10) :: l) from ?_]
          · rfl
          · have e1 : ((L : Int) % 10).toNat = L % 10 := by omega
            rw [e1]
            exact sOf_app [48 + L % 10] l
        · rw [if_neg (by simp)]
          split <;> omega
      · refine s_ifF (decide_eq_false (fun e => h2 ?_)) ?_
        · rw [wd_of ""] at e
          exact sOf_inj e
        have e0 : l = TL.numL n.natAbs := by
          rcases hL with ⟨q, _⟩ | ⟨_, ⟨_, q⟩ | ⟨q, _⟩⟩
          · exact absurd q h2
          · exact q
          · exact absurd q h1
        subst e0
        walk_at "go"
        refine ⟨by show 2 ≤ sizeLine; decide, fun p hp => ?_⟩
        walk_at "go"
        have hs := k _ (same_upd (u := .lst [V.str (Str.ofString ""), V.str (Str.ofString "-")]) s1 hp)
        by_cases c : n < 0
        · rw [decide_eq_true c]
          refine s_ixL (SqL.of upd_same) (v := vS [45]) (atI_nat (i := 1) (by rw [wd_of "-"]; rfl)) ?_
          walk_at "go"
          refine s_addS (by rw [len_sOf, len_sOf]; exact Nat.le_trans (Nat.add_le_add_left hlen _) (by decide)) ?_
          rw [sOf_app]
          unfold figL at hs
          rw [if_pos c] at hs
          exact hs
        · rw [decide_eq_false c]
          refine s_ixL (SqL.of upd_same) (v := vS []) (atI_nat (i := 0) (by rw [wd_of ""]; rfl)) ?_
          walk_at "go"
          refine s_addS (by rw [len_sOf, len_sOf]; exact Nat.le_trans (Nat.add_le_add_left hlen _) (by decide)) ?_
          rw [sOf_app]
          unfold figL at hs
          rw [if_neg c] at hs
          exact hs
end
end Toy

set_option Elab.async false
set_option linter.all false
set_option maxRecDepth 100000
set_option maxHeartbeats 4000000
namespace Toy
open PySem PySem.Spec PyProof.Rows L2 Lt
local macro_rules
  | `(tactic| walk_at "get") => `(tactic| first
    | assumption
    | exact upd_same
    | ((with_reducible refine' get_new ?g1 ?g2); (case g1 => assumption); (case g2 => walk_at "get"))
    | ((with_reducible refine' get_ne ?g1 ?g2); (case g1 => assumption); (case g2 => walk_at "get"))
    | ((with_reducible refine' get_dif ?g1 ?g2 ?g3); (case g1 => walk_at "get"); (case g2 => walk_at "get"); (case g3 => (intro z; cases z)))
    | (refine' (by assumption : Same _ _) _ _ ?g1; (case g1 => walk_at "get")))
local macro_rules
  | `(tactic| walk_at "cls") => `(tactic| first | assumption)
local macro_rules
  | `(tactic| walk_at "sq") => `(tactic| first
    | assumption
    | exact SqL.of (by walk_at "get")
    | exact SqT.of (by walk_at "get")
    | exact FzT.sq (by assumption)
    | exact Same.seq (by assumption) (by assumption))
local macro_rules
  | `(tactic| walk_at "st") => `(tactic| first
    | with_reducible refine s_seq ?_
    | with_reducible refine s_cons ?_
    | with_reducible refine s_nil ?_
    | ((with_reducible refine' s_var ?g1 ?g2); (case g1 => rfl))
    | with_reducible refine s_c ?_
    | with_reducible refine s_op ?_
    | with_reducible refine s_addI ?_
    | with_reducible refine s_i0 ?_
    | with_reducible refine s_ret ?_
    | with_reducible refine s_retN ?_
    | with_reducible refine s_drop ?_
    | with_reducible refine s_next ?_
    | with_reducible refine s_ifs ?_
    | with_reducible refine s_asg ?_
    | with_reducible refine s_gname ?_
    | with_reducible refine s_gnil ?_
    | with_reducible refine s_gcons ?_
    | with_reducible refine s_gsub ?_
    | with_reducible refine s_un ?_
    | with_reducible refine s_cb ?_
    | with_reducible refine s_call ?_
    | with_reducible refine s_meth ?_
    | ((with_reducible refine' s_meth2 ?g1 ?g2 ?g3); (case g1 => walk_at "get"); (case g2 => rfl))
    | with_reducible refine s_test ?_
    | with_reducible refine s_tb ?_
    | with_reducible refine s_exbl ?_
    | with_reducible refine s_exint ?_
    | with_reducible refine s_and ?_
    | with_reducible refine s_or ?_
    | with_reducible refine s_not ?_
    | with_reducible refine s_andV ?_
    | with_reducible refine s_orV ?_
    | with_reducible refine s_notV ?_
    | with_reducible refine s_ifx ?_
    | with_reducible refine s_yes ?_
    | with_reducible refine s_tup ?_
    | with_reducible refine s_lst ?_
    | with_reducible refine s_fld ?_
    | ((with_reducible refine' s_fld2 ?g1 ?g2 ?g3 ?g4 ?g5); (case g1 => walk_at "get"); (case g2 => walk_at "cls"); (case g3 => walk_at "cls"); (case g4 => rfl))
    | with_reducible refine s_sfld ?_
    | with_reducible refine s_sl ?_
    | with_reducible refine s_nopart ?_
    | with_reducible refine s_part ?_
    | with_reducible refine s_for ?_
    | with_reducible refine s_ilist ?_
    | with_reducible refine s_itup ?_
    | with_reducible refine s_irng1 ?_
    | with_reducible refine s_bm ?_
    | with_reducible refine s_bm0 ?_
    | with_reducible refine s_dget ?_
    | with_reducible refine s_din ?_
    | with_reducible refine s_dnotin ?_
    | with_reducible refine s_dput ?_
    | with_reducible refine s_dget2 ?_
    | with_reducible refine s_dget1 ?_
    | with_reducible refine s_eqI ?_
    | with_reducible refine s_eqS ?_
    | with_reducible refine s_neI ?_
    | with_reducible refine s_neB ?_
    | with_reducible refine s_neS ?_
    | with_reducible refine s_ltI ?_
    | with_reducible refine s_isN ?_
    | with_reducible refine s_isNotN ?_
    | with_reducible refine s_chain ?_
    | with_reducible refine s_make ?_
    | with_reducible refine s_irng2 ?_
    | with_reducible refine s_intI ?_
    | with_reducible refine s_intB ?_
    | ((with_reducible refine' s_mod ?g1 ?g2); (case g1 => omega))
    | ((with_reducible refine' s_fdiv ?g1 ?g2); (case g1 => omega))
    | ((with_reducible refine' s_pow ?g1 ?g2); (case g1 => omega))
    | with_reducible refine s_dc ?_
    | with_reducible refine s_lc ?_
    | with_reducible refine s_iitems ?_
    | with_reducible refine s_ikeys ?_
    | ((with_reducible refine' s_sfld2 ?g1 ?g2 ?g3 ?g4 ?g5); (case g1 => walk_at "get"); (case g2 => walk_at "cls"); (case g3 => walk_at "cls"); (case g4 => exact len1000 rfl))
    | with_reducible refine s_ex2 ?_
    | with_reducible refine s_dnew ?_
    | with_reducible refine s_istr ?_
    | with_reducible refine s_exstr ?_
    | with_reducible refine s_inSg ?_
    | with_reducible refine s_notInSg ?_
    | with_reducible refine s_slb ?_
    | with_reducible refine s_m1 ?_
    | with_reducible refine s_strS ?_
    | with_reducible refine s_kget2 ?_
    | with_reducible refine s_neg ?_
    | ((with_reducible refine' s_ifT ?g1 ?g2); (case g1 => rfl))
    | ((with_reducible refine' s_ifF ?g1 ?g2); (case g1 => rfl))
    | with_reducible refine s_isi_non_int ?_
    | with_reducible refine s_isi_non_bool ?_
    | with_reducible refine s_isi_non_str ?_
    | with_reducible refine s_isi_non_tuple ?_
    | with_reducible refine s_isi_non_list ?_
    | with_reducible refine s_isi_bl_int ?_
    | with_reducible refine s_isi_bl_bool ?_
    | with_reducible refine s_isi_bl_str ?_
    | with_reducible refine s_isi_bl_tuple ?_
    | with_reducible refine s_isi_bl_list ?_
    | with_reducible refine s_isi_int_int ?_
    | with_reducible refine s_isi_int_bool ?_
    | with_reducible refine s_isi_int_str ?_
    | with_reducible refine s_isi_int_tuple ?_
    | with_reducible refine s_isi_int_list ?_
    | with_reducible refine s_isi_str_int ?_
    | with_reducible refine s_isi_str_bool ?_
    | with_reducible refine s_isi_str_str ?_
    | with_reducible refine s_isi_str_tuple ?_
    | with_reducible refine s_isi_str_list ?_
    | ((with_reducible refine' s_isi_tup_int ?g1 ?g2); (case g1 => walk_at "get"))
    | ((with_reducible refine' s_isi_tup_bool ?g1 ?g2); (case g1 => walk_at "get"))
    | ((with_reducible refine' s_isi_tup_str ?g1 ?g2); (case g1 => walk_at "get"))
    | ((with_reducible refine' s_isi_tup_tuple ?g1 ?g2); (case g1 => walk_at "get"))
    | ((with_reducible refine' s_isi_tup_list ?g1 ?g2); (case g1 => walk_at "get"))
    | ((with_reducible refine' s_isi_lst_int ?g1 ?g2); (case g1 => walk_at "get"))
    | ((with_reducible refine' s_isi_lst_bool ?g1 ?g2); (case g1 => walk_at "get"))
    | ((with_reducible refine' s_isi_lst_str ?g1 ?g2); (case g1 => walk_at "get"))
    | ((with_reducible refine' s_isi_lst_tuple ?g1 ?g2); (case g1 => walk_at "get"))
    | ((with_reducible refine' s_isi_lst_list ?g1 ?g2); (case g1 => walk_at "get"))
    | ((with_reducible refine' s_isi_dK_int ?g1 ?g2); (case g1 => walk_at "get"))
    | ((with_reducible refine' s_isi_dK_bool ?g1 ?g2); (case g1 => walk_at "get"))
    | ((with_reducible refine' s_isi_dK_str ?g1 ?g2); (case g1 => walk_at "get"))
    | ((with_reducible refine' s_isi_dK_tuple ?g1 ?g2); (case g1 => walk_at "get"))
    | ((with_reducible refine' s_isi_dK_list ?g1 ?g2); (case g1 => walk_at "get")))
local macro_rules
  | `(tactic| walk_at "go") => `(tactic| (repeat walk_at "st"))

section
variable {P : Program} {w : World} {K : PySem.W.Frag} {mg : Str → Option Value} {base : Heap} {A : Adr}
theorem small2000 {n : Nat} (h : n ≤ 2000) : n ≤ sizeLine := Nat.le_trans h (by decide)
theorem s_cat {a b : List Nat} {H : Hp} {Q : VK} (h : a.length + b.length ≤ 2000) (q : Q (vS (a ++ b)) H) : rAdd3 K (vS a) (vS b) H Q := s_addS (by rw [len_sOf, len_sOf]; exact small2000 h) (by rw [sOf_app]; exact q)
theorem s_catL {s : String} {b : List Nat} {H : Hp} {Q : VK} (h : (wd s).length + b.length ≤ 2000) (q : Q (vS (wd s ++ b)) H) : rAdd3 K (.str (Str.ofString s)) (vS b) H Q := by rw [wd_of]; exact s_cat h q
theorem s_catR {s : String} {a : List Nat} {H : Hp} {Q : VK} (h : a.length + (wd s).length ≤ 2000) (q : Q (vS (a ++ wd s)) H) : rAdd3 K (vS a) (.str (Str.ofString s)) H Q := by rw [wd_of]; exact s_cat h q
def IsPair (H : Hp) (v : V) : Prop := ∃ (t a : Addr) (d : Deed), v = .ref t ∧ d.Ok ∧ H t = some (.tup [.ref a, vS d.line]) ∧ DeedAt H a d.items
theorem But.tup {q : Addr} {H H' : Hp} {xs : List V} {a : Addr} {ys : List V} (b : But q H H') (hq : H q = some (.lst xs)) (h : H a = some (.tup ys)) : H' a = some (.tup ys) := b a _ h (by rintro rfl; rw [hq] at h; cases h)
theorem DeedAt.but {q : Addr} {H H' : Hp} {xs : List V} {t : Addr} {its : List It2} (b : But q H H') (hq : H q = some (.lst xs)) (h : DeedAt H t its) : DeedAt H' t its := by
  obtain ⟨ys, h1, h2⟩ := h
  refine ⟨ys, b.tup hq h1, Paired.mapP h2 fun x i hi => ?_⟩
  cases i with
  | inl v => exact hi
  | inr vs =>
    obtain ⟨p, e, hp⟩ := hi
    exact ⟨p, e, b.tup hq hp⟩
theorem IsPair.but {q : Addr} {H H' : Hp} {xs : List V} {v : V} (b : But q H H') (hq : H q = some (.lst xs)) (h : IsPair H v) : IsPair H' v := by
  obtain ⟨t, a, d, e, hd, h1, h2⟩ := h
  exact ⟨t, a, d, e, hd, b.tup hq h1, h2.but b hq⟩
theorem len_write : (wd "write ").length = 6 := rfl
theorem len_cut : (wd " cut ").length = 5 := rfl
theorem len_set : (wd " set ").length = 5 := rfl
theorem len_b : (wd " ").length = 1 := rfl
theorem len_read : (wd "read ").length = 5 := rfl
theorem len_at : (wd " at ").length = 4 := rfl
theorem line_cut (h : Int) (key : List Nat) : wd "write " ++ figL h ++ wd " cut " ++ key = (Deed.cut h key).line := by
  show _ = wd "write" ++ ([32] ++ (figL h ++ ([32] ++ (wd "cut" ++ ([32] ++ key)))))
  rw [show wd "write " = wd "write" ++ [32] from rfl, show wd " cut " = [32] ++ wd "cut" ++ [32] from rfl]
  simp only [List.append_assoc]
theorem line_put (h : Int) (key : List Nat) (v : Int) : wd "write " ++ figL h ++ wd " set " ++ key ++ wd " " ++ figL v = (Deed.put h key v).line := by
  show _ = wd "write" ++ ([32] ++ (figL h ++ ([32] ++ (wd "set" ++ ([32] ++ (key ++ ([32] ++ figL v)))))))
  rw [show wd "write " = wd "write" ++ [32] from rfl, show wd " set " = [32] ++ wd "set" ++ [32] from rfl, show wd " " = [32] from rfl]
  simp only [List.append_assoc]
theorem line_read (h : Int) (key : List Nat) : wd "read " ++ figL h ++ wd " " ++ key = (Deed.read h key).line := by
  show _ = wd "read" ++ ([32] ++ (figL h ++ ([32] ++ key)))
  rw [show wd "read " = wd "read" ++ [32] from rfl, show wd " " = [32] from rfl]
  simp only [List.append_assoc]
theorem line_readAt (h : Int) (key : List Nat) (t : Int) : wd "read " ++ figL h ++ wd " " ++ key ++ wd " at " ++ figL t = (Deed.readAt h key t).line := by
  show _ = wd "read" ++ ([32] ++ (figL h ++ ([32] ++ (key ++ ([32] ++ (wd "at" ++ ([32] ++ figL t)))))))
  rw [show wd "read " = wd "read" ++ [32] from rfl, show wd " at " = [32] ++ wd "at" ++ [32] from rfl, show wd " " = [32] from rfl]
  simp only [List.append_assoc]
theorem c__law_write (T : Txt w K mg A) : C8.Cal P w K mg base 3 "_law_write" (spDraw 100 IsPair) [] := by
  obtain ⟨f, fd, D, B⟩ := T.d__law_write
  refine C8.cal0 D B .nil sc__law_write (fun vs H Q E h => ?_) (fun cdv A' outer s H vs Q E hr h => ?_)
  · obtain ⟨q, c, cells, n, rfl, _⟩ := h
    rfl
  · obtain ⟨q, c, cells, n, rfl, S, hn, k⟩ := h
    have hu := hr.units
    have hu1 := hu_of hr
    have nd := sc__law_write.nd
    refine ⟨_, (pss_cons (ps_set (i := 1) nd rfl (Or.inl rfl) (C8.pe_c (c__law_number T) hr (by decide) (by rfl) (pa_cons (pv 0) pa_nil)))
      (pss_cons (ps_set (i := 2) nd rfl (Or.inl rfl) (C8.pe_c (c__law_key T) hr (by decide) (by rfl) (pa_cons (pv 0) pa_nil)))
      (pss_cons (ps_set (i := 3) nd rfl (Or.inl rfl) (pe_op (k_add K) pe_str (C8.pe_c (c__law_figures T) hr (by decide) (by rfl) (pa_cons (pv 1) pa_nil))))
      (pss_cons (ps_if (pt_cmpR (k_eq K hu) (C8.pe_c (c__law_next T) hr (by decide) (by rfl) (pa_cons (pv 0) (pa_cons pe_int pa_nil))) pe_int (nomark _)) (pss_one (ps_ret (pe_tup (pa_cons (pe_tup (pa_cons pe_str (pa_cons (pv 1) (pa_cons (pe_tup (pa_cons pe_str (pa_cons (pv 2) pa_nil))) pa_nil)))) (pa_cons (pe_op (k_add K) (pe_op (k_add K) (pv 3) pe_str) (pv 2)) pa_nil))))) pss_nil)
      (pss_cons (ps_set (i := 4) nd rfl (Or.inl rfl) (C8.pe_c (c__law_number T) hr (by decide) (by rfl) (pa_cons (pv 0) pa_nil)))
      (pss_one (ps_ret (pe_tup (pa_cons (pe_tup (pa_cons pe_str (pa_cons (pv 1) (pa_cons (pe_tup (pa_cons pe_str (pa_cons (pv 2) (pa_cons (pv 4) pa_nil)))) pa_nil)))) (pa_cons (pe_op (k_add K) (pe_op (k_add K) (pe_op (k_add K) (pe_op (k_add K) (pv 3) pe_str) (pv 2)) pe_str) (C8.pe_c (c__law_figures T) hr (by decide) (by rfl) (pa_cons (pv 4) pa_nil))) pa_nil)))))))))), ?_⟩
    refine (start_of (σ := [some (.ref q), none, none, none, none]) rfl ?_)
    walk_at "go"
    refine ⟨q, c, cells, n, rfl, S, by omega, ?_⟩
    rintro v1 H1 ⟨h, hh, rfl⟩ S1 B1
    walk_at "go"
    refine ⟨q, c, cells, _, rfl, S1, by omega, ?_⟩
    rintro v2 H2 ⟨key, hk, rfl⟩ S2 B2
    walk_at "go"
    refine ⟨h, rfl, hh, fun H3 s3 => ?_⟩
    have lf := figL_len hh
    have lk := key_len hk
    refine s_catL (by rw [show (wd "write ").length = 6 from rfl]; omega) ?_
    walk_at "go"
    refine ⟨q, c, cells, _, 2, rfl, S2.same s3, by omega, by omega, fun m4 H4 hm4 S4 B4 => ?_⟩
    walk_at "go"
    have B04 : But q H H4 := ((B1.trans B2).trans (But.of s3)).trans B4
    refine s_ifD (fun _ => ?_) (fun _ => ?_)
    · walk_at "go"
      refine ⟨by show 2 ≤ sizeLine; decide, fun p hp => ?_⟩
      walk_at "go"
      refine ⟨by show 3 ≤ sizeLine; decide, fun a ha => ?_⟩
      walk_at "go"
      refine s_catR (by rw [List.length_append, show (wd "write ").length = 6 from rfl, show (wd " cut ").length = 5 from rfl]; omega) ?_
      walk_at "go"
      refine s_cat (by rw [List.length_append, List.length_append, show (wd "write ").length = 6 from rfl, show (wd " cut ").length = 5 from rfl]; omega) ?_
      walk_at "go"
      refine ⟨by show 2 ≤ sizeLine; decide, fun t ht => ?_⟩
      have sa := same_upd (u := .tup [.str (Str.ofString "write"), .int h, .ref p]) (same_upd (u := .tup [.str (Str.ofString "cut"), vS key]) (Same.refl H4) hp) ha
      have st := same_upd (u := .tup [.ref a, vS (wd "write " ++ figL h ++ wd " cut " ++ key)]) sa ht
      refine k _ _ ⟨t, a, .cut h key, rfl, ⟨hh, hk⟩, ?_, ?_⟩ ((S4.same st).le (by omega)) (B04.trans (But.of st))
      · rw [upd_same, line_cut]
      · refine ⟨_, get_new ht upd_same, .cons ?_ (.cons rfl (.cons ⟨p, rfl, ?_⟩ .nil))⟩
        · show V.str (Str.ofString "write") = vS (wd "write")
          rw [wd_of]
        · rw [get_new ht (get_new ha upd_same), wd_of]
    · walk_at "go"
      refine ⟨q, c, cells, _, rfl, S4, by omega, ?_⟩
      rintro v5 H5 ⟨v, hv, rfl⟩ S5 B5
      have lv := figL_len hv
      walk_at "go"
      refine ⟨by show 3 ≤ sizeLine; decide, fun p hp => ?_⟩
      walk_at "go"
      refine ⟨by show 3 ≤ sizeLine; decide, fun a ha => ?_⟩
      walk_at "go"
      refine s_catR (by simp only [List.length_append, len_write, len_cut, len_set, len_b, len_read, len_at]; omega) ?_
      walk_at "go"
      refine s_cat (by simp only [List.length_append, len_write, len_cut, len_set, len_b, len_read, len_at]; omega) ?_
      walk_at "go"
      refine s_catR (by simp only [List.length_append, len_write, len_cut, len_set, len_b, len_read, len_at]; omega) ?_
      walk_at "go"
      refine ⟨v, rfl, hv, fun H6 s6 => ?_⟩
      refine s_cat (by simp only [List.length_append, len_write, len_cut, len_set, len_b, len_read, len_at]; omega) ?_
      walk_at "go"
      refine ⟨by show 2 ≤ sizeLine; decide, fun t ht => ?_⟩
      have h6a := s6 _ _ (upd_same (H := upd H5 p (.tup [.str (Str.ofString "set"), vS key, .int v])) (a := a) (o := .tup [.str (Str.ofString "write"), .int h, .ref p]))
      have h6p := s6 _ _ (get_new (u := .tup [.str (Str.ofString "write"), .int h, .ref p]) ha (upd_same (H := H5) (a := p) (o := .tup [.str (Str.ofString "set"), vS key, .int v])))
      have sa := (same_upd (u := .tup [.str (Str.ofString "write"), .int h, .ref p]) (same_upd (u := .tup [.str (Str.ofString "set"), vS key, .int v]) (Same.refl H5) hp) ha).trans s6
      have st := same_upd (u := .tup [.ref a, vS (wd "write " ++ figL h ++ wd " set " ++ key ++ wd " " ++ figL v)]) sa ht
      refine k _ _ ⟨t, a, .put h key v, rfl, ⟨hh, hk, hv⟩, ?_, ?_⟩ ((S5.same st).le (by omega)) ((B04.trans B5).trans (But.of st))
      · rw [upd_same, line_put]
      · refine ⟨_, get_new ht h6a, .cons ?_ (.cons rfl (.cons ⟨p, rfl, ?_⟩ .nil))⟩
        · show V.str (Str.ofString "write") = vS (wd "write")
          rw [wd_of]
        · rw [get_new ht h6p, wd_of]
theorem c__law_reading (T : Txt w K mg A) : C8.Cal P w K mg base 3 "_law_reading" (spDraw 100 IsPair) [] := by
  obtain ⟨f, fd, D, B⟩ := T.d__law_reading
  refine C8.cal0 D B .nil sc__law_reading (fun vs H Q E h => ?_) (fun cdv A' outer s H vs Q E hr h => ?_)
  · obtain ⟨q, c, cells, n, rfl, _⟩ := h
    rfl
  · obtain ⟨q, c, cells, n, rfl, S, hn, k⟩ := h
    have hu := hr.units
    have hu1 := hu_of hr
    have nd := sc__law_reading.nd
    refine ⟨_, (pss_cons (ps_set (i := 1) nd rfl (Or.inl rfl) (C8.pe_c (c__law_number T) hr (by decide) (by rfl) (pa_cons (pv 0) pa_nil)))
      (pss_cons (ps_set (i := 2) nd rfl (Or.inl rfl) (C8.pe_c (c__law_key T) hr (by decide) (by rfl) (pa_cons (pv 0) pa_nil)))
      (pss_cons (ps_set (i := 3) nd rfl (Or.inl rfl) (pe_op (k_add K) (pe_op (k_add K) (pe_op (k_add K) pe_str (C8.pe_c (c__law_figures T) hr (by decide) (by rfl) (pa_cons (pv 1) pa_nil))) pe_str) (pv 2)))
      (pss_cons (ps_if (pt_cmpR (k_eq K hu) (C8.pe_c (c__law_next T) hr (by decide) (by rfl) (pa_cons (pv 0) (pa_cons pe_int pa_nil))) pe_int (nomark _)) (pss_one (ps_ret (pe_tup (pa_cons (pe_tup (pa_cons pe_str (pa_cons (pv 1) (pa_cons (pv 2) (pa_cons pe_non pa_nil))))) (pa_cons (pv 3) pa_nil))))) pss_nil)
      (pss_cons (ps_set (i := 4) nd rfl (Or.inl rfl) (C8.pe_c (c__law_number T) hr (by decide) (by rfl) (pa_cons (pv 0) pa_nil)))
      (pss_one (ps_ret (pe_tup (pa_cons (pe_tup (pa_cons pe_str (pa_cons (pv 1) (pa_cons (pv 2) (pa_cons (pv 4) pa_nil))))) (pa_cons (pe_op (k_add K) (pe_op (k_add K) (pv 3) pe_str) (C8.pe_c (c__law_figures T) hr (by decide) (by rfl) (pa_cons (pv 4) pa_nil))) pa_nil)))))))))), ?_⟩
    refine (start_of (σ := [some (.ref q), none, none, none, none]) rfl ?_)
    walk_at "go"
    refine ⟨q, c, cells, n, rfl, S, by omega, ?_⟩
    rintro v1 H1 ⟨h, hh, rfl⟩ S1 B1
    walk_at "go"
    refine ⟨q, c, cells, _, rfl, S1, by omega, ?_⟩
    rintro v2 H2 ⟨key, hk, rfl⟩ S2 B2
    walk_at "go"
    refine ⟨h, rfl, hh, fun H3 s3 => ?_⟩
    have lf := figL_len hh
    have lk := key_len hk
    refine s_catL (by simp only [List.length_append, len_write, len_cut, len_set, len_b, len_read, len_at]; omega) ?_
    walk_at "go"
    refine s_catR (by simp only [List.length_append, len_write, len_cut, len_set, len_b, len_read, len_at]; omega) ?_
    walk_at "go"
    refine s_cat (by simp only [List.length_append, len_write, len_cut, len_set, len_b, len_read, len_at]; omega) ?_
    walk_at "go"
    refine ⟨q, c, cells, _, 2, rfl, S2.same s3, by omega, by omega, fun m4 H4 hm4 S4 B4 => ?_⟩
    walk_at "go"
    have B04 : But q H H4 := ((B1.trans B2).trans (But.of s3)).trans B4
    refine s_ifD (fun _ => ?_) (fun _ => ?_)
    · walk_at "go"
      refine ⟨by show 4 ≤ sizeLine; decide, fun a ha => ?_⟩
      walk_at "go"
      refine ⟨by show 2 ≤ sizeLine; decide, fun t ht => ?_⟩
      have sa := same_upd (u := .tup [.str (Str.ofString "read"), .int h, vS key, .non]) (Same.refl H4) ha
      have st := same_upd (u := .tup [.ref a, vS (wd "read " ++ figL h ++ wd " " ++ key)]) sa ht
      refine k _ _ ⟨t, a, .read h key, rfl, ⟨hh, hk⟩, ?_, ?_⟩ ((S4.same st).le (by omega)) (B04.trans (But.of st))
      · rw [upd_same, line_read]
      · refine ⟨_, get_new ht upd_same, .cons ?_ (.cons rfl (.cons rfl (.cons rfl .nil)))⟩
        show V.str (Str.ofString "read") = vS (wd "read")
        rw [wd_of]
    · walk_at "go"
      refine ⟨q, c, cells, _, rfl, S4, by omega, ?_⟩
      rintro v5 H5 ⟨v, hv, rfl⟩ S5 B5
      have lv := figL_len hv
      walk_at "go"
      refine ⟨by show 4 ≤ sizeLine; decide, fun a ha => ?_⟩
      walk_at "go"
      refine s_catR (by simp only [List.length_append, len_write, len_cut, len_set, len_b, len_read, len_at]; omega) ?_
      walk_at "go"
      refine ⟨v, rfl, hv, fun H6 s6 => ?_⟩
      refine s_cat (by simp only [List.length_append, len_write, len_cut, len_set, len_b, len_read, len_at]; omega) ?_
      walk_at "go"
      refine ⟨by show 2 ≤ sizeLine; decide, fun t ht => ?_⟩
      have h6a := s6 _ _ (upd_same (H := H5) (a := a) (o := .tup [.str (Str.ofString "read"), .int h, vS key, .int v]))
      have sa := (same_upd (u := .tup [.str (Str.ofString "read"), .int h, vS key, .int v]) (Same.refl H5) ha).trans s6
      have st := same_upd (u := .tup [.ref a, vS (wd "read " ++ figL h ++ wd " " ++ key ++ wd " at " ++ figL v)]) sa ht
      refine k _ _ ⟨t, a, .readAt h key v, rfl, ⟨hh, hk, hv⟩, ?_, ?_⟩ ((S5.same st).le (by omega)) ((B04.trans B5).trans (But.of st))
      · rw [upd_same, line_readAt]
      · refine ⟨_, get_new ht h6a, .cons ?_ (.cons rfl (.cons rfl (.cons rfl .nil)))⟩
        show V.str (Str.ofString "read") = vS (wd "read")
        rw [wd_of]
end
end Toy

set_option Elab.async false
set_option linter.all false
set_option maxRecDepth 100000
set_option maxHeartbeats 4000000
namespace Toy
open PySem PySem.Spec PyProof.Rows L2 Lt
local macro_rules
  | `(tactic| walk_at "get") => `(tactic| first
    | assumption
    | exact upd_same
    | ((with_reducible refine' get_new ?g1 ?g2); (case g1 => assumption); (case g2 => walk_at "get"))
    | ((with_reducible refine' get_ne ?g1 ?g2); (case g1 => assumption); (case g2 => walk_at "get"))
    | ((with_reducible refine' get_dif ?g1 ?g2 ?g3); (case g1 => walk_at "get"); (case g2 => walk_at "get"); (case g3 => (intro z; cases z)))
    | (refine' (by assumption : Same _ _) _ _ ?g1; (case g1 => walk_at "get")))
local macro_rules
  | `(tactic| walk_at "cls") => `(tactic| first | assumption)
local macro_rules
  | `(tactic| walk_at "sq") => `(tactic| first
    | assumption
    | exact SqL.of (by walk_at "get")
    | exact SqT.of (by walk_at "get")
    | exact FzT.sq (by assumption)
    | exact Same.seq (by assumption) (by assumption))
local macro_rules
  | `(tactic| walk_at "st") => `(tactic| first
    | with_reducible refine s_seq ?_
    | with_reducible refine s_cons ?_
    | with_reducible refine s_nil ?_
    | ((with_reducible refine' s_var ?g1 ?g2); (case g1 => rfl))
    | with_reducible refine s_c ?_
    | with_reducible refine s_op ?_
    | with_reducible refine s_addI ?_
    | with_reducible refine s_i0 ?_
    | with_reducible refine s_ret ?_
    | with_reducible refine s_retN ?_
    | with_reducible refine s_drop ?_
    | with_reducible refine s_next ?_
    | with_reducible refine s_ifs ?_
    | with_reducible refine s_asg ?_
    | with_reducible refine s_gname ?_
    | with_reducible refine s_gnil ?_
    | with_reducible refine s_gcons ?_
    | with_reducible refine s_gsub ?_
    | with_reducible refine s_un ?_
    | with_reducible refine s_cb ?_
    | with_reducible refine s_call ?_
    | with_reducible refine s_meth ?_
    | ((with_reducible refine' s_meth2 ?g1 ?g2 ?g3); (case g1 => walk_at "get"); (case g2 => rfl))
    | with_reducible refine s_test ?_
    | with_reducible refine s_tb ?_
    | with_reducible refine s_exbl ?_
    | with_reducible refine s_exint ?_
    | with_reducible refine s_and ?_
    | with_reducible refine s_or ?_
    | with_reducible refine s_not ?_
    | with_reducible refine s_andV ?_
    | with_reducible refine s_orV ?_
    | with_reducible refine s_notV ?_
    | with_reducible refine s_ifx ?_
    | with_reducible refine s_yes ?_
    | with_reducible refine s_tup ?_
    | with_reducible refine s_lst ?_
    | with_reducible refine s_fld ?_
    | ((with_reducible refine' s_fld2 ?g1 ?g2 ?g3 ?g4 ?g5); (case g1 => walk_at "get"); (case g2 => walk_at "cls"); (case g3 => walk_at "cls"); (case g4 => rfl))
    | with_reducible refine s_sfld ?_
    | with_reducible refine s_sl ?_
    | with_reducible refine s_nopart ?_
    | with_reducible refine s_part ?_
    | with_reducible refine s_for ?_
    | with_reducible refine s_ilist ?_
    | with_reducible refine s_itup ?_
    | with_reducible refine s_irng1 ?_
    | with_reducible refine s_bm ?_
    | with_reducible refine s_bm0 ?_
    | with_reducible refine s_dget ?_
    | with_reducible refine s_din ?_
    | with_reducible refine s_dnotin ?_
    | with_reducible refine s_dput ?_
    | with_reducible refine s_dget2 ?_
    | with_reducible refine s_dget1 ?_
    | with_reducible refine s_eqI ?_
    | with_reducible refine s_eqS ?_
    | with_reducible refine s_neI ?_
    | with_reducible refine s_neB ?_
    | with_reducible refine s_neS ?_
    | with_reducible refine s_ltI ?_
    | with_reducible refine s_isN ?_
    | with_reducible refine s_isNotN ?_
    | with_reducible refine s_chain ?_
    | with_reducible refine s_make ?_
    | with_reducible refine s_irng2 ?_
    | with_reducible refine s_intI ?_
    | with_reducible refine s_intB ?_
    | ((with_reducible refine' s_mod ?g1 ?g2); (case g1 => omega))
    | ((with_reducible refine' s_fdiv ?g1 ?g2); (case g1 => omega))
    | ((with_reducible refine' s_pow ?g1 ?g2); (case g1 => omega))
    | with_reducible refine s_dc ?_
    | with_reducible refine s_lc ?_
    | with_reducible refine s_iitems ?_
    | with_reducible refine s_ikeys ?_
    | ((with_reducible refine' s_sfld2 ?g1 ?g2 ?g3 ?g4 ?g5); (case g1 => walk_at "get"); (case g2 => walk_at "cls"); (case g3 => walk_at "cls"); (case g4 => exact len1000 rfl))
    | with_reducible refine s_ex2 ?_
    | with_reducible refine s_dnew ?_
    | with_reducible refine s_istr ?_
    | with_reducible refine s_exstr ?_
    | with_reducible refine s_inSg ?_
    | with_reducible refine s_notInSg ?_
    | with_reducible refine s_slb ?_
    | with_reducible refine s_m1 ?_
    | with_reducible refine s_strS ?_
    | with_reducible refine s_kget2 ?_
    | with_reducible refine s_neg ?_
    | ((with_reducible refine' s_ifT ?g1 ?g2); (case g1 => rfl))
    | ((with_reducible refine' s_ifF ?g1 ?g2); (case g1 => rfl))
    | with_reducible refine s_isi_non_int ?_
    | with_reducible refine s_isi_non_bool ?_
    | with_reducible refine s_isi_non_str ?_
    | with_reducible refine s_isi_non_tuple ?_
    | with_reducible refine s_isi_non_list ?_
    | with_reducible refine s_isi_bl_int ?_
    | with_reducible refine s_isi_bl_bool ?_
    | with_reducible refine s_isi_bl_str ?_
    | with_reducible refine s_isi_bl_tuple ?_
    | with_reducible refine s_isi_bl_list ?_
    | with_reducible refine s_isi_int_int ?_
    | with_reducible refine s_isi_int_bool ?_
    | with_reducible refine s_isi_int_str ?_
    | with_reducible refine s_isi_int_tuple ?_
    | with_reducible refine s_isi_int_list ?_
    | with_reducible refine s_isi_str_int ?_
    | with_reducible refine s_isi_str_bool ?_
    | with_reducible refine s_isi_str_str ?_
    | with_reducible refine s_isi_str_tuple ?_
    | with_reducible refine s_isi_str_list ?_
    | ((with_reducible refine' s_isi_tup_int ?g1 ?g2); (case g1 => walk_at "get"))
    | ((with_reducible refine' s_isi_tup_bool ?g1 ?g2); (case g1 => walk_at "get"))
    | ((with_reducible refine' s_isi_tup_str ?g1 ?g2); (case g1 => walk_at "get"))
    | ((with_reducible refine' s_isi_tup_tuple ?g1 ?g2); (case g1 => walk_at "get"))
    | ((with_reducible refine' s_isi_tup_list ?g1 ?g2); (case g1 => walk_at "get"))
    | ((with_reducible refine' s_isi_lst_int ?g1 ?g2); (case g1 => walk_at "get"))
    | ((with_reducible refine' s_isi_lst_bool ?g1 ?g2); (case g1 => walk_at "get"))
    | ((with_reducible refine' s_isi_lst_str ?g1 ?g2); (case g1 => walk_at "get"))
    | ((with_reducible refine' s_isi_lst_tuple ?g1 ?g2); (case g1 => walk_at "get"))
    | ((with_reducible refine' s_isi_lst_list ?g1 ?g2); (case g1 => walk_at "get"))
    | ((with_reducible refine' s_isi_dK_int ?g1 ?g2); (case g1 => walk_at "get"))
    | ((with_reducible refine' s_isi_dK_bool ?g1 ?g2); (case g1 => walk_at "get"))
    | ((with_reducible refine' s_isi_dK_str ?g1 ?g2); (case g1 => walk_at "get"))
    | ((with_reducible refine' s_isi_dK_tuple ?g1 ?g2); (case g1 => walk_at "get"))
    | ((with_reducible refine' s_isi_dK_list ?g1 ?g2); (case g1 => walk_at "get")))
local macro_rules
  | `(tactic| walk_at "go") => `(tactic| (repeat walk_at "st"))

section
variable {P : Program} {w : World} {K : PySem.W.Frag} {mg : Str → Option Value} {base : Heap} {A : Adr}
theorem join_room {ws : List (List Nat)} (wl : ws.length ≤ 8) (wx : ∀ x ∈ ws, x.length ≤ 61) : ((ws.map sOf).map (·.length)).sum + (ws.map sOf).length * (Str.ofString " ").length ≤ 16777216 := by
  have hsum : ∀ l : List (List Nat), (∀ x ∈ l, x.length ≤ 61) → ((l.map sOf).map (·.length)).sum ≤ 61 * l.length := fun l h => by
    induction l with
    | nil => simp
    | cons a r ih =>
      have h1 := h a (by simp)
      have h2 := ih fun x hx => h x (List.mem_cons_of_mem _ hx)
      rw [List.map_cons, List.map_cons, List.sum_cons, len_sOf, List.length_cons]
      omega
  have h1 := hsum ws wx
  rw [List.length_map, show (Str.ofString " ").length = 1 from by decide +kernel]
  omega
theorem c__law_takeover (T : Txt w K mg A) : C8.Cal P w K mg base 3 "_law_takeover" (spDraw 200 IsPair) [] := by
  obtain ⟨f, fd, D, B⟩ := T.d__law_takeover
  refine C8.cal0 D B .nil sc__law_takeover (fun vs H Q E h => ?_) (fun cdv A' outer s H vs Q E hr h => ?_)
  · obtain ⟨q, c, cells, n, rfl, _⟩ := h
    rfl
  · obtain ⟨q, c, cells, n, rfl, S, hn, k⟩ := h
    have hu := hr.units
    have hu1 := hu_of hr
    have nd := sc__law_takeover.nd
    refine ⟨_, (pss_cons (ps_set (i := 1) nd rfl (Or.inl rfl) (C8.pe_c (c__law_number T) hr (by decide) (by rfl) (pa_cons (pv 0) pa_nil)))
      (pss_cons (ps_set (i := 2) nd rfl (Or.inl rfl) (pe_callTy (k_tuple K) (by rfl) T.b_tuple (by decide +kernel) (pa_cons (pe_lc (own := [("_law_k", 3)]) rfl nd (pi_range1 (by rfl) T.b_range (pa_cons (C8.pe_c (c__law_next T) hr (by decide) (by rfl) (pa_cons (pv 0) (pa_cons pe_int pa_nil))) pa_nil)) (blkOk_by (N := ["_law_state_here", "_law_house", "_law_asked", "_law_k", "_law_forced", "_law_words", "_law_one"]) (sc := C8.fnScope s__law_takeover) (own := [("_law_k", 3)]) (by decide +kernel)) (fun _ _ _ _ _ => (pg_name (i := 3) nd rfl (Or.inl rfl))) (fun _ _ _ _ _ => pts_nil) (fun _ _ _ _ _ => (C8.pe_c (c__law_number T) hr (by decide) (by rfl) (pa_cons (pv 0) pa_nil)))) pa_nil)))
      (pss_cons (ps_set (i := 4) nd rfl (Or.inl rfl) (pe_cmpR (k_eq K hu) (C8.pe_c (c__law_next T) hr (by decide) (by rfl) (pa_cons (pv 0) (pa_cons pe_int pa_nil))) pe_int (nomark _)))
      (pss_cons (ps_set (i := 5) nd rfl (Or.inl rfl) (pe_op (k_add K) (pe_lst (pa_cons (pe_ix (k_ix K) (pe_lst (pa_cons pe_str (pa_cons pe_str pa_nil))) (pe_callTy k_int (by rfl) T.b_int (by decide +kernel) (pa_cons (pv 4) pa_nil)) (fun _ _ => rfl)) (pa_cons (C8.pe_c (c__law_figures T) hr (by decide) (by rfl) (pa_cons (pv 1) pa_nil)) pa_nil))) (pe_lc (own := [("_law_one", 6)]) rfl nd (ki_tup K (pv 2)) (blkOk_by (N := ["_law_state_here", "_law_house", "_law_asked", "_law_k", "_law_forced", "_law_words", "_law_one"]) (sc := C8.fnScope s__law_takeover) (own := [("_law_one", 6)]) (by decide +kernel)) (fun _ _ _ _ _ => (pg_name (i := 6) nd rfl (Or.inl rfl))) (fun _ _ _ _ _ => pts_nil) (fun _ _ _ _ _ => (C8.pe_c (c__law_figures T) hr (by decide) (by rfl) (pa_cons (pv 6) pa_nil))))))
      (pss_one (ps_ret (pe_tup (pa_cons (pe_tup (pa_cons pe_str (pa_cons (pv 1) (pa_cons (pv 2) (pa_cons (pv 4) pa_nil))))) (pa_cons (pe_join pe_str (pv 5)) pa_nil))))))))), ?_⟩
    refine (start_of (σ := [some (.ref q), none, none, none, none, none, none]) rfl ?_)
    walk_at "go"
    refine ⟨q, c, cells, n, rfl, S, by omega, ?_⟩
    rintro v1 H1 ⟨h, hh, rfl⟩ S1 B1
    walk_at "go"
    refine ⟨q, c, cells, _, 7, rfl, S1, by omega, by omega, fun m2 H2 hm2 S2 B2 => ?_⟩
    refine s_rng1 (by omega) (by omega) fun D hD => ?_
    obtain ⟨i0, l0, s0, hqq, _⟩ := id S2.qq
    have nDq : D ≠ q := fun e => by rw [e, hqq] at hD; cases hD
    refine lc_range (fun i H' => ∃ as : List Int, as.length = i ∧ (∀ a ∈ as, NumOk a) ∧ H' D = some (.lst (as.map V.int)) ∧ StAt H' q c cells (n + 21 + 20 * i) ∧ But q H2 H') ⟨[], rfl, by simp, upd_same, ?_, ?_⟩ ?_ ?_
    · exact (S2.same (same_upd (Same.refl _) hD)).le (by omega)
    · exact But.of (same_upd (Same.refl _) hD)
    · rintro i H3 hi ⟨as, hl, ha, hDs, S3, B3⟩
      refine s_gname ⟨rfl, s_yes (s_ifT rfl ?_)⟩
      walk_at "go"
      refine ⟨q, c, cells, _, rfl, S3, by omega, ?_⟩
      rintro v4 H4 ⟨x, hx, rfl⟩ S4 B4
      have h4D := B4 _ _ hDs nDq
      refine ⟨_, h4D, by rw [List.length_map]; exact small2000 (by omega), as ++ [x], by rw [List.length_append, hl]; rfl, ?_, by rw [upd_same, List.map_append]; rfl, ?_, ?_⟩
      · intro a ha'
        rcases List.mem_append.mp ha' with m | m
        · exact ha a m
        · rw [List.mem_singleton.mp m]; exact hx
      · obtain ⟨⟨i', l', s', e1, e2⟩, e3, e4, e5⟩ := S4
        have nDc : D ≠ c := fun e => by rw [e, S3.cc] at hDs; rw [e, S2.cc] at hD; cases hD
        exact ⟨⟨i', l', s', by rw [upd_ne nDq.symm]; exact e1, ⟨e2.1.1, by omega⟩, e2.2⟩, by rw [upd_ne nDc.symm]; exact e3, e4, e5⟩
      · intro b o e nq
        rw [upd_ne (ne_of_none e hD)]
        exact B4 _ _ (B3 _ _ e nq) nq
    · rintro H3 ⟨as, hl, ha, hDs, S3, B3⟩
      walk_at "go"
      refine ⟨D, as.map V.int, rfl, .inl ⟨SqL.of hDs, fun p hp => ?_⟩⟩
      walk_at "go"
      have S3' := (S3.same (same_upd (u := .tup (as.map V.int)) (Same.refl _) hp))
      refine ⟨q, c, cells, _, 2, rfl, S3', by omega, by omega, fun m5 H5 hm5 S5 B5 => ?_⟩
      obtain ⟨i3, l3, s3, hq3, _⟩ := id S3'.qq
      have h5p := B5.tup hq3 (upd_same (H := H3) (a := p) (o := .tup (as.map V.int)))
      have B05 : But q H H5 := (((B1.trans B2).trans B3).trans (But.of (same_upd (Same.refl _) hp))).trans B5
      walk_at "go"
      generalize decide (m5 = 1) = fo
      refine ⟨by show 2 ≤ sizeLine; decide, fun p2 hp2 => ?_⟩
      walk_at "go"
      refine s_ixL (SqL.of upd_same) (v := vS (if fo = true then wd "force" else wd "takeover")) (by
        cases fo
        · exact atI_nat (i := 0) (by simp only [wd_of]; rfl)
        · exact atI_nat (i := 1) (by simp only [wd_of]; rfl)) ?_
      walk_at "go"
      refine ⟨h, rfl, hh, fun H6 s6 => ?_⟩
      walk_at "go"
      refine ⟨by show 2 ≤ sizeLine; decide, fun p3 hp3 => ?_⟩
      walk_at "go"
      have s63 := (same_upd (u := .lst [V.str (Str.ofString "takeover"), .str (Str.ofString "force")]) (Same.refl H5) hp2).trans s6
      have s7 := same_upd (u := .lst [vS (if fo = true then wd "force" else wd "takeover"), vS (figL h)]) s63 hp3
      have h7p := s7 _ _ h5p
      have h7l : upd H6 p3 (.lst [vS (if fo = true then wd "force" else wd "takeover"), vS (figL h)]) p3 = some (.lst [vS (if fo = true then wd "force" else wd "takeover"), vS (figL h)]) := upd_same
      generalize upd H6 p3 (.lst [vS (if fo = true then wd "force" else wd "takeover"), vS (figL h)]) = H7 at s7 h7p h7l ⊢
      have hl6 : as.length ≤ 6 := by omega
      refine s_itup2 (SqT.of h7p) fun D2 hD2 => lc_T (ys := vSs (as.map figL)) (SqT.of h7p) (by simp) (by rw [List.length_map, List.length_map]; omega) hD2 (fun _ => rfl) (fun n x y H1 Q hx hy s1 re => ?_) (fun H8 s8 h8 => ?_)
      · walk_at "go"
        rw [List.getElem?_map] at hx
        rw [List.getElem?_map, List.getElem?_map] at hy
        cases e : as[n]? with
        | none => rw [e] at hx; cases hx
        | some m =>
          rw [e] at hx hy
          cases hx
          cases hy
          exact ⟨m, rfl, ha m (List.mem_of_getElem? e), fun H2 s2 => re _ s2⟩
      · walk_at "go"
        refine s_addL (s8 _ _ h7l) h8 (by rw [List.length_map, List.length_map]; exact Nat.le_trans (Nat.add_le_add_left hl6 _) (by show 2 + 6 ≤ sizeLine; decide)) fun p9 hp9 => ?_
        walk_at "go"
        refine ⟨by show 4 ≤ sizeLine; decide, fun a hpa => ?_⟩
        walk_at "go"
        refine ⟨⟨_, rfl⟩, ?_⟩
        walk_at "go"
        have hok : (Deed.take h as fo).Ok := ⟨hh, ha, hl6⟩
        obtain ⟨w0, w32, wl, wx⟩ := words_ok hok
        refine ⟨_, p9, (Deed.take h as fo).words.map sOf, rfl, rfl, .inl (SqL.of (by rw [get_new hpa upd_same, List.map_map]; rfl)), join_room wl wx, ?_⟩
        rw [join_line]
        walk_at "go"
        refine ⟨by show 2 ≤ sizeLine; decide, fun t ht => ?_⟩
        have s9 := (s7.trans s8).trans (same_upd (u := .lst ([vS (if fo = true then wd "force" else wd "takeover"), vS (figL h)] ++ vSs (as.map figL))) (Same.refl H8) hp9)
        have s10 := same_upd (u := .tup [.str (Str.ofString "takeover"), .int h, .ref p, .bl fo]) s9 hpa
        have s11 := same_upd (u := .tup [.ref a, vS (Deed.take h as fo).line]) s10 ht
        refine k _ _ ⟨t, a, .take h as fo, rfl, hok, upd_same, ?_⟩ ((S5.same s11).le (by omega)) (B05.trans (But.of s11))
        refine ⟨_, get_new ht upd_same, .cons ?_ (.cons rfl (.cons ⟨p, rfl, s11 _ _ h5p⟩ (.cons rfl .nil)))⟩
        show V.str (Str.ofString "takeover") = vS (wd "takeover")
        rw [wd_of]
end
end Toy

set_option Elab.async false
set_option linter.all false
set_option maxRecDepth 100000
set_option maxHeartbeats 4000000
namespace Toy
open PySem PySem.Spec PyProof.Rows L2 Lt
local macro_rules
  | `(tactic| walk_at "get") => `(tactic| first
    | assumption
    | exact upd_same
    | ((with_reducible refine' get_new ?g1 ?g2); (case g1 => assumption); (case g2 => walk_at "get"))
    | ((with_reducible refine' get_ne ?g1 ?g2); (case g1 => assumption); (case g2 => walk_at "get"))
    | ((with_reducible refine' get_dif ?g1 ?g2 ?g3); (case g1 => walk_at "get"); (case g2 => walk_at "get"); (case g3 => (intro z; cases z)))
    | (refine' (by assumption : Same _ _) _ _ ?g1; (case g1 => walk_at "get")))
local macro_rules
  | `(tactic| walk_at "cls") => `(tactic| first | assumption)
local macro_rules
  | `(tactic| walk_at "sq") => `(tactic| first
    | assumption
    | exact SqL.of (by walk_at "get")
    | exact SqT.of (by walk_at "get")
    | exact FzT.sq (by assumption)
    | exact Same.seq (by assumption) (by assumption))
local macro_rules
  | `(tactic| walk_at "st") => `(tactic| first
    | with_reducible refine s_seq ?_
    | with_reducible refine s_cons ?_
    | with_reducible refine s_nil ?_
    | ((with_reducible refine' s_var ?g1 ?g2); (case g1 => rfl))
    | with_reducible refine s_c ?_
    | with_reducible refine s_op ?_
    | with_reducible refine s_addI ?_
    | with_reducible refine s_i0 ?_
    | with_reducible refine s_ret ?_
    | with_reducible refine s_retN ?_
    | with_reducible refine s_drop ?_
    | with_reducible refine s_next ?_
    | with_reducible refine s_ifs ?_
    | with_reducible refine s_asg ?_
    | with_reducible refine s_gname ?_
    | with_reducible refine s_gnil ?_
    | with_reducible refine s_gcons ?_
    | with_reducible refine s_gsub ?_
    | with_reducible refine s_un ?_
    | with_reducible refine s_cb ?_
    | with_reducible refine s_call ?_
    | with_reducible refine s_meth ?_
    | ((with_reducible refine' s_meth2 ?g1 ?g2 ?g3); (case g1 => walk_at "get"); (case g2 => rfl))
    | with_reducible refine s_test ?_
    | with_reducible refine s_tb ?_
    | with_reducible refine s_exbl ?_
    | with_reducible refine s_exint ?_
    | with_reducible refine s_and ?_
    | with_reducible refine s_or ?_
    | with_reducible refine s_not ?_
    | with_reducible refine s_andV ?_
    | with_reducible refine s_orV ?_
    | with_reducible refine s_notV ?_
    | with_reducible refine s_ifx ?_
    | with_reducible refine s_yes ?_
    | with_reducible refine s_tup ?_
    | with_reducible refine s_lst ?_
    | with_reducible refine s_fld ?_
    | ((with_reducible refine' s_fld2 ?g1 ?g2 ?g3 ?g4 ?g5); (case g1 => walk_at "get"); (case g2 => walk_at "cls"); (case g3 => walk_at "cls"); (case g4 => rfl))
    | with_reducible refine s_sfld ?_
    | with_reducible refine s_sl ?_
    | with_reducible refine s_nopart ?_
    | with_reducible refine s_part ?_
    | with_reducible refine s_for ?_
    | with_reducible refine s_ilist ?_
    | with_reducible refine s_itup ?_
    | with_reducible refine s_irng1 ?_
    | with_reducible refine s_bm ?_
    | with_reducible refine s_bm0 ?_
    | with_reducible refine s_dget ?_
    | with_reducible refine s_din ?_
    | with_reducible refine s_dnotin ?_
    | with_reducible refine s_dput ?_
    | with_reducible refine s_dget2 ?_
    | with_reducible refine s_dget1 ?_
    | with_reducible refine s_eqI ?_
    | with_reducible refine s_eqS ?_
    | with_reducible refine s_neI ?_
    | with_reducible refine s_neB ?_
    | with_reducible refine s_neS ?_
    | with_reducible refine s_ltI ?_
    | with_reducible refine s_isN ?_
    | with_reducible refine s_isNotN ?_
    | with_reducible refine s_chain ?_
    | with_reducible refine s_make ?_
    | with_reducible refine s_irng2 ?_
    | with_reducible refine s_intI ?_
    | with_reducible refine s_intB ?_
    | ((with_reducible refine' s_mod ?g1 ?g2); (case g1 => omega))
    | ((with_reducible refine' s_fdiv ?g1 ?g2); (case g1 => omega))
    | ((with_reducible refine' s_pow ?g1 ?g2); (case g1 => omega))
    | with_reducible refine s_dc ?_
    | with_reducible refine s_lc ?_
    | with_reducible refine s_iitems ?_
    | with_reducible refine s_ikeys ?_
    | ((with_reducible refine' s_sfld2 ?g1 ?g2 ?g3 ?g4 ?g5); (case g1 => walk_at "get"); (case g2 => walk_at "cls"); (case g3 => walk_at "cls"); (case g4 => exact len1000 rfl))
    | with_reducible refine s_ex2 ?_
    | with_reducible refine s_dnew ?_
    | with_reducible refine s_istr ?_
    | with_reducible refine s_exstr ?_
    | with_reducible refine s_inSg ?_
    | with_reducible refine s_notInSg ?_
    | with_reducible refine s_slb ?_
    | with_reducible refine s_m1 ?_
    | with_reducible refine s_strS ?_
    | with_reducible refine s_kget2 ?_
    | with_reducible refine s_neg ?_
    | ((with_reducible refine' s_ifT ?g1 ?g2); (case g1 => rfl))
    | ((with_reducible refine' s_ifF ?g1 ?g2); (case g1 => rfl))
    | with_reducible refine s_isi_non_int ?_
    | with_reducible refine s_isi_non_bool ?_
    | with_reducible refine s_isi_non_str ?_
    | with_reducible refine s_isi_non_tuple ?_
    | with_reducible refine s_isi_non_list ?_
    | with_reducible refine s_isi_bl_int ?_
    | with_reducible refine s_isi_bl_bool ?_
    | with_reducible refine s_isi_bl_str ?_
    | with_reducible refine s_isi_bl_tuple ?_
    | with_reducible refine s_isi_bl_list ?_
    | with_reducible refine s_isi_int_int ?_
    | with_reducible refine s_isi_int_bool ?_
    | with_reducible refine s_isi_int_str ?_
    | with_reducible refine s_isi_int_tuple ?_
    | with_reducible refine s_isi_int_list ?_
    | with_reducible refine s_isi_str_int ?_
    | with_reducible refine s_isi_str_bool ?_
    | with_reducible refine s_isi_str_str ?_
    | with_reducible refine s_isi_str_tuple ?_
    | with_reducible refine s_isi_str_list ?_
    | ((with_reducible refine' s_isi_tup_int ?g1 ?g2); (case g1 => walk_at "get"))
    | ((with_reducible refine' s_isi_tup_bool ?g1 ?g2); (case g1 => walk_at "get"))
    | ((with_reducible refine' s_isi_tup_str ?g1 ?g2); (case g1 => walk_at "get"))
    | ((with_reducible refine' s_isi_tup_tuple ?g1 ?g2); (case g1 => walk_at "get"))
    | ((with_reducible refine' s_isi_tup_list ?g1 ?g2); (case g1 => walk_at "get"))
    | ((with_reducible refine' s_isi_lst_int ?g1 ?g2); (case g1 => walk_at "get"))
    | ((with_reducible refine' s_isi_lst_bool ?g1 ?g2); (case g1 => walk_at "get"))
    | ((with_reducible refine' s_isi_lst_str ?g1 ?g2); (case g1 => walk_at "get"))
    | ((with_reducible refine' s_isi_lst_tuple ?g1 ?g2); (case g1 => walk_at "get"))
    | ((with_reducible refine' s_isi_lst_list ?g1 ?g2); (case g1 => walk_at "get"))
    | ((with_reducible refine' s_isi_dK_int ?g1 ?g2); (case g1 => walk_at "get"))
    | ((with_reducible refine' s_isi_dK_bool ?g1 ?g2); (case g1 => walk_at "get"))
    | ((with_reducible refine' s_isi_dK_str ?g1 ?g2); (case g1 => walk_at "get"))
    | ((with_reducible refine' s_isi_dK_tuple ?g1 ?g2); (case g1 => walk_at "get"))
    | ((with_reducible refine' s_isi_dK_list ?g1 ?g2); (case g1 => walk_at "get")))
local macro_rules
  | `(tactic| walk_at "go") => `(tactic| (repeat walk_at "st"))

section
variable {P : Program} {w : World} {K : PySem.W.Frag} {mg : Str → Option Value} {base : Heap} {A : Adr}
abbrev twoL : List V := [.str (Str.ofString "follow"), .str (Str.ofString "rejoin"), .str (Str.ofString "renew"), .str (Str.ofString "free"), .str (Str.ofString "forget")]
abbrev oneL : List V := [.str (Str.ofString "ask"), .str (Str.ofString "give"), .str (Str.ofString "lose"), .str (Str.ofString "done"), .str (Str.ofString "trim"), .str (Str.ofString "log"), .str (Str.ofString "table"), .str (Str.ofString "apply")]
theorem two_at {m : Int} (h0 : 0 ≤ m) (h1 : m < 5) : ∃ l, (l, 2) ∈ numWords ∧ l.length ≤ 6 ∧ atI twoL m = some (vS l) := by
  have e : m = 0 ∨ m = 1 ∨ m = 2 ∨ m = 3 ∨ m = 4 := by omega
  simp only [twoL, wd_of]
  rcases e with rfl | rfl | rfl | rfl | rfl
  · exact ⟨wd "follow", by decide +kernel, by decide +kernel, atI_nat (i := 0) rfl⟩
  · exact ⟨wd "rejoin", by decide +kernel, by decide +kernel, atI_nat (i := 1) rfl⟩
  · exact ⟨wd "renew", by decide +kernel, by decide +kernel, atI_nat (i := 2) rfl⟩
  · exact ⟨wd "free", by decide +kernel, by decide +kernel, atI_nat (i := 3) rfl⟩
  · exact ⟨wd "forget", by decide +kernel, by decide +kernel, atI_nat (i := 4) rfl⟩
theorem one_at {m : Int} (h0 : 0 ≤ m) (h1 : m < 8) : (∃ l, (l, 1) ∈ numWords ∧ sOf l ≠ Str.ofString "apply" ∧ l.length ≤ 6 ∧ atI oneL m = some (vS l)) ∨ atI oneL m = some (vS (wd "apply")) := by
  have e : m = 0 ∨ m = 1 ∨ m = 2 ∨ m = 3 ∨ m = 4 ∨ m = 5 ∨ m = 6 ∨ m = 7 := by omega
  simp only [oneL, wd_of]
  rcases e with rfl | rfl | rfl | rfl | rfl | rfl | rfl | rfl
  · exact .inl ⟨wd "ask", by decide +kernel, by decide +kernel, by decide +kernel, atI_nat (i := 0) rfl⟩
  · exact .inl ⟨wd "give", by decide +kernel, by decide +kernel, by decide +kernel, atI_nat (i := 1) rfl⟩
  · exact .inl ⟨wd "lose", by decide +kernel, by decide +kernel, by decide +kernel, atI_nat (i := 2) rfl⟩
  · exact .inl ⟨wd "done", by decide +kernel, by decide +kernel, by decide +kernel, atI_nat (i := 3) rfl⟩
  · exact .inl ⟨wd "trim", by decide +kernel, by decide +kernel, by decide +kernel, atI_nat (i := 4) rfl⟩
  · exact .inl ⟨wd "log", by decide +kernel, by decide +kernel, by decide +kernel, atI_nat (i := 5) rfl⟩
  · exact .inl ⟨wd "table", by decide +kernel, by decide +kernel, by decide +kernel, atI_nat (i := 6) rfl⟩
  · exact .inr (atI_nat (i := 7) rfl)
theorem len_apply : (wd "apply ").length = 6 := rfl
theorem line_apply2 (h n : Int) : wd "apply " ++ figL h ++ wd " " ++ figL n = (Deed.apply2 h n).line := by
  show _ = wd "apply" ++ ([32] ++ (figL h ++ ([32] ++ figL n)))
  rw [show wd "apply " = wd "apply" ++ [32] from rfl, show wd " " = [32] from rfl]
  simp only [List.append_assoc]
theorem line_nums2 (l : List Nat) (x y : Int) : l ++ wd " " ++ TL.joinL [32] [figL x, figL y] = (Deed.nums l [x, y]).line := by
  show _ = l ++ ([32] ++ (figL x ++ ([32] ++ figL y)))
  rw [show wd " " = [32] from rfl, show TL.joinL [32] [figL x, figL y] = figL x ++ ([32] ++ figL y) from rfl]
  simp only [List.append_assoc]
theorem line_nums1 (l : List Nat) (x : Int) : l ++ wd " " ++ figL x = (Deed.nums l [x]).line := by
  show _ = l ++ ([32] ++ figL x)
  rw [show wd " " = [32] from rfl]
  simp only [List.append_assoc]
theorem line_apply1 (x : Int) : wd "apply" ++ wd " " ++ figL x = (Deed.apply1 x).line := by
  show _ = wd "apply" ++ ([32] ++ figL x)
  rw [show wd " " = [32] from rfl]
  simp only [List.append_assoc]
theorem But.lst {q : Addr} {H H' : Hp} {a : Addr} {ys : List V} (b : But q H H') (n : a ≠ q) (h : H a = some (.lst ys)) : H' a = some (.lst ys) := b a _ h n
theorem c__law_numbers (T : Txt w K mg A) : C8.Cal P w K mg base 3 "_law_numbers" (spDraw 100 IsPair) [] := by
  obtain ⟨f, fd, D, B⟩ := T.d__law_numbers
  refine C8.cal0 D B .nil sc__law_numbers (fun vs H Q E h => ?_) (fun cdv A' outer s H vs Q E hr h => ?_)
  · obtain ⟨q, c, cells, n, rfl, _⟩ := h
    rfl
  · obtain ⟨q, c, cells, n, rfl, S, hn, k⟩ := h
    have hu := hr.units
    have hu1 := hu_of hr
    have nd := sc__law_numbers.nd
    refine ⟨_, (pss_cons (ps_set (i := 1) nd rfl (Or.inl rfl) (pe_lst (pa_cons pe_str (pa_cons pe_str (pa_cons pe_str (pa_cons pe_str (pa_cons pe_str pa_nil)))))))
      (pss_cons (ps_set (i := 2) nd rfl (Or.inl rfl) (pe_lst (pa_cons pe_str (pa_cons pe_str (pa_cons pe_str (pa_cons pe_str (pa_cons pe_str (pa_cons pe_str (pa_cons pe_str (pa_cons pe_str pa_nil))))))))))
      (pss_cons (ps_set (i := 3) nd rfl (Or.inl rfl) (C8.pe_c (c__law_next T) hr (by decide) (by rfl) (pa_cons (pv 0) (pa_cons pe_int pa_nil))))
      (pss_cons (ps_if (pt_cmpR (k_eq K hu) (pv 3) pe_int (nomark _)) (pss_one (ps_ret (pe_tup (pa_cons (pe_tup (pa_cons pe_str pa_nil)) (pa_cons pe_str pa_nil))))) pss_nil)
      (pss_cons (ps_if (pt_cmpR (k_eq K hu) (pv 3) pe_int (nomark _)) (pss_cons (ps_set (i := 4) nd rfl (Or.inl rfl) (pe_lst (pa_cons (C8.pe_c (c__law_number T) hr (by decide) (by rfl) (pa_cons (pv 0) pa_nil)) (pa_cons (C8.pe_c (c__law_number T) hr (by decide) (by rfl) (pa_cons (pv 0) pa_nil)) pa_nil))))
      (pss_one (ps_ret (pe_tup (pa_cons (pe_op (k_add K) (pe_tup (pa_cons pe_str pa_nil)) (pe_callTy (k_tuple K) (by rfl) T.b_tuple (by decide +kernel) (pa_cons (pv 4) pa_nil))) (pa_cons (pe_op (k_add K) (pe_op (k_add K) (pe_op (k_add K) pe_str (C8.pe_c (c__law_figures T) hr (by decide) (by rfl) (pa_cons (pe_ix (k_ix K) (pv 4) pe_int (fun _ _ => rfl)) pa_nil))) pe_str) (C8.pe_c (c__law_figures T) hr (by decide) (by rfl) (pa_cons (pe_ix (k_ix K) (pv 4) pe_int (fun _ _ => rfl)) pa_nil))) pa_nil)))))) pss_nil)
      (pss_cons (ps_if (pt_cmpR (k_lt K hu) (pv 3) pe_int (nomark _)) (pss_cons (ps_set (i := 4) nd rfl (Or.inl rfl) (pe_lst (pa_cons (C8.pe_c (c__law_number T) hr (by decide) (by rfl) (pa_cons (pv 0) pa_nil)) (pa_cons (C8.pe_c (c__law_number T) hr (by decide) (by rfl) (pa_cons (pv 0) pa_nil)) pa_nil))))
      (pss_one (ps_ret (pe_tup (pa_cons (pe_op (k_add K) (pe_tup (pa_cons (pe_ix (k_ix K) (pv 1) (pv 3) (fun _ _ => rfl)) pa_nil)) (pe_callTy (k_tuple K) (by rfl) T.b_tuple (by decide +kernel) (pa_cons (pv 4) pa_nil))) (pa_cons (pe_op (k_add K) (pe_op (k_add K) (pe_ix (k_ix K) (pv 1) (pv 3) (fun _ _ => rfl)) pe_str) (pe_join pe_str (pe_lc (own := [("_law_one", 2)]) rfl nd (ki_list K (pv 4)) (blkOk_by (N := ["_law_state_here", "_law_two", "_law_one", "_law_way", "_law_numbers_here", "_law_word", "_law_house"]) (sc := C8.fnScope s__law_numbers) (own := [("_law_one", 2)]) (by decide +kernel)) (fun _ _ _ _ _ => (pg_name (i := 2) nd rfl (Or.inl rfl))) (fun _ _ _ _ _ => pts_nil) (fun _ _ _ _ _ => (C8.pe_c (c__law_figures T) hr (by decide) (by rfl) (pa_cons (pv 2) pa_nil)))))) pa_nil)))))) pss_nil)
      (pss_cons (ps_set (i := 5) nd rfl (Or.inl rfl) (pe_ix (k_ix K) (pv 2) (pe_op op_sub (pv 3) pe_int) (fun _ _ => rfl)))
      (pss_cons (ps_set (i := 6) nd rfl (Or.inl rfl) (C8.pe_c (c__law_number T) hr (by decide) (by rfl) (pa_cons (pv 0) pa_nil)))
      (pss_one (ps_ret (pe_tup (pa_cons (pe_op (k_add K) (pe_tup (pa_cons (pv 5) (pa_cons (pv 6) pa_nil))) (pe_op (k_repB K) (pe_tup (pa_cons pe_non pa_nil)) (pe_callTy k_int (by rfl) T.b_int (by decide +kernel) (pa_cons (pe_cmpR (k_eq K hu) (pv 5) pe_str (nomark _)) pa_nil)))) (pa_cons (pe_op (k_add K) (pe_op (k_add K) (pv 5) pe_str) (C8.pe_c (c__law_figures T) hr (by decide) (by rfl) (pa_cons (pv 6) pa_nil))) pa_nil))))))))))))), ?_⟩
    refine (start_of (σ := [some (.ref q), none, none, none, none, none, none]) rfl ?_)
    obtain ⟨i0, l0, s0, hqq, _⟩ := id S.qq
    walk_at "go"
    refine ⟨by show 5 ≤ sizeLine; decide, fun p1 hp1 => ?_⟩
    walk_at "go"
    refine ⟨by show 8 ≤ sizeLine; decide, fun p2 hp2 => ?_⟩
    have h1 : upd (upd H p1 (.lst twoL)) p2 (.lst oneL) p1 = some (.lst twoL) := get_new hp2 upd_same
    have h2 : upd (upd H p1 (.lst twoL)) p2 (.lst oneL) p2 = some (.lst oneL) := upd_same
    have s2 : Same H (upd (upd H p1 (.lst twoL)) p2 (.lst oneL)) := same_upd (same_upd (Same.refl _) hp1) hp2
    have n1 : p1 ≠ q := (ne_of_none hqq hp1).symm
    have n2 : p2 ≠ q := (ne_of_none hqq ((same_upd (u := .lst twoL) (Same.refl _) hp1).free hp2)).symm
    generalize upd (upd H p1 (.lst twoL)) p2 (.lst oneL) = H2 at h1 h2 s2
    walk_at "go"
    refine ⟨q, c, cells, n, 15, rfl, S.same s2, by omega, by omega, fun m1 H3 hm1 S3 B3 => ?_⟩
    have h31 := B3.lst n1 h1
    have h32 := B3.lst n2 h2
    have B03 : But q H H3 := (But.of s2).trans B3
    walk_at "go"
    refine s_ifD (fun _ => ?_) (fun e14 => ?_)
    · walk_at "go"
      refine ⟨by show 1 ≤ sizeLine; decide, fun a ha => ?_⟩
      walk_at "go"
      refine ⟨by show 2 ≤ sizeLine; decide, fun t ht => ?_⟩
      have st := same_upd (u := .tup [.ref a, vS (Deed.nums (wd "lines") []).line]) (same_upd (u := .tup [.str (Str.ofString "lines")]) (Same.refl H3) ha) ht
      refine k _ _ ⟨t, a, .nums (wd "lines") [], rfl, ⟨by decide +kernel, by simp⟩, ?_, ?_⟩ ((S3.same ?_).le (by omega)) (B03.trans (But.of ?_))
      · rw [upd_same, wd_of]
        rfl
      · refine ⟨_, get_new ht upd_same, .cons ?_ .nil⟩
        show V.str (Str.ofString "lines") = vS (wd "lines")
        rw [wd_of]
      · exact same_upd (same_upd (Same.refl H3) ha) ht
      · exact same_upd (same_upd (Same.refl H3) ha) ht
    · walk_at "go"
      refine s_ifD (fun _ => ?_) (fun e13 => ?_)
      · walk_at "go"
        refine ⟨q, c, cells, _, rfl, S3, by omega, ?_⟩
        rintro v4 H4 ⟨x, hx, rfl⟩ S4 B4
        walk_at "go"
        refine ⟨q, c, cells, _, rfl, S4, by omega, ?_⟩
        rintro v5 H5 ⟨y, hy, rfl⟩ S5 B5
        have lx := figL_len hx
        have ly := figL_len hy
        have B05 : But q H H5 := (B03.trans B4).trans B5
        walk_at "go"
        refine ⟨by show 2 ≤ sizeLine; decide, fun pl hpl => ?_⟩
        walk_at "go"
        refine ⟨by show 1 ≤ sizeLine; decide, fun p6 hp6 => ?_⟩
        walk_at "go"
        have h6l := get_new (u := .tup [V.str (Str.ofString "apply")]) hp6 (upd_same (H := H5) (a := pl) (o := .lst [.int x, .int y]))
        refine ⟨pl, [.int x, .int y], rfl, .inl ⟨SqL.of h6l, fun p7 hp7 => ?_⟩⟩
        refine .inr (.inr (.inr ⟨p6, p7, [.str (Str.ofString "apply")], [.int x, .int y], rfl, rfl, SqT.of (get_new hp7 upd_same), SqT.of upd_same, by show 1 + 2 ≤ sizeLine; decide, (fun e => by cases e), (fun _ e => by cases e), fun _ _ a ha => ?_⟩))
        have s7 := same_upd (u := .tup [.int x, .int y]) (same_upd (u := .tup [V.str (Str.ofString "apply")]) (same_upd (u := .lst [.int x, .int y]) (Same.refl H5) hpl) hp6) hp7
        have s8 := same_upd (u := .tup ([V.str (Str.ofString "apply")] ++ [.int x, .int y])) s7 ha
        have h8l := get_new (u := .tup ([V.str (Str.ofString "apply")] ++ [.int x, .int y])) ha (get_new (u := .tup [.int x, .int y]) hp7 h6l)
        have h8a := upd_same (H := (upd (upd (upd H5 pl (.lst [.int x, .int y])) p6 (.tup [V.str (Str.ofString "apply")])) p7 (.tup [.int x, .int y]))) (a := a) (o := .tup ([V.str (Str.ofString "apply")] ++ [.int x, .int y]))
        generalize upd (upd (upd (upd H5 pl (.lst [.int x, .int y])) p6 (.tup [V.str (Str.ofString "apply")])) p7 (.tup [.int x, .int y])) a (.tup ([V.str (Str.ofString "apply")] ++ [.int x, .int y])) = H8 at s8 h8l h8a ⊢
        walk_at "go"
        refine s_ixL (SqL.of h8l) (v := .int x) (atI_nat (i := 0) rfl) ?_
        walk_at "go"
        refine ⟨x, rfl, hx, fun H9 s9 => ?_⟩
        refine s_catL (by simp only [List.length_append, len_b, len_apply]; omega) ?_
        walk_at "go"
        refine s_catR (by simp only [List.length_append, len_b, len_apply]; omega) ?_
        walk_at "go"
        refine s_ixL (SqL.of (s9 _ _ h8l)) (v := .int y) (atI_nat (i := 1) rfl) ?_
        walk_at "go"
        refine ⟨y, rfl, hy, fun H10 s10 => ?_⟩
        refine s_cat (by simp only [List.length_append, len_b, len_apply]; omega) ?_
        walk_at "go"
        refine ⟨by show 2 ≤ sizeLine; decide, fun t ht => ?_⟩
        have st := same_upd (u := .tup [.ref a, vS (wd "apply " ++ figL x ++ wd " " ++ figL y)]) ((s8.trans s9).trans s10) ht
        refine k _ _ ⟨t, a, .apply2 x y, rfl, ⟨hx, hy⟩, ?_, ?_⟩ ((S5.same st).le (by omega)) (B05.trans (But.of st))
        · rw [upd_same, line_apply2]
        · refine ⟨_, get_new ht (s10 _ _ (s9 _ _ h8a)), .cons ?_ (.cons rfl (.cons rfl .nil))⟩
          show V.str (Str.ofString "apply") = vS (wd "apply")
          rw [wd_of]
      · walk_at "go"
        refine s_ifD (fun e5 => ?_) (fun e5 => ?_)
        · walk_at "go"
          refine ⟨q, c, cells, _, rfl, S3, by omega, ?_⟩
          rintro v4 H4 ⟨x, hx, rfl⟩ S4 B4
          walk_at "go"
          refine ⟨q, c, cells, _, rfl, S4, by omega, ?_⟩
          rintro v5 H5 ⟨y, hy, rfl⟩ S5 B5
          have lx := figL_len hx
          have ly := figL_len hy
          have B05 : But q H H5 := (B03.trans B4).trans B5
          walk_at "go"
          refine ⟨by show 2 ≤ sizeLine; decide, fun pl hpl => ?_⟩
          walk_at "go"
          obtain ⟨l, hl, hl6, hat⟩ := two_at hm1.1 (by omega)
          have h5l := B5.lst n1 (B4.lst n1 h31)
          refine s_ixL (SqL.of (get_new hpl h5l)) hat ?_
          walk_at "go"
          refine ⟨by show 1 ≤ sizeLine; decide, fun p6 hp6 => ?_⟩
          walk_at "go"
          have h6l := get_new (u := .tup [vS l]) hp6 (upd_same (H := H5) (a := pl) (o := .lst [.int x, .int y]))
          refine ⟨pl, [.int x, .int y], rfl, .inl ⟨SqL.of h6l, fun p7 hp7 => ?_⟩⟩
          refine .inr (.inr (.inr ⟨p6, p7, [vS l], [.int x, .int y], rfl, rfl, SqT.of (get_new hp7 upd_same), SqT.of upd_same, by show 1 + 2 ≤ sizeLine; decide, (fun e => by cases e), (fun _ e => by cases e), fun _ _ a ha => ?_⟩))
          have s6 := same_upd (u := .lst [.int x, .int y]) (Same.refl H5) hpl
          have s7 := same_upd (u := .tup [.int x, .int y]) (same_upd (u := .tup [vS l]) s6 hp6) hp7
          have s8 := same_upd (u := .tup ([vS l] ++ [.int x, .int y])) s7 ha
          have h8l := get_new (u := .tup ([vS l] ++ [.int x, .int y])) ha (get_new (u := .tup [.int x, .int y]) hp7 h6l)
          have h8a := upd_same (H := (upd (upd (upd H5 pl (.lst [.int x, .int y])) p6 (.tup [vS l])) p7 (.tup [.int x, .int y]))) (a := a) (o := .tup ([vS l] ++ [.int x, .int y]))
          generalize upd (upd (upd (upd H5 pl (.lst [.int x, .int y])) p6 (.tup [vS l])) p7 (.tup [.int x, .int y])) a (.tup ([vS l] ++ [.int x, .int y])) = H8 at s8 h8l h8a ⊢
          walk_at "go"
          refine s_ixL (SqL.of (s8 _ _ h5l)) hat ?_
          walk_at "go"
          refine s_catR (by simp only [List.length_append, len_b, len_apply]; omega) ?_
          walk_at "go"
          refine ⟨⟨_, rfl⟩, ?_⟩
          walk_at "go"
          have h8l2 : H8 pl = some (.lst ([x, y].map V.int)) := h8l
          refine s_ilist2 (SqL.of h8l2) fun D2 hD2 => lc_L (ys := vSs ([x, y].map figL)) (SqL.of h8l2) rfl (by show 2 ≤ 900; decide) hD2 (fun _ => rfl) (fun n x' y' H1 Q hx' hy' s1 re => ?_) (fun H9 s9 h9 => ?_)
          · walk_at "go"
            rw [List.getElem?_map] at hx'
            rw [List.getElem?_map, List.getElem?_map] at hy'
            cases e : [x, y][n]? with
            | none => rw [e] at hx'; cases hx'
            | some m =>
              rw [e] at hx' hy'
              cases hx'
              cases hy'
              have hm : NumOk m := by
                rcases List.mem_cons.mp (List.mem_of_getElem? e) with rfl | hm
                · exact hx
                · rw [List.mem_singleton.mp hm]; exact hy
              exact ⟨m, rfl, hm, fun H2 s2 => re _ s2⟩
          · walk_at "go"
            have hok : (Deed.nums l [x, y]).Ok := ⟨hl, by simp only [List.forall_mem_cons]; exact ⟨hx, hy, by simp⟩⟩
            refine ⟨_, D2, [figL x, figL y].map sOf, rfl, rfl, .inl (SqL.of h9), join_room (by show 2 ≤ 8; decide) (by simp only [List.forall_mem_cons]; exact ⟨lx.2, ly.2, by simp⟩), ?_⟩
            rw [join_line]
            refine s_cat (by show (l ++ wd " ").length + (figL x ++ ([32] ++ figL y)).length ≤ 2000; simp only [List.length_append, len_b, List.length_cons, List.length_nil]; omega) ?_
            walk_at "go"
            refine ⟨by show 2 ≤ sizeLine; decide, fun t ht => ?_⟩
            have st := same_upd (u := .tup [.ref a, vS (l ++ wd " " ++ TL.joinL [32] [figL x, figL y])]) (s8.trans s9) ht
            refine k _ _ ⟨t, a, .nums l [x, y], rfl, hok, ?_, ?_⟩ ((S5.same st).le (by omega)) (B05.trans (But.of st))
            · rw [upd_same, line_nums2]
            · exact ⟨_, get_new ht (s9 _ _ h8a), .cons rfl (.cons rfl (.cons rfl .nil))⟩
        · walk_at "go"
          rcases one_at (m := m1 - 5) (by omega) (by omega) with ⟨l, hl, hne, hl6, hat⟩ | hat
          · refine s_ixL (SqL.of h32) hat ?_
            walk_at "go"
            refine ⟨q, c, cells, _, rfl, S3, by omega, ?_⟩
            rintro v4 H4 ⟨x, hx, rfl⟩ S4 B4
            have lx := figL_len hx
            walk_at "go"
            refine ⟨by show 2 ≤ sizeLine; decide, fun a ha => ?_⟩
            walk_at "go"
            refine ⟨by show 1 ≤ sizeLine; decide, fun p7 hp7 => ?_⟩
            walk_at "go"
            rw [decide_eq_false hne]
            refine ⟨p7, [.non], 0, rfl, rfl, SqT.of upd_same, by simp, .inr ⟨rfl, fun p8 hp8 => ?_⟩⟩
            have h8a := get_new (u := .tup []) hp8 (get_new (u := .tup [.non]) hp7 (upd_same (H := H4) (a := a) (o := .tup [vS l, .int x])))
            have s8 := same_upd (u := .tup []) (same_upd (u := .tup [.non]) (same_upd (u := .tup [vS l, .int x]) (Same.refl H4) ha) hp7) hp8
            refine .inr (.inr (.inr ⟨a, p8, [vS l, .int x], [], rfl, rfl, SqT.of h8a, SqT.of upd_same, by show 2 ≤ sizeLine; decide, (fun e => by cases e), (fun _ _ => ?_), fun _ e => absurd rfl e⟩))
            walk_at "go"
            refine s_catR (by simp only [List.length_append, len_b, len_apply]; omega) ?_
            walk_at "go"
            refine ⟨x, rfl, hx, fun H9 s9 => ?_⟩
            refine s_cat (by simp only [List.length_append, len_b, len_apply]; omega) ?_
            walk_at "go"
            refine ⟨by show 2 ≤ sizeLine; decide, fun t ht => ?_⟩
            have st := same_upd (u := .tup [.ref a, vS (l ++ wd " " ++ figL x)]) (s8.trans s9) ht
            refine k _ _ ⟨t, a, .nums l [x], rfl, ⟨hl, by simpa using hx⟩, ?_, ?_⟩ ((S4.same st).le (by omega)) ((B03.trans B4).trans (But.of st))
            · rw [upd_same, line_nums1]
            · exact ⟨_, get_new ht (s9 _ _ h8a), .cons rfl (.cons rfl .nil)⟩
          · refine s_ixL (SqL.of h32) hat ?_
            walk_at "go"
            refine ⟨q, c, cells, _, rfl, S3, by omega, ?_⟩
            rintro v4 H4 ⟨x, hx, rfl⟩ S4 B4
            have lx := figL_len hx
            walk_at "go"
            refine ⟨by show 2 ≤ sizeLine; decide, fun p6 hp6 => ?_⟩
            walk_at "go"
            refine ⟨by show 1 ≤ sizeLine; decide, fun p7 hp7 => ?_⟩
            walk_at "go"
            rw [show decide (sOf (wd "apply") = Str.ofString "apply") = true from by decide +kernel]
            refine ⟨p7, [.non], 1, rfl, rfl, SqT.of upd_same, by simp, .inl ⟨rfl, ?_⟩⟩
            have h7 := get_new (u := .tup [.non]) hp7 (upd_same (H := H4) (a := p6) (o := .tup [vS (wd "apply"), .int x]))
            have s7 := same_upd (u := .tup [.non]) (same_upd (u := .tup [vS (wd "apply"), .int x]) (Same.refl H4) hp6) hp7
            refine .inr (.inr (.inr ⟨p6, p7, [vS (wd "apply"), .int x], [.non], rfl, rfl, SqT.of h7, SqT.of upd_same, by show 2 + 1 ≤ sizeLine; decide, (fun e => by cases e), (fun _ e => by cases e), fun _ _ a ha => ?_⟩))
            have s8 := same_upd (u := .tup ([vS (wd "apply"), .int x] ++ [.non])) s7 ha
            have h8a := upd_same (H := upd (upd H4 p6 (.tup [vS (wd "apply"), .int x])) p7 (.tup [.non])) (a := a) (o := .tup ([vS (wd "apply"), .int x] ++ [.non]))
            walk_at "go"
            refine s_catR (by rw [show (wd "apply").length = 5 from rfl, len_b]; decide) ?_
            walk_at "go"
            refine ⟨x, rfl, hx, fun H9 s9 => ?_⟩
            refine s_cat (by rw [List.length_append, show (wd "apply").length = 5 from rfl, len_b]; omega) ?_
            walk_at "go"
            refine ⟨by show 2 ≤ sizeLine; decide, fun t ht => ?_⟩
            have st := same_upd (u := .tup [.ref a, vS (wd "apply" ++ wd " " ++ figL x)]) (s8.trans s9) ht
            refine k _ _ ⟨t, a, .apply1 x, rfl, hx, ?_, ?_⟩ ((S4.same st).le (by omega)) ((B03.trans B4).trans (But.of st))
            · rw [upd_same, line_apply1]
            · exact ⟨_, get_new ht (s9 _ _ h8a), .cons rfl (.cons rfl (.cons rfl .nil))⟩
end
end Toy

set_option Elab.async false
set_option linter.all false
set_option maxRecDepth 100000
set_option maxHeartbeats 4000000
namespace Toy
open PySem PySem.Spec PyProof.Rows L2 Lt
local macro_rules
  | `(tactic| walk_at "get") => `(tactic| first
    | assumption
    | exact upd_same
    | ((with_reducible refine' get_new ?g1 ?g2); (case g1 => assumption); (case g2 => walk_at "get"))
    | ((with_reducible refine' get_ne ?g1 ?g2); (case g1 => assumption); (case g2 => walk_at "get"))
    | ((with_reducible refine' get_dif ?g1 ?g2 ?g3); (case g1 => walk_at "get"); (case g2 => walk_at "get"); (case g3 => (intro z; cases z)))
    | (refine' (by assumption : Same _ _) _ _ ?g1; (case g1 => walk_at "get")))
local macro_rules
  | `(tactic| walk_at "cls") => `(tactic| first | assumption)
local macro_rules
  | `(tactic| walk_at "sq") => `(tactic| first
    | assumption
    | exact SqL.of (by walk_at "get")
    | exact SqT.of (by walk_at "get")
    | exact FzT.sq (by assumption)
    | exact Same.seq (by assumption) (by assumption))
local macro_rules
  | `(tactic| walk_at "st") => `(tactic| first
    | with_reducible refine s_seq ?_
    | with_reducible refine s_cons ?_
    | with_reducible refine s_nil ?_
    | ((with_reducible refine' s_var ?g1 ?g2); (case g1 => rfl))
    | with_reducible refine s_c ?_
    | with_reducible refine s_op ?_
    | with_reducible refine s_addI ?_
    | with_reducible refine s_i0 ?_
    | with_reducible refine s_ret ?_
    | with_reducible refine s_retN ?_
    | with_reducible refine s_drop ?_
    | with_reducible refine s_next ?_
    | with_reducible refine s_ifs ?_
    | with_reducible refine s_asg ?_
    | with_reducible refine s_gname ?_
    | with_reducible refine s_gnil ?_
    | with_reducible refine s_gcons ?_
    | with_reducible refine s_gsub ?_
    | with_reducible refine s_un ?_
    | with_reducible refine s_cb ?_
    | with_reducible refine s_call ?_
    | with_reducible refine s_meth ?_
    | ((with_reducible refine' s_meth2 ?g1 ?g2 ?g3); (case g1 => walk_at "get"); (case g2 => rfl))
    | with_reducible refine s_test ?_
    | with_reducible refine s_tb ?_
    | with_reducible refine s_exbl ?_
    | with_reducible refine s_exint ?_
    | with_reducible refine s_and ?_
    | with_reducible refine s_or ?_
    | with_reducible refine s_not ?_
    | with_reducible refine s_andV ?_
    | with_reducible refine s_orV ?_
    | with_reducible refine s_notV ?_
    | with_reducible refine s_ifx ?_
    | with_reducible refine s_yes ?_
    | with_reducible refine s_tup ?_
    | with_reducible refine s_lst ?_
    | with_reducible refine s_fld ?_
    | ((with_reducible refine' s_fld2 ?g1 ?g2 ?g3 ?g4 ?g5); (case g1 => walk_at "get"); (case g2 => walk_at "cls"); (case g3 => walk_at "cls"); (case g4 => rfl))
    | with_reducible refine s_sfld ?_
    | with_reducible refine s_sl ?_
    | with_reducible refine s_nopart ?_
    | with_reducible refine s_part ?_
    | with_reducible refine s_for ?_
    | with_reducible refine s_ilist ?_
    | with_reducible refine s_itup ?_
    | with_reducible refine s_irng1 ?_
    | with_reducible refine s_bm ?_
    | with_reducible refine s_bm0 ?_
    | with_reducible refine s_dget ?_
    | with_reducible refine s_din ?_
    | with_reducible refine s_dnotin ?_
    | with_reducible refine s_dput ?_
    | with_reducible refine s_dget2 ?_
    | with_reducible refine s_dget1 ?_
    | with_reducible refine s_eqI ?_
    | with_reducible refine s_eqS ?_
    | with_reducible refine s_neI ?_
    | with_reducible refine s_neB ?_
    | with_reducible refine s_neS ?_
    | with_reducible refine s_ltI ?_
    | with_reducible refine s_isN ?_
    | with_reducible refine s_isNotN ?_
    | with_reducible refine s_chain ?_
    | with_reducible refine s_make ?_
    | with_reducible refine s_irng2 ?_
    | with_reducible refine s_intI ?_
    | with_reducible refine s_intB ?_
    | ((with_reducible refine' s_mod ?g1 ?g2); (case g1 => omega))
    | ((with_reducible refine' s_fdiv ?g1 ?g2); (case g1 => omega))
    | ((with_reducible refine' s_pow ?g1 ?g2); (case g1 => omega))
    | with_reducible refine s_dc ?_
    | with_reducible refine s_lc ?_
    | with_reducible refine s_iitems ?_
    | with_reducible refine s_ikeys ?_
    | ((with_reducible refine' s_sfld2 ?g1 ?g2 ?g3 ?g4 ?g5); (case g1 => walk_at "get"); (case g2 => walk_at "cls"); (case g3 => walk_at "cls"); (case g4 => exact len1000 rfl))
    | with_reducible refine s_ex2 ?_
    | with_reducible refine s_dnew ?_
    | with_reducible refine s_istr ?_
    | with_reducible refine s_exstr ?_
    | with_reducible refine s_inSg ?_
    | with_reducible refine s_notInSg ?_
    | with_reducible refine s_slb ?_
    | with_reducible refine s_m1 ?_
    | with_reducible refine s_strS ?_
    | with_reducible refine s_kget2 ?_
    | with_reducible refine s_neg ?_
    | ((with_reducible refine' s_ifT ?g1 ?g2); (case g1 => rfl))
    | ((with_reducible refine' s_ifF ?g1 ?g2); (case g1 => rfl))
    | with_reducible refine s_isi_non_int ?_
    | with_reducible refine s_isi_non_bool ?_
    | with_reducible refine s_isi_non_str ?_
    | with_reducible refine s_isi_non_tuple ?_
    | with_reducible refine s_isi_non_list ?_
    | with_reducible refine s_isi_bl_int ?_
    | with_reducible refine s_isi_bl_bool ?_
    | with_reducible refine s_isi_bl_str ?_
    | with_reducible refine s_isi_bl_tuple ?_
    | with_reducible refine s_isi_bl_list ?_
    | with_reducible refine s_isi_int_int ?_
    | with_reducible refine s_isi_int_bool ?_
    | with_reducible refine s_isi_int_str ?_
    | with_reducible refine s_isi_int_tuple ?_
    | with_reducible refine s_isi_int_list ?_
    | with_reducible refine s_isi_str_int ?_
    | with_reducible refine s_isi_str_bool ?_
    | with_reducible refine s_isi_str_str ?_
    | with_reducible refine s_isi_str_tuple ?_
    | with_reducible refine s_isi_str_list ?_
    | ((with_reducible refine' s_isi_tup_int ?g1 ?g2); (case g1 => walk_at "get"))
    | ((with_reducible refine' s_isi_tup_bool ?g1 ?g2); (case g1 => walk_at "get"))
    | ((with_reducible refine' s_isi_tup_str ?g1 ?g2); (case g1 => walk_at "get"))
    | ((with_reducible refine' s_isi_tup_tuple ?g1 ?g2); (case g1 => walk_at "get"))
    | ((with_reducible refine' s_isi_tup_list ?g1 ?g2); (case g1 => walk_at "get"))
    | ((with_reducible refine' s_isi_lst_int ?g1 ?g2); (case g1 => walk_at "get"))
    | ((with_reducible refine' s_isi_lst_bool ?g1 ?g2); (case g1 => walk_at "get"))
    | ((with_reducible refine' s_isi_lst_str ?g1 ?g2); (case g1 => walk_at "get"))
    | ((with_reducible refine' s_isi_lst_tuple ?g1 ?g2); (case g1 => walk_at "get"))
    | ((with_reducible refine' s_isi_lst_list ?g1 ?g2); (case g1 => walk_at "get"))
    | ((with_reducible refine' s_isi_dK_int ?g1 ?g2); (case g1 => walk_at "get"))
    | ((with_reducible refine' s_isi_dK_bool ?g1 ?g2); (case g1 => walk_at "get"))
    | ((with_reducible refine' s_isi_dK_str ?g1 ?g2); (case g1 => walk_at "get"))
    | ((with_reducible refine' s_isi_dK_tuple ?g1 ?g2); (case g1 => walk_at "get"))
    | ((with_reducible refine' s_isi_dK_list ?g1 ?g2); (case g1 => walk_at "get")))
local macro_rules
  | `(tactic| walk_at "go") => `(tactic| (repeat walk_at "st"))

section
variable {P : Program} {w : World} {K : PySem.W.Frag} {mg : Str → Option Value} {base : Heap} {A : Adr}
def Atom : V → Prop
  | .non => True
  | .bl _ => True
  | .int _ => True
  | .str _ => True
  | _ => False
def SmTop (R : Hp → V → V → Prop) (H : Hp) (x y : V) : Prop := (Atom x ∧ y = x) ∨ ∃ (a b : Addr) (xs ys : List V), x = .ref a ∧ y = .ref b ∧ H a = some (.tup xs) ∧ H b = some (.tup ys) ∧ Paired (R H) xs ys
def spR (R : Hp → V → V → Prop) : Sp := fun vs H Q _ => ∃ x y : V, vs = [x, y] ∧ R H x y ∧ ∀ H', Same H H' → Q (.bl true) H'
theorem s_isiT2 {K : PySem.W.Frag} {x : V} {p : Addr} {t : Value} {r : Bool} {H : Hp} {Q : VK} (hp : H p = some (.tup [.ty "list", .ty "tuple"])) (hx : TyX K H x t) (e : PySem.W.kitAny K t [.type "list", .type "tuple"] = some r) (h : Q (.bl r) H) : rIsiT K [x, .ref p] H Q :=
  ⟨x, p, _, t, _, r, rfl, hp, .cons (.ty "list") (.cons (.ty "tuple") .nil), hx, e, h⟩
theorem kitAny2 {K : PySem.W.Frag} {t : String} {r1 r2 : Bool} (h1 : kitB t "list" = some r1) (h2 : kitB t "tuple" = some r2) : PySem.W.kitAny K (.type t) [.type "list", .type "tuple"] = some (r1 || r2) := by
  have e1 := kit_ty (K := K) h1
  have e2 := kit_ty (K := K) h2
  unfold PySem.W.kitAny
  rw [e1]
  cases r1 with
  | true => rfl
  | false =>
    show PySem.W.kitAny K (.type t) [.type "tuple"] = _
    unfold PySem.W.kitAny
    rw [e2]
    cases r2 <;> rfl
theorem s_izip {K : PySem.W.Frag} {ta : TA} {σ : L2.St} {H : Hp} {R : It → Hp → Prop} (h : ta σ H fun vs H1 => ∃ a b xs ys, vs = [.ref a, .ref b] ∧ ((SqL K H1 a xs ∧ SqL K H1 b ys ∧ R (Itz K a b) H1) ∨ (SqT K H1 a xs ∧ SqT K H1 b ys ∧ R (RZ.ItzT K a b) H1))) : RZ.iZipA K ta σ H R := h
theorem f_zipT {K : PySem.W.Frag} {a b : Addr} {xs ys : List V} {g : TG} {tb : TS} {n : L2.St → Hp → Prop} {R : VK} {σ : L2.St} {H : Hp} (hl : xs.length = ys.length) (Pv : Nat → L2.St → Hp → Prop) (h0 : Pv 0 σ H) (hq : ∀ i σ H, Pv i σ H → SqT K H a xs ∧ SqT K H b ys)
    (hs : ∀ (i : Nat) (x y : V) (T : Addr) (σ : L2.St) (H : Hp), xs[i]? = some x → ys[i]? = some y → Pv i σ H → H T = none → g (.ref T) σ (upd H T (.tup [x, y])) fun σ2 H2 => tb ⟨Pv (i + 1), R, n, Pv (i + 1)⟩ σ2 H2) (hd : ∀ σ H, Pv xs.length σ H → n σ H) :
    ∃ W : Nat → Nat → L2.St → Hp → Prop, (∃ m, W 0 m σ H) ∧ ∀ i m σ H, W i m σ H →
      ((RZ.ItzT K a b).stop i H ∧ n σ H) ∨ ((RZ.ItzT K a b).go i H ∧ ∃ N : L2.St → Hp → Prop, (∀ σ' H', N σ' H' → ∃ m', m' < m ∧ W (i + 1) m' σ' H') ∧ ∀ v H', (RZ.ItzT K a b).yld i H v H' → g v σ H' fun σ2 H2 => tb ⟨N, R, n, N⟩ σ2 H2) :=
  RZ.for_zipT (D := ⟨n, R, fun _ _ => False, fun _ _ => False⟩) hl Pv h0 hq hs hd
theorem c_same_step (T : Txt w K mg A) {R : Hp → V → V → Prop} {lv : Nat} (rec : C8.Cal P w K mg base lv "_law_same" (spR R) []) (hR : ∀ {H H' : Hp} {x y : V}, Same H H' → R H x y → R H' x y) : C8.Cal P w K mg base (lv + 1) "_law_same" (spR (SmTop R)) [] := by
  obtain ⟨f, fd, D, B⟩ := T.d__law_same
  refine C8.cal0 D B .nil sc__law_same (fun vs H Q E h => ?_) (fun cdv A' outer s H vs Q E hr h => ?_)
  · obtain ⟨x, y, rfl, _⟩ := h
    rfl
  · obtain ⟨x, y, rfl, hxy, k⟩ := h
    have hu := hr.units
    have hu1 := hu_of hr
    have nd := sc__law_same.nd
    refine ⟨_, (pss_cons (ps_if (pt_cmpR op_is3 (pv 1) pe_non (nomark _)) (pss_one (ps_ret (pe_cmpR op_is3 (pv 0) pe_non (nomark _)))) pss_nil)
      (pss_cons (ps_if (pt_val (pe_callB (k_isiT K) (by rfl) T.b_isinstance (by decide +kernel) (pa_cons (pv 1) (pa_cons (pe_tup (pa_cons (pe_bltn (v := .ty "list") (by rfl) T.b_list (by decide +kernel) rfl) (pa_cons (pe_bltn (v := .ty "tuple") (by rfl) T.b_tuple (by decide +kernel) rfl) pa_nil))) pa_nil)))) (pss_cons (ps_if (PW.pt (pw_or (pt_cmpR (k_ne K hu) (pe_callB (k_isi K) (by rfl) T.b_isinstance (by decide +kernel) (pa_cons (pv 1) (pa_cons (pe_bltn (v := .ty "list") (by rfl) T.b_list (by decide +kernel) rfl) pa_nil))) (pe_callB (k_isi K) (by rfl) T.b_isinstance (by decide +kernel) (pa_cons (pv 0) (pa_cons (pe_bltn (v := .ty "list") (by rfl) T.b_list (by decide +kernel) rfl) pa_nil))) (nomark _)) (pw_or1 (pt_cmpR (k_ne K hu) (pe_callB (k_isi K) (by rfl) T.b_isinstance (by decide +kernel) (pa_cons (pv 1) (pa_cons (pe_bltn (v := .ty "tuple") (by rfl) T.b_tuple (by decide +kernel) rfl) pa_nil))) (pe_callB (k_isi K) (by rfl) T.b_isinstance (by decide +kernel) (pa_cons (pv 0) (pa_cons (pe_bltn (v := .ty "tuple") (by rfl) T.b_tuple (by decide +kernel) rfl) pa_nil))) (nomark _))))) (pss_one (ps_ret pe_bl)) pss_nil)
      (pss_cons (ps_if (pt_cmpR (k_ne K hu) (pe_callB (k_len K) (by rfl) T.b_len (by decide +kernel) (pa_cons (pv 0) pa_nil)) (pe_callB (k_len K) (by rfl) T.b_len (by decide +kernel) (pa_cons (pv 1) pa_nil)) (nomark _)) (pss_one (ps_ret pe_bl)) pss_nil)
      (pss_cons (ps_for PassesOwn.never rfl (RZ.pi_zipA (by rfl) T.b_zip (pa_cons (pv 0) (pa_cons (pv 1) pa_nil))) (kg_tup K (n := 2) rfl (pgs_cons (pg_name (i := 2) nd rfl (Or.inl rfl)) (pgs_cons (pg_name (i := 3) nd rfl (Or.inl rfl)) pgs_nil))) (pss_one (ps_if (pt_not (pt_val (C8.pe_c rec hr (Nat.le_refl _) (by rfl) (pa_cons (pv 2) (pa_cons (pv 3) pa_nil))))) (pss_one (ps_ret pe_bl)) pss_nil)))
      (pss_one (ps_ret pe_bl))))) pss_nil)
      (pss_cons (ps_if (PW.pt (pw_and (pt_val (pe_callB (k_isi K) (by rfl) T.b_isinstance (by decide +kernel) (pa_cons (pv 1) (pa_cons (pe_bltn (v := .ty "int") (by rfl) T.b_int (by decide +kernel) rfl) pa_nil)))) (pw_and1 (pt_cmpR (k_ne K hu) (pe_callB (k_isi K) (by rfl) T.b_isinstance (by decide +kernel) (pa_cons (pv 1) (pa_cons (pe_bltn (v := .ty "bool") (by rfl) T.b_bool (by decide +kernel) rfl) pa_nil))) (pe_callB (k_isi K) (by rfl) T.b_isinstance (by decide +kernel) (pa_cons (pv 0) (pa_cons (pe_bltn (v := .ty "bool") (by rfl) T.b_bool (by decide +kernel) rfl) pa_nil))) (nomark _))))) (pss_one (ps_ret pe_bl)) pss_nil)
      (pss_cons (ps_if (PW.pt (pw_or (pt_cmpR (k_ne K hu) (pe_callB (k_isi K) (by rfl) T.b_isinstance (by decide +kernel) (pa_cons (pv 1) (pa_cons (pe_bltn (v := .ty "int") (by rfl) T.b_int (by decide +kernel) rfl) pa_nil))) (pe_callB (k_isi K) (by rfl) T.b_isinstance (by decide +kernel) (pa_cons (pv 0) (pa_cons (pe_bltn (v := .ty "int") (by rfl) T.b_int (by decide +kernel) rfl) pa_nil))) (nomark _)) (pw_or1 (pt_cmpR (k_ne K hu) (pe_callB (k_isi K) (by rfl) T.b_isinstance (by decide +kernel) (pa_cons (pv 1) (pa_cons (pe_bltn (v := .ty "str") (by rfl) T.b_str (by decide +kernel) rfl) pa_nil))) (pe_callB (k_isi K) (by rfl) T.b_isinstance (by decide +kernel) (pa_cons (pv 0) (pa_cons (pe_bltn (v := .ty "str") (by rfl) T.b_str (by decide +kernel) rfl) pa_nil))) (nomark _))))) (pss_one (ps_ret pe_bl)) pss_nil)
      (pss_one (ps_ret (pe_cmpR (k_eq K hu) (pv 0) (pv 1) (nomark _)))))))), ?_⟩
    refine (start_of (σ := [some (x), some (y), none, none]) rfl ?_)
    rcases hxy with ⟨ha, rfl⟩ | ⟨a, b, xs, ys, rfl, rfl, h1, h2, pr⟩
    · cases y with
      | non =>
        walk_at "go"
        rw [decide_eq_true rfl]
        exact k _ (Same.refl _)
      | bl v =>
        walk_at "go"
        refine ⟨by show 2 ≤ sizeLine; decide, fun p hp => ?_⟩
        walk_at "go"
        refine s_isiT2 upd_same (.base (.bl v)) (kitAny2 (r1 := false) (r2 := false) (by decide +kernel) (by decide +kernel)) ?_
        walk_at "go"
        refine .inl ⟨rfl, ?_⟩
        rw [decide_eq_true rfl]
        exact k _ (same_upd (Same.refl _) hp)
      | int v =>
        walk_at "go"
        refine ⟨by show 2 ≤ sizeLine; decide, fun p hp => ?_⟩
        walk_at "go"
        refine s_isiT2 upd_same (.base (.int v)) (kitAny2 (r1 := false) (r2 := false) (by decide +kernel) (by decide +kernel)) ?_
        walk_at "go"
        rw [decide_eq_true rfl]
        exact k _ (same_upd (Same.refl _) hp)
      | str v =>
        walk_at "go"
        refine ⟨by show 2 ≤ sizeLine; decide, fun p hp => ?_⟩
        walk_at "go"
        refine s_isiT2 upd_same (.base (.str v)) (kitAny2 (r1 := false) (r2 := false) (by decide +kernel) (by decide +kernel)) ?_
        walk_at "go"
        rw [decide_eq_true rfl]
        exact k _ (same_upd (Same.refl _) hp)
      | byt v => exact ha.elim
      | flt v => exact ha.elim
      | ref v => exact ha.elim
      | ty v => exact ha.elim
    · walk_at "go"
      refine ⟨by show 2 ≤ sizeLine; decide, fun p hp => ?_⟩
      walk_at "go"
      refine s_isiT2 upd_same (.base (.tup (get_new hp h2))) (kitAny2 (r1 := false) (r2 := true) (by decide +kernel) (by decide +kernel)) ?_
      have g1 := get_new (u := .tup [.ty "list", .ty "tuple"]) hp h1
      have g2 := get_new (u := .tup [.ty "list", .ty "tuple"]) hp h2
      have s1 := same_upd (u := .tup [.ty "list", .ty "tuple"]) (Same.refl H) hp
      generalize upd H p (.tup [.ty "list", .ty "tuple"]) = H1 at g1 g2 s1 ⊢
      walk_at "go"
      have hlen := Paired.length pr
      refine s_lenT (SqT.of g1) ?_
      walk_at "go"
      refine s_lenT (SqT.of g2) ?_
      walk_at "go"
      refine s_ifF (by rw [hlen]; simp) ?_
      walk_at "go"
      refine s_izip ?_
      walk_at "go"
      refine ⟨a, b, xs, ys, rfl, .inr ⟨SqT.of g1, SqT.of g2, f_zipT hlen (fun i σ H' => Same H1 H' ∧ ∃ v1 v2, σ = [some (.ref a), some (.ref b), v1, v2]) ⟨Same.refl _, none, none, rfl⟩ (fun i σ H' z => ⟨SqT.of (z.1 _ _ g1), SqT.of (z.1 _ _ g2)⟩) ?_ ?_⟩⟩
      · rintro i x y T2 σ H2 hx hy ⟨s2, v1, v2, rfl⟩ hT
        refine s_gtup (SqT.of upd_same) rfl ?_
        walk_at "go"
        have s3 := same_upd (u := .tup [x, y]) (s1.trans s2) hT
        obtain ⟨y', hy', hr'⟩ := (pairAll pr).2 _ _ hx
        rw [hy] at hy'
        cases hy'
        refine ⟨x, y, rfl, hR s3 hr', fun H3 s4 => ?_⟩
        walk_at "go"
        exact ⟨(same_upd (u := .tup [x, y]) s2 hT).trans s4, _, _, rfl⟩
      · rintro σ H2 ⟨s2, v1, v2, rfl⟩
        walk_at "go"
        exact k _ (s1.trans s2)
end
end Toy

set_option Elab.async false
set_option linter.all false
set_option maxRecDepth 100000
set_option maxHeartbeats 4000000
namespace Toy
open PySem PySem.Spec PyProof.Rows L2 Lt
local macro_rules
  | `(tactic| walk_at "get") => `(tactic| first
    | assumption
    | exact upd_same
    | ((with_reducible refine' get_new ?g1 ?g2); (case g1 => assumption); (case g2 => walk_at "get"))
    | ((with_reducible refine' get_ne ?g1 ?g2); (case g1 => assumption); (case g2 => walk_at "get"))
    | ((with_reducible refine' get_dif ?g1 ?g2 ?g3); (case g1 => walk_at "get"); (case g2 => walk_at "get"); (case g3 => (intro z; cases z)))
    | (refine' (by assumption : Same _ _) _ _ ?g1; (case g1 => walk_at "get")))
local macro_rules
  | `(tactic| walk_at "cls") => `(tactic| first | assumption)
local macro_rules
  | `(tactic| walk_at "sq") => `(tactic| first
    | assumption
    | exact SqL.of (by walk_at "get")
    | exact SqT.of (by walk_at "get")
    | exact FzT.sq (by assumption)
    | exact Same.seq (by assumption) (by assumption))
local macro_rules
  | `(tactic| walk_at "st") => `(tactic| first
    | with_reducible refine s_seq ?_
    | with_reducible refine s_cons ?_
    | with_reducible refine s_nil ?_
    | ((with_reducible refine' s_var ?g1 ?g2); (case g1 => rfl))
    | with_reducible refine s_c ?_
    | with_reducible refine s_op ?_
    | with_reducible refine s_addI ?_
    | with_reducible refine s_i0 ?_
    | with_reducible refine s_ret ?_
    | with_reducible refine s_retN ?_
    | with_reducible refine s_drop ?_
    | with_reducible refine s_next ?_
    | with_reducible refine s_ifs ?_
    | with_reducible refine s_asg ?_
    | with_reducible refine s_gname ?_
    | with_reducible refine s_gnil ?_
    | with_reducible refine s_gcons ?_
    | with_reducible refine s_gsub ?_
    | with_reducible refine s_un ?_
    | with_reducible refine s_cb ?_
    | with_reducible refine s_call ?_
    | with_reducible refine s_meth ?_
    | ((with_reducible refine' s_meth2 ?g1 ?g2 ?g3); (case g1 => walk_at "get"); (case g2 => rfl))
    | with_reducible refine s_test ?_
    | with_reducible refine s_tb ?_
    | with_reducible refine s_exbl ?_
    | with_reducible refine s_exint ?_
    | with_reducible refine s_and ?_
    | with_reducible refine s_or ?_
    | with_reducible refine s_not ?_
    | with_reducible refine s_andV ?_
    | with_reducible refine s_orV ?_
    | with_reducible refine s_notV ?_
    | with_reducible refine s_ifx ?_
    | with_reducible refine s_yes ?_
    | with_reducible refine s_tup ?_
    | with_reducible refine s_lst ?_
    | with_reducible refine s_fld ?_
    | ((with_reducible refine' s_fld2 ?g1 ?g2 ?g3 ?g4 ?g5); (case g1 => walk_at "get"); (case g2 => walk_at "cls"); (case g3 => walk_at "cls"); (case g4 => rfl))
    | with_reducible refine s_sfld ?_
    | with_reducible refine s_sl ?_
    | with_reducible refine s_nopart ?_
    | with_reducible refine s_part ?_
    | with_reducible refine s_for ?_
    | with_reducible refine s_ilist ?_
    | with_reducible refine s_itup ?_
    | with_reducible refine s_irng1 ?_
    | with_reducible refine s_bm ?_
    | with_reducible refine s_bm0 ?_
    | with_reducible refine s_dget ?_
    | with_reducible refine s_din ?_
    | with_reducible refine s_dnotin ?_
    | with_reducible refine s_dput ?_
    | with_reducible refine s_dget2 ?_
    | with_reducible refine s_dget1 ?_
    | with_reducible refine s_eqI ?_
    | with_reducible refine s_eqS ?_
    | with_reducible refine s_neI ?_
    | with_reducible refine s_neB ?_
    | with_reducible refine s_neS ?_
    | with_reducible refine s_ltI ?_
    | with_reducible refine s_isN ?_
    | with_reducible refine s_isNotN ?_
    | with_reducible refine s_chain ?_
    | with_reducible refine s_make ?_
    | with_reducible refine s_irng2 ?_
    | with_reducible refine s_intI ?_
    | with_reducible refine s_intB ?_
    | ((with_reducible refine' s_mod ?g1 ?g2); (case g1 => omega))
    | ((with_reducible refine' s_fdiv ?g1 ?g2); (case g1 => omega))
    | ((with_reducible refine' s_pow ?g1 ?g2); (case g1 => omega))
    | with_reducible refine s_dc ?_
    | with_reducible refine s_lc ?_
    | with_reducible refine s_iitems ?_
    | with_reducible refine s_ikeys ?_
    | ((with_reducible refine' s_sfld2 ?g1 ?g2 ?g3 ?g4 ?g5); (case g1 => walk_at "get"); (case g2 => walk_at "cls"); (case g3 => walk_at "cls"); (case g4 => exact len1000 rfl))
    | with_reducible refine s_ex2 ?_
    | with_reducible refine s_dnew ?_
    | with_reducible refine s_istr ?_
    | with_reducible refine s_exstr ?_
    | with_reducible refine s_inSg ?_
    | with_reducible refine s_notInSg ?_
    | with_reducible refine s_slb ?_
    | with_reducible refine s_m1 ?_
    | with_reducible refine s_strS ?_
    | with_reducible refine s_kget2 ?_
    | with_reducible refine s_neg ?_
    | ((with_reducible refine' s_ifT ?g1 ?g2); (case g1 => rfl))
    | ((with_reducible refine' s_ifF ?g1 ?g2); (case g1 => rfl))
    | with_reducible refine s_isi_non_int ?_
    | with_reducible refine s_isi_non_bool ?_
    | with_reducible refine s_isi_non_str ?_
    | with_reducible refine s_isi_non_tuple ?_
    | with_reducible refine s_isi_non_list ?_
    | with_reducible refine s_isi_bl_int ?_
    | with_reducible refine s_isi_bl_bool ?_
    | with_reducible refine s_isi_bl_str ?_
    | with_reducible refine s_isi_bl_tuple ?_
    | with_reducible refine s_isi_bl_list ?_
    | with_reducible refine s_isi_int_int ?_
    | with_reducible refine s_isi_int_bool ?_
    | with_reducible refine s_isi_int_str ?_
    | with_reducible refine s_isi_int_tuple ?_
    | with_reducible refine s_isi_int_list ?_
    | with_reducible refine s_isi_str_int ?_
    | with_reducible refine s_isi_str_bool ?_
    | with_reducible refine s_isi_str_str ?_
    | with_reducible refine s_isi_str_tuple ?_
    | with_reducible refine s_isi_str_list ?_
    | ((with_reducible refine' s_isi_tup_int ?g1 ?g2); (case g1 => walk_at "get"))
    | ((with_reducible refine' s_isi_tup_bool ?g1 ?g2); (case g1 => walk_at "get"))
    | ((with_reducible refine' s_isi_tup_str ?g1 ?g2); (case g1 => walk_at "get"))
    | ((with_reducible refine' s_isi_tup_tuple ?g1 ?g2); (case g1 => walk_at "get"))
    | ((with_reducible refine' s_isi_tup_list ?g1 ?g2); (case g1 => walk_at "get"))
    | ((with_reducible refine' s_isi_lst_int ?g1 ?g2); (case g1 => walk_at "get"))
    | ((with_reducible refine' s_isi_lst_bool ?g1 ?g2); (case g1 => walk_at "get"))
    | ((with_reducible refine' s_isi_lst_str ?g1 ?g2); (case g1 => walk_at "get"))
    | ((with_reducible refine' s_isi_lst_tuple ?g1 ?g2); (case g1 => walk_at "get"))
    | ((with_reducible refine' s_isi_lst_list ?g1 ?g2); (case g1 => walk_at "get"))
    | ((with_reducible refine' s_isi_dK_int ?g1 ?g2); (case g1 => walk_at "get"))
    | ((with_reducible refine' s_isi_dK_bool ?g1 ?g2); (case g1 => walk_at "get"))
    | ((with_reducible refine' s_isi_dK_str ?g1 ?g2); (case g1 => walk_at "get"))
    | ((with_reducible refine' s_isi_dK_tuple ?g1 ?g2); (case g1 => walk_at "get"))
    | ((with_reducible refine' s_isi_dK_list ?g1 ?g2); (case g1 => walk_at "get")))
local macro_rules
  | `(tactic| walk_at "go") => `(tactic| (repeat walk_at "st"))

section
variable {P : Program} {w : World} {K : PySem.W.Frag} {mg : Str → Option Value} {base : Heap} {A : Adr}
def Sm0 : Hp → V → V → Prop := fun _ _ _ => False
theorem SmTop.mono {R : Hp → V → V → Prop} (hR : ∀ {H H' : Hp} {x y : V}, Same H H' → R H x y → R H' x y) {H H' : Hp} {x y : V} (s : Same H H') (h : SmTop R H x y) : SmTop R H' x y := by
  rcases h with h | ⟨a, b, xs, ys, e1, e2, h1, h2, pr⟩
  · exact .inl h
  · exact .inr ⟨a, b, xs, ys, e1, e2, s _ _ h1, s _ _ h2, Paired.mapP pr fun _ _ q => hR s q⟩
theorem Sm0.mono {H H' : Hp} {x y : V} (s : Same H H') (h : Sm0 H x y) : Sm0 H' x y := h
theorem c_same0 (T : Txt w K mg A) : C8.Cal P w K mg base 1 "_law_same" (spR Sm0) [] := by
  obtain ⟨f, fd, D, B⟩ := T.d__law_same
  refine C8.cal0 D B .nil sc__law_same (fun vs H Q E h => ?_) (fun cdv A' outer s H vs Q E hr h => ?_)
  · obtain ⟨x, y, rfl, h, _⟩ := h
    exact h.elim
  · obtain ⟨x, y, rfl, h, _⟩ := h
    exact h.elim
abbrev Sm3 : Hp → V → V → Prop := SmTop (SmTop (SmTop Sm0))
theorem c__law_same (T : Txt w K mg A) : C8.Cal P w K mg base 4 "_law_same" (spR Sm3) [] :=
  c_same_step T (R := SmTop (SmTop Sm0)) (c_same_step T (R := SmTop Sm0) (c_same_step T (R := Sm0) (c_same0 T) (fun s h => Sm0.mono s h)) (fun s h => SmTop.mono (R := Sm0) (fun s h => Sm0.mono s h) s h)) (fun s h => SmTop.mono (R := SmTop Sm0) (fun s h => SmTop.mono (R := Sm0) (fun s h => Sm0.mono s h) s h) s h)
def AtIt : It2 → Prop
  | .inl v => Atom v
  | .inr vs => ∀ v ∈ vs, Atom v
theorem items_at (d : Deed) : ∀ i ∈ d.items, AtIt i := by
  cases d <;> simp only [Deed.items, List.forall_mem_cons, AtIt, Atom, vS] <;> (try simp) 
theorem pairs_same {H : Hp} : ∀ {vs : List V}, (∀ v ∈ vs, Atom v) → Paired (SmTop Sm0 H) vs vs
  | [], _ => .nil
  | v :: r, h => .cons (.inl ⟨h v (by simp), rfl⟩) (pairs_same fun x hx => h x (List.mem_cons_of_mem _ hx))
theorem deeds_same {H : Hp} : ∀ {its : List It2} {xs ys : List V}, (∀ i ∈ its, AtIt i) → Paired (ItAt H) xs its → Paired (ItAt H) ys its → Paired (SmTop (SmTop Sm0) H) xs ys
  | [], _, _, _, .nil, .nil => .nil
  | i :: its, _, _, h, .cons h1 p1, .cons h2 p2 => by
    refine .cons ?_ (deeds_same (fun x hx => h x (List.mem_cons_of_mem _ hx)) p1 p2)
    have hi := h i (by simp)
    cases i with
    | inl v =>
      cases h1
      cases h2
      exact .inl ⟨hi, rfl⟩
    | inr vs =>
      obtain ⟨p, rfl, hp⟩ := h1
      obtain ⟨q, rfl, hq⟩ := h2
      exact .inr ⟨p, q, vs, vs, rfl, rfl, hp, hq, pairs_same hi⟩
theorem deed_same {H : Hp} {a b : Addr} {d : Deed} (h1 : DeedAt H a d.items) (h2 : DeedAt H b d.items) : Sm3 H (.ref a) (.ref b) := by
  obtain ⟨xs, e1, p1⟩ := h1
  obtain ⟨ys, e2, p2⟩ := h2
  exact .inr ⟨a, b, xs, ys, rfl, rfl, e1, e2, deeds_same (items_at d) p1 p2⟩
theorem line_same {H : Hp} {l : List Nat} : Sm3 H (vS l) (vS l) := .inl ⟨trivial, rfl⟩
theorem IsPair.same {H H' : Hp} {v : V} (s : Same H H') (h : IsPair H v) : IsPair H' v := by
  obtain ⟨t, a, d, e, hd, h1, h2⟩ := h
  exact ⟨t, a, d, e, hd, s _ _ h1, h2.same s⟩
def spLaw (K : PySem.W.Frag) : Sp := fun vs H Q _ => ∃ (a : Addr) (ns : List Int), vs = [.ref a] ∧ SqL K H a (ns.map V.int) ∧ ns.length ≤ 63 ∧ ∀ H', Q (.bl true) H'
theorem c_law (T : Txt w K mg A) {f : Addr} {fd : FuncData} (F : C8.Fun K "law" "law" s_law f fd) : FnOk P w K mg base C8.CX0 5 f fd ["_law_script"] (spLaw K) := by
  refine C8.fn0 F sc_law (fun vs H Q E h => ?_) (fun cdv A' outer s H vs Q E hr h => ?_)
  · obtain ⟨a, ns, rfl, _⟩ := h
    rfl
  · obtain ⟨a, ns, rfl, hS, hl, k⟩ := h
    have hu := hr.units
    have hu1 := hu_of hr
    have nd := sc_law.nd
    refine ⟨_, (pss_cons (ps_set (i := 1) nd rfl (Or.inl rfl) (C8.pe_c (c__law_state T) hr (by decide) (by rfl) (pa_cons (pv 0) (pa_cons pe_int pa_nil))))
      (pss_cons (ps_for PassesOwn.never rfl (pi_range1 (by rfl) T.b_range (pa_cons pe_int pa_nil)) (pg_name (i := 2) nd rfl (Or.inl rfl)) (pss_one (ps_for PassesOwn.never rfl (ki_list K (pe_lst (pa_cons (C8.pe_c (c__law_write T) hr (by decide) (by rfl) (pa_cons (pv 1) pa_nil)) (pa_cons (C8.pe_c (c__law_reading T) hr (by decide) (by rfl) (pa_cons (pv 1) pa_nil)) (pa_cons (C8.pe_c (c__law_takeover T) hr (by decide) (by rfl) (pa_cons (pv 1) pa_nil)) (pa_cons (C8.pe_c (c__law_numbers T) hr (by decide) (by rfl) (pa_cons (pv 1) pa_nil)) pa_nil)))))) (kg_tup K (n := 2) rfl (pgs_cons (pg_name (i := 3) nd rfl (Or.inl rfl)) (pgs_cons (pg_name (i := 4) nd rfl (Or.inl rfl)) pgs_nil))) (pss_cons (ps_if (PW.pt (pw_or (pt_not (pt_val (C8.pe_c (c__law_same T) hr (by decide) (by rfl) (pa_cons (C8.pe_c (c_show_line T) hr (by decide) (by rfl) (pa_cons (pv 3) pa_nil)) (pa_cons (pv 4) pa_nil))))) (pw_or1 (pt_not (pt_val (C8.pe_c (c__law_same T) hr (by decide) (by rfl) (pa_cons (C8.pe_c (c_read_line T) hr (by decide) (by rfl) (pa_cons (pv 4) pa_nil)) (pa_cons (pv 3) pa_nil)))))))) (pss_one (ps_ret pe_bl)) pss_nil)
      (pss_one (ps_if (PW.pt (pw_or (pt_not (pt_val (C8.pe_c (c__law_same T) hr (by decide) (by rfl) (pa_cons (C8.pe_c (c_read_line T) hr (by decide) (by rfl) (pa_cons (C8.pe_c (c_show_line T) hr (by decide) (by rfl) (pa_cons (pv 3) pa_nil)) pa_nil)) (pa_cons (pv 3) pa_nil))))) (pw_or1 (pt_not (pt_val (C8.pe_c (c__law_same T) hr (by decide) (by rfl) (pa_cons (C8.pe_c (c_show_line T) hr (by decide) (by rfl) (pa_cons (C8.pe_c (c_read_line T) hr (by decide) (by rfl) (pa_cons (pv 4) pa_nil)) pa_nil)) (pa_cons (pv 4) pa_nil)))))))) (pss_one (ps_ret pe_bl)) pss_nil))))))
      (pss_one (ps_ret pe_bl)))), ?_⟩
    refine (start_of (σ := [some (.ref a), none, none, none, none]) rfl ?_)
    walk_at "go"
    refine ⟨a, ns, 50, rfl, by omega, hS, hl, fun q c cells H1 s1 hq0 S1 => ?_⟩
    walk_at "go"
    refine s_rng1 (by omega) (by omega) (f_range (fun i σ H' => ∃ v2 v3 v4, σ = [some (.ref a), some (.ref q), v2, v3, v4] ∧ StAt H' q c cells (600 * i)) ⟨none, none, none, rfl, S1.le (by omega)⟩ ?_ ?_)
    · rintro i σ H2 hi ⟨v2, v3, v4, rfl, S2⟩
      have hi8 : i < 8 := hi
      walk_at "go"
      refine ⟨q, c, cells, _, rfl, S2, by omega, ?_⟩
      rintro w1 H3 P3 S3 B3
      walk_at "go"
      refine ⟨q, c, cells, _, rfl, S3, by omega, ?_⟩
      rintro w2 H4 P4 S4 B4
      walk_at "go"
      refine ⟨q, c, cells, _, rfl, S4, by omega, ?_⟩
      rintro w3 H5 P5 S5 B5
      walk_at "go"
      refine ⟨q, c, cells, _, rfl, S5, by omega, ?_⟩
      rintro w4 H6 P6 S6 B6
      obtain ⟨i3, l3, s3, hq3, _⟩ := id S3.qq
      obtain ⟨i4, l4, s4, hq4, _⟩ := id S4.qq
      obtain ⟨i5, l5, s5, hq5, _⟩ := id S5.qq
      have P3 := ((P3.but B4 hq3).but B5 hq4).but B6 hq5
      have P4 := (P4.but B5 hq4).but B6 hq5
      have P5 := P5.but B6 hq5
      walk_at "go"
      refine ⟨by show 4 ≤ sizeLine; decide, fun pl hpl => ?_⟩
      have hall : ∀ v ∈ [w1, w2, w3, w4], IsPair (upd H6 pl (.lst [w1, w2, w3, w4])) v := by
        have st := same_upd (u := .lst [w1, w2, w3, w4]) (Same.refl H6) hpl
        simp only [List.forall_mem_cons]
        exact ⟨P3.same st, P4.same st, P5.same st, P6.same st, by simp⟩
      have S7 := S6.same (same_upd (u := .lst [w1, w2, w3, w4]) (Same.refl H6) hpl)
      have h7 : upd H6 pl (.lst [w1, w2, w3, w4]) pl = some (.lst [w1, w2, w3, w4]) := upd_same
      generalize upd H6 pl (.lst [w1, w2, w3, w4]) = H7 at hall S7 h7 ⊢
      walk_at "go"
      refine s_ilist2 (SqL.of h7) (f_list (fun j σ H' => Same H7 H' ∧ ∃ v3 v4, σ = [some (.ref a), some (.ref q), some (.int (0 + i)), v3, v4]) ⟨Same.refl _, _, _, rfl⟩ (fun j σ H' _ z => SqL.of (z.1 _ _ h7)) ?_ ?_)
      · rintro j v σ H8 hj ⟨s8, v3', v4', rfl⟩
        obtain ⟨t, ad, d, rfl, hok, ht, hd⟩ := (hall v (List.mem_of_getElem? hj)).same s8
        refine s_gtup (SqT.of ht) rfl ?_
        walk_at "go"
        refine ⟨ad, d, rfl, hok, hd, fun Ha sa => ?_⟩
        walk_at "go"
        refine ⟨vS d.line, vS d.line, rfl, line_same, fun Hb sb => ?_⟩
        walk_at "go"
        refine ⟨d, rfl, hok, fun tr Hc sc hr1 => ?_⟩
        have hdc := hd.same ((sa.trans sb).trans sc)
        walk_at "go"
        refine ⟨.ref tr, .ref ad, rfl, deed_same hr1 hdc, fun He se => ?_⟩
        have hde := hdc.same se
        walk_at "go"
        refine ⟨ad, d, rfl, hok, hde, fun Hf sf => ?_⟩
        walk_at "go"
        refine ⟨d, rfl, hok, fun tr2 Hg sg hr2 => ?_⟩
        have hdg := hde.same (sf.trans sg)
        walk_at "go"
        refine ⟨.ref tr2, .ref ad, rfl, deed_same hr2 hdg, fun Hh sh => ?_⟩
        walk_at "go"
        refine ⟨d, rfl, hok, fun tr3 Hi si hr3 => ?_⟩
        walk_at "go"
        refine ⟨tr3, d, rfl, hok, hr3, fun Hj sj => ?_⟩
        walk_at "go"
        refine ⟨vS d.line, vS d.line, rfl, line_same, fun Hk sk => ?_⟩
        walk_at "go"
        exact ⟨s8.trans ((((((((((sa.trans sb).trans sc).trans se).trans sf).trans sg).trans sh).trans si).trans sj)).trans sk), _, _, rfl⟩
      · rintro σ H8 ⟨s8, v3', v4', rfl⟩
        exact ⟨_, _, _, rfl, (S7.same s8).le (by omega)⟩
    · rintro σ H2 ⟨v2, v3, v4, rfl, S2⟩
      walk_at "go"
      exact k _
end
theorem all_mk {l : PySem.W.OpenLaw} {w : World} {K : PySem.W.Frag} {h : Heap} {mg : Str → Option Value} {fa : Addr} (X : K.In h) (G : h.Ns mainGlobals mg) (hfa : mg "law" = some (.ref fa))
    {D_COUNTS : Addr} {es_COUNTS : Array DictEntry} {n_COUNTS : Nat}
    {D_MORE_COUNTS : Addr} {es_MORE_COUNTS : Array DictEntry} {n_MORE_COUNTS : Nat}
    {u_KEY_SIGNS : Value}
    {u_LETTERS_OF_KEYS : Value}
    {u_FIGURES : Value}
    {u_FIGURE_SIGNS : Value}
    {f_is_key : Addr} {od_is_key an_is_key : Option Addr} {sl_is_key : Array (Option Value)} {oc_is_key kV_is_key dc_is_key pm_is_key cd_is_key ct_is_key : Value}
    {f_is_figures : Addr} {od_is_figures an_is_figures : Option Addr} {sl_is_figures : Array (Option Value)} {oc_is_figures kV_is_figures dc_is_figures pm_is_figures cd_is_figures ct_is_figures : Value}
    {f_number_of : Addr} {od_number_of an_number_of : Option Addr} {sl_number_of : Array (Option Value)} {oc_number_of kV_number_of dc_number_of pm_number_of cd_number_of ct_number_of : Value}
    {f_key_of : Addr} {od_key_of an_key_of : Option Addr} {sl_key_of : Array (Option Value)} {oc_key_of kV_key_of dc_key_of pm_key_of cd_key_of ct_key_of : Value}
    {f_read_write : Addr} {od_read_write an_read_write : Option Addr} {sl_read_write : Array (Option Value)} {oc_read_write kV_read_write dc_read_write pm_read_write cd_read_write ct_read_write : Value}
    {f_read_reading : Addr} {od_read_reading an_read_reading : Option Addr} {sl_read_reading : Array (Option Value)} {oc_read_reading kV_read_reading dc_read_reading pm_read_reading cd_read_reading ct_read_reading : Value}
    {f_read_apply : Addr} {od_read_apply an_read_apply : Option Addr} {sl_read_apply : Array (Option Value)} {oc_read_apply kV_read_apply dc_read_apply pm_read_apply cd_read_apply ct_read_apply : Value}
    {f_read_takeover : Addr} {od_read_takeover an_read_takeover : Option Addr} {sl_read_takeover : Array (Option Value)} {oc_read_takeover kV_read_takeover dc_read_takeover pm_read_takeover cd_read_takeover ct_read_takeover : Value}
    {f_read_line : Addr} {od_read_line an_read_line : Option Addr} {sl_read_line : Array (Option Value)} {oc_read_line kV_read_line dc_read_line pm_read_line cd_read_line ct_read_line : Value}
    {f_show_line : Addr} {od_show_line an_show_line : Option Addr} {sl_show_line : Array (Option Value)} {oc_show_line kV_show_line dc_show_line pm_show_line cd_show_line ct_show_line : Value}
    {f__law_state : Addr} {od__law_state an__law_state : Option Addr} {sl__law_state : Array (Option Value)} {oc__law_state kV__law_state dc__law_state pm__law_state cd__law_state ct__law_state : Value}
    {f__law_next : Addr} {od__law_next an__law_next : Option Addr} {sl__law_next : Array (Option Value)} {oc__law_next kV__law_next dc__law_next pm__law_next cd__law_next ct__law_next : Value}
    {f__law_key : Addr} {od__law_key an__law_key : Option Addr} {sl__law_key : Array (Option Value)} {oc__law_key kV__law_key dc__law_key pm__law_key cd__law_key ct__law_key : Value}
    {f__law_same : Addr} {od__law_same an__law_same : Option Addr} {sl__law_same : Array (Option Value)} {oc__law_same kV__law_same dc__law_same pm__law_same cd__law_same ct__law_same : Value}
    {f__law_number : Addr} {od__law_number an__law_number : Option Addr} {sl__law_number : Array (Option Value)} {oc__law_number kV__law_number dc__law_number pm__law_number cd__law_number ct__law_number : Value}
    {f__law_figures : Addr} {od__law_figures an__law_figures : Option Addr} {sl__law_figures : Array (Option Value)} {oc__law_figures kV__law_figures dc__law_figures pm__law_figures cd__law_figures ct__law_figures : Value}
    {f__law_write : Addr} {od__law_write an__law_write : Option Addr} {sl__law_write : Array (Option Value)} {oc__law_write kV__law_write dc__law_write pm__law_write cd__law_write ct__law_write : Value}
    {f__law_reading : Addr} {od__law_reading an__law_reading : Option Addr} {sl__law_reading : Array (Option Value)} {oc__law_reading kV__law_reading dc__law_reading pm__law_reading cd__law_reading ct__law_reading : Value}
    {f__law_takeover : Addr} {od__law_takeover an__law_takeover : Option Addr} {sl__law_takeover : Array (Option Value)} {oc__law_takeover kV__law_takeover dc__law_takeover pm__law_takeover cd__law_takeover ct__law_takeover : Value}
    {f__law_numbers : Addr} {od__law_numbers an__law_numbers : Option Addr} {sl__law_numbers : Array (Option Value)} {oc__law_numbers kV__law_numbers dc__law_numbers pm__law_numbers cd__law_numbers ct__law_numbers : Value}
    {f_law : Addr} {od_law an_law : Option Addr} {sl_law : Array (Option Value)} {oc_law kV_law dc_law pm_law cd_law ct_law : Value}
    (kg_COUNTS : PySem.W.nsIn K mainGlobals "COUNTS" = some (some (.ref D_COUNTS)))
    (kl_COUNTS : K.lookup D_COUNTS = some ⟨.type "dict", none, .dict es_COUNTS n_COUNTS, #[]⟩)
    (kk_COUNTS : PySem.W.KeysLit w.params es_COUNTS.toList)
    (kz_COUNTS : (D_COUNTS == sysModules) = false)
    (kt_COUNTS : KTab es_COUNTS.toList tab_COUNTS)
    (kg_MORE_COUNTS : PySem.W.nsIn K mainGlobals "MORE_COUNTS" = some (some (.ref D_MORE_COUNTS)))
    (kl_MORE_COUNTS : K.lookup D_MORE_COUNTS = some ⟨.type "dict", none, .dict es_MORE_COUNTS n_MORE_COUNTS, #[]⟩)
    (kk_MORE_COUNTS : PySem.W.KeysLit w.params es_MORE_COUNTS.toList)
    (kz_MORE_COUNTS : (D_MORE_COUNTS == sysModules) = false)
    (kt_MORE_COUNTS : KTab es_MORE_COUNTS.toList tab_MORE_COUNTS)
    (z_abs : PySem.W.nsIn K mainGlobals "abs" = some none)
    (z_all : PySem.W.nsIn K mainGlobals "all" = some none)
    (z_bool : PySem.W.nsIn K mainGlobals "bool" = some none)
    (z_int : PySem.W.nsIn K mainGlobals "int" = some none)
    (z_isinstance : PySem.W.nsIn K mainGlobals "isinstance" = some none)
    (z_len : PySem.W.nsIn K mainGlobals "len" = some none)
    (z_list : PySem.W.nsIn K mainGlobals "list" = some none)
    (z_range : PySem.W.nsIn K mainGlobals "range" = some none)
    (z_str : PySem.W.nsIn K mainGlobals "str" = some none)
    (z_tuple : PySem.W.nsIn K mainGlobals "tuple" = some none)
    (z_zip : PySem.W.nsIn K mainGlobals "zip" = some none)
    (g_KEY_SIGNS : PySem.W.nsIn K mainGlobals "KEY_SIGNS" = some (some u_KEY_SIGNS))
    (r_KEY_SIGNS : RelV (.int 12) u_KEY_SIGNS)
    (g_LETTERS_OF_KEYS : PySem.W.nsIn K mainGlobals "LETTERS_OF_KEYS" = some (some u_LETTERS_OF_KEYS))
    (r_LETTERS_OF_KEYS : RelV (.str "abcdefghijklmnopqrstuvwxyz") u_LETTERS_OF_KEYS)
    (g_FIGURES : PySem.W.nsIn K mainGlobals "FIGURES" = some (some u_FIGURES))
    (r_FIGURES : RelV (.int 60) u_FIGURES)
    (g_FIGURE_SIGNS : PySem.W.nsIn K mainGlobals "FIGURE_SIGNS" = some (some u_FIGURE_SIGNS))
    (r_FIGURE_SIGNS : RelV (.str "0123456789") u_FIGURE_SIGNS)
    (a_is_key : PySem.W.nsIn K mainGlobals "is_key" = some (some (.ref f_is_key)))
    (l_is_key : K.lookup f_is_key = some ⟨oc_is_key, od_is_key, .func (PySem.W.fnOf "is_key" "is_key" (C8.fnArgs s_is_key) (C8.fnBody s_is_key) (C8.fnScope s_is_key) .none kV_is_key dc_is_key pm_is_key an_is_key cd_is_key ct_is_key), sl_is_key⟩)
    (q_is_key : PySem.W.codeIn K cd_is_key "is_key" = true)
    (k_is_key : PySem.W.keepIn K (.ref f_is_key) = true)
    (a_is_figures : PySem.W.nsIn K mainGlobals "is_figures" = some (some (.ref f_is_figures)))
    (l_is_figures : K.lookup f_is_figures = some ⟨oc_is_figures, od_is_figures, .func (PySem.W.fnOf "is_figures" "is_figures" (C8.fnArgs s_is_figures) (C8.fnBody s_is_figures) (C8.fnScope s_is_figures) .none kV_is_figures dc_is_figures pm_is_figures an_is_figures cd_is_figures ct_is_figures), sl_is_figures⟩)
    (q_is_figures : PySem.W.codeIn K cd_is_figures "is_figures" = true)
    (k_is_figures : PySem.W.keepIn K (.ref f_is_figures) = true)
    (a_number_of : PySem.W.nsIn K mainGlobals "number_of" = some (some (.ref f_number_of)))
    (l_number_of : K.lookup f_number_of = some ⟨oc_number_of, od_number_of, .func (PySem.W.fnOf "number_of" "number_of" (C8.fnArgs s_number_of) (C8.fnBody s_number_of) (C8.fnScope s_number_of) .none kV_number_of dc_number_of pm_number_of an_number_of cd_number_of ct_number_of), sl_number_of⟩)
    (q_number_of : PySem.W.codeIn K cd_number_of "number_of" = true)
    (k_number_of : PySem.W.keepIn K (.ref f_number_of) = true)
    (a_key_of : PySem.W.nsIn K mainGlobals "key_of" = some (some (.ref f_key_of)))
    (l_key_of : K.lookup f_key_of = some ⟨oc_key_of, od_key_of, .func (PySem.W.fnOf "key_of" "key_of" (C8.fnArgs s_key_of) (C8.fnBody s_key_of) (C8.fnScope s_key_of) .none kV_key_of dc_key_of pm_key_of an_key_of cd_key_of ct_key_of), sl_key_of⟩)
    (q_key_of : PySem.W.codeIn K cd_key_of "key_of" = true)
    (k_key_of : PySem.W.keepIn K (.ref f_key_of) = true)
    (a_read_write : PySem.W.nsIn K mainGlobals "read_write" = some (some (.ref f_read_write)))
    (l_read_write : K.lookup f_read_write = some ⟨oc_read_write, od_read_write, .func (PySem.W.fnOf "read_write" "read_write" (C8.fnArgs s_read_write) (C8.fnBody s_read_write) (C8.fnScope s_read_write) .none kV_read_write dc_read_write pm_read_write an_read_write cd_read_write ct_read_write), sl_read_write⟩)
    (q_read_write : PySem.W.codeIn K cd_read_write "read_write" = true)
    (k_read_write : PySem.W.keepIn K (.ref f_read_write) = true)
    (a_read_reading : PySem.W.nsIn K mainGlobals "read_reading" = some (some (.ref f_read_reading)))
    (l_read_reading : K.lookup f_read_reading = some ⟨oc_read_reading, od_read_reading, .func (PySem.W.fnOf "read_reading" "read_reading" (C8.fnArgs s_read_reading) (C8.fnBody s_read_reading) (C8.fnScope s_read_reading) .none kV_read_reading dc_read_reading pm_read_reading an_read_reading cd_read_reading ct_read_reading), sl_read_reading⟩)
    (q_read_reading : PySem.W.codeIn K cd_read_reading "read_reading" = true)
    (k_read_reading : PySem.W.keepIn K (.ref f_read_reading) = true)
    (a_read_apply : PySem.W.nsIn K mainGlobals "read_apply" = some (some (.ref f_read_apply)))
    (l_read_apply : K.lookup f_read_apply = some ⟨oc_read_apply, od_read_apply, .func (PySem.W.fnOf "read_apply" "read_apply" (C8.fnArgs s_read_apply) (C8.fnBody s_read_apply) (C8.fnScope s_read_apply) .none kV_read_apply dc_read_apply pm_read_apply an_read_apply cd_read_apply ct_read_apply), sl_read_apply⟩)
    (q_read_apply : PySem.W.codeIn K cd_read_apply "read_apply" = true)
    (k_read_apply : PySem.W.keepIn K (.ref f_read_apply) = true)
    (a_read_takeover : PySem.W.nsIn K mainGlobals "read_takeover" = some (some (.ref f_read_takeover)))
    (l_read_takeover : K.lookup f_read_takeover = some ⟨oc_read_takeover, od_read_takeover, .func (PySem.W.fnOf "read_takeover" "read_takeover" (C8.fnArgs s_read_takeover) (C8.fnBody s_read_takeover) (C8.fnScope s_read_takeover) .none kV_read_takeover dc_read_takeover pm_read_takeover an_read_takeover cd_read_takeover ct_read_takeover), sl_read_takeover⟩)
    (q_read_takeover : PySem.W.codeIn K cd_read_takeover "read_takeover" = true)
    (k_read_takeover : PySem.W.keepIn K (.ref f_read_takeover) = true)
    (a_read_line : PySem.W.nsIn K mainGlobals "read_line" = some (some (.ref f_read_line)))
    (l_read_line : K.lookup f_read_line = some ⟨oc_read_line, od_read_line, .func (PySem.W.fnOf "read_line" "read_line" (C8.fnArgs s_read_line) (C8.fnBody s_read_line) (C8.fnScope s_read_line) .none kV_read_line dc_read_line pm_read_line an_read_line cd_read_line ct_read_line), sl_read_line⟩)
    (q_read_line : PySem.W.codeIn K cd_read_line "read_line" = true)
    (k_read_line : PySem.W.keepIn K (.ref f_read_line) = true)
    (a_show_line : PySem.W.nsIn K mainGlobals "show_line" = some (some (.ref f_show_line)))
    (l_show_line : K.lookup f_show_line = some ⟨oc_show_line, od_show_line, .func (PySem.W.fnOf "show_line" "show_line" (C8.fnArgs s_show_line) (C8.fnBody s_show_line) (C8.fnScope s_show_line) .none kV_show_line dc_show_line pm_show_line an_show_line cd_show_line ct_show_line), sl_show_line⟩)
    (q_show_line : PySem.W.codeIn K cd_show_line "show_line" = true)
    (k_show_line : PySem.W.keepIn K (.ref f_show_line) = true)
    (a__law_state : PySem.W.nsIn K mainGlobals "_law_state" = some (some (.ref f__law_state)))
    (l__law_state : K.lookup f__law_state = some ⟨oc__law_state, od__law_state, .func (PySem.W.fnOf "_law_state" "_law_state" (C8.fnArgs s__law_state) (C8.fnBody s__law_state) (C8.fnScope s__law_state) .none kV__law_state dc__law_state pm__law_state an__law_state cd__law_state ct__law_state), sl__law_state⟩)
    (q__law_state : PySem.W.codeIn K cd__law_state "_law_state" = true)
    (k__law_state : PySem.W.keepIn K (.ref f__law_state) = true)
    (a__law_next : PySem.W.nsIn K mainGlobals "_law_next" = some (some (.ref f__law_next)))
    (l__law_next : K.lookup f__law_next = some ⟨oc__law_next, od__law_next, .func (PySem.W.fnOf "_law_next" "_law_next" (C8.fnArgs s__law_next) (C8.fnBody s__law_next) (C8.fnScope s__law_next) .none kV__law_next dc__law_next pm__law_next an__law_next cd__law_next ct__law_next), sl__law_next⟩)
    (q__law_next : PySem.W.codeIn K cd__law_next "_law_next" = true)
    (k__law_next : PySem.W.keepIn K (.ref f__law_next) = true)
    (a__law_key : PySem.W.nsIn K mainGlobals "_law_key" = some (some (.ref f__law_key)))
    (l__law_key : K.lookup f__law_key = some ⟨oc__law_key, od__law_key, .func (PySem.W.fnOf "_law_key" "_law_key" (C8.fnArgs s__law_key) (C8.fnBody s__law_key) (C8.fnScope s__law_key) .none kV__law_key dc__law_key pm__law_key an__law_key cd__law_key ct__law_key), sl__law_key⟩)
    (q__law_key : PySem.W.codeIn K cd__law_key "_law_key" = true)
    (k__law_key : PySem.W.keepIn K (.ref f__law_key) = true)
    (a__law_same : PySem.W.nsIn K mainGlobals "_law_same" = some (some (.ref f__law_same)))
    (l__law_same : K.lookup f__law_same = some ⟨oc__law_same, od__law_same, .func (PySem.W.fnOf "_law_same" "_law_same" (C8.fnArgs s__law_same) (C8.fnBody s__law_same) (C8.fnScope s__law_same) .none kV__law_same dc__law_same pm__law_same an__law_same cd__law_same ct__law_same), sl__law_same⟩)
    (q__law_same : PySem.W.codeIn K cd__law_same "_law_same" = true)
    (k__law_same : PySem.W.keepIn K (.ref f__law_same) = true)
    (a__law_number : PySem.W.nsIn K mainGlobals "_law_number" = some (some (.ref f__law_number)))
    (l__law_number : K.lookup f__law_number = some ⟨oc__law_number, od__law_number, .func (PySem.W.fnOf "_law_number" "_law_number" (C8.fnArgs s__law_number) (C8.fnBody s__law_number) (C8.fnScope s__law_number) .none kV__law_number dc__law_number pm__law_number an__law_number cd__law_number ct__law_number), sl__law_number⟩)
    (q__law_number : PySem.W.codeIn K cd__law_number "_law_number" = true)
    (k__law_number : PySem.W.keepIn K (.ref f__law_number) = true)
    (a__law_figures : PySem.W.nsIn K mainGlobals "_law_figures" = some (some (.ref f__law_figures)))
    (l__law_figures : K.lookup f__law_figures = some ⟨oc__law_figures, od__law_figures, .func (PySem.W.fnOf "_law_figures" "_law_figures" (C8.fnArgs s__law_figures) (C8.fnBody s__law_figures) (C8.fnScope s__law_figures) .none kV__law_figures dc__law_figures pm__law_figures an__law_figures cd__law_figures ct__law_figures), sl__law_figures⟩)
    (q__law_figures : PySem.W.codeIn K cd__law_figures "_law_figures" = true)
    (k__law_figures : PySem.W.keepIn K (.ref f__law_figures) = true)
    (a__law_write : PySem.W.nsIn K mainGlobals "_law_write" = some (some (.ref f__law_write)))
    (l__law_write : K.lookup f__law_write = some ⟨oc__law_write, od__law_write, .func (PySem.W.fnOf "_law_write" "_law_write" (C8.fnArgs s__law_write) (C8.fnBody s__law_write) (C8.fnScope s__law_write) .none kV__law_write dc__law_write pm__law_write an__law_write cd__law_write ct__law_write), sl__law_write⟩)
    (q__law_write : PySem.W.codeIn K cd__law_write "_law_write" = true)
    (k__law_write : PySem.W.keepIn K (.ref f__law_write) = true)
    (a__law_reading : PySem.W.nsIn K mainGlobals "_law_reading" = some (some (.ref f__law_reading)))
    (l__law_reading : K.lookup f__law_reading = some ⟨oc__law_reading, od__law_reading, .func (PySem.W.fnOf "_law_reading" "_law_reading" (C8.fnArgs s__law_reading) (C8.fnBody s__law_reading) (C8.fnScope s__law_reading) .none kV__law_reading dc__law_reading pm__law_reading an__law_reading cd__law_reading ct__law_reading), sl__law_reading⟩)
    (q__law_reading : PySem.W.codeIn K cd__law_reading "_law_reading" = true)
    (k__law_reading : PySem.W.keepIn K (.ref f__law_reading) = true)
    (a__law_takeover : PySem.W.nsIn K mainGlobals "_law_takeover" = some (some (.ref f__law_takeover)))
    (l__law_takeover : K.lookup f__law_takeover = some ⟨oc__law_takeover, od__law_takeover, .func (PySem.W.fnOf "_law_takeover" "_law_takeover" (C8.fnArgs s__law_takeover) (C8.fnBody s__law_takeover) (C8.fnScope s__law_takeover) .none kV__law_takeover dc__law_takeover pm__law_takeover an__law_takeover cd__law_takeover ct__law_takeover), sl__law_takeover⟩)
    (q__law_takeover : PySem.W.codeIn K cd__law_takeover "_law_takeover" = true)
    (k__law_takeover : PySem.W.keepIn K (.ref f__law_takeover) = true)
    (a__law_numbers : PySem.W.nsIn K mainGlobals "_law_numbers" = some (some (.ref f__law_numbers)))
    (l__law_numbers : K.lookup f__law_numbers = some ⟨oc__law_numbers, od__law_numbers, .func (PySem.W.fnOf "_law_numbers" "_law_numbers" (C8.fnArgs s__law_numbers) (C8.fnBody s__law_numbers) (C8.fnScope s__law_numbers) .none kV__law_numbers dc__law_numbers pm__law_numbers an__law_numbers cd__law_numbers ct__law_numbers), sl__law_numbers⟩)
    (q__law_numbers : PySem.W.codeIn K cd__law_numbers "_law_numbers" = true)
    (k__law_numbers : PySem.W.keepIn K (.ref f__law_numbers) = true)
    (a_law : PySem.W.nsIn K mainGlobals "law" = some (some (.ref f_law)))
    (l_law : K.lookup f_law = some ⟨oc_law, od_law, .func (PySem.W.fnOf "law" "law" (C8.fnArgs s_law) (C8.fnBody s_law) (C8.fnScope s_law) .none kV_law dc_law pm_law an_law cd_law ct_law), sl_law⟩)
    (q_law : PySem.W.codeIn K cd_law "law" = true)
    (k_law : PySem.W.keepIn K (.ref f_law) = true)
    : ∃ fd : FuncData, (∀ (s : Shared) (v : Value), BindsTo s fd ⟨[v], []⟩ [("_law_script", v)]) ∧ ∀ base : Heap, K.In base → base.Ns mainGlobals mg → FnOk l.prog w K mg base C8.CX0 5 fa fd ["_law_script"] (spLaw K) := by
  have e := hfa.symm.trans (PySem.W.mg_of X G a_law)
  cases e
  have T : Txt w K mg ⟨D_COUNTS, D_MORE_COUNTS⟩ :=
    { kd_COUNTS := ⟨_, PySem.W.mg_of X G kg_COUNTS, rfl⟩, kf_COUNTS := ⟨_, _, ⟨kl_COUNTS, kk_COUNTS, kz_COUNTS⟩⟩, kv_COUNTS := ktab_look kl_COUNTS kt_COUNTS,
      kd_MORE_COUNTS := ⟨_, PySem.W.mg_of X G kg_MORE_COUNTS, rfl⟩, kf_MORE_COUNTS := ⟨_, _, ⟨kl_MORE_COUNTS, kk_MORE_COUNTS, kz_MORE_COUNTS⟩⟩, kv_MORE_COUNTS := ktab_look kl_MORE_COUNTS kt_MORE_COUNTS,
      b_abs := PySem.W.mg_none_of X G z_abs,
      b_all := PySem.W.mg_none_of X G z_all,
      b_bool := PySem.W.mg_none_of X G z_bool,
      b_int := PySem.W.mg_none_of X G z_int,
      b_isinstance := PySem.W.mg_none_of X G z_isinstance,
      b_len := PySem.W.mg_none_of X G z_len,
      b_list := PySem.W.mg_none_of X G z_list,
      b_range := PySem.W.mg_none_of X G z_range,
      b_str := PySem.W.mg_none_of X G z_str,
      b_tuple := PySem.W.mg_none_of X G z_tuple,
      b_zip := PySem.W.mg_none_of X G z_zip,
      g_KEY_SIGNS := ⟨_, PySem.W.mg_of X G g_KEY_SIGNS, r_KEY_SIGNS⟩,
      g_LETTERS_OF_KEYS := ⟨_, PySem.W.mg_of X G g_LETTERS_OF_KEYS, r_LETTERS_OF_KEYS⟩,
      g_FIGURES := ⟨_, PySem.W.mg_of X G g_FIGURES, r_FIGURES⟩,
      g_FIGURE_SIGNS := ⟨_, PySem.W.mg_of X G g_FIGURE_SIGNS, r_FIGURE_SIGNS⟩,
      d_is_key := ⟨_, _, ⟨⟨⟨_, _, _, _, _, _, _, _, _, _, rfl, l_is_key, q_is_key⟩⟩, PySem.W.mg_of X G a_is_key, k_is_key⟩, C8.Fun.binds (st := s_is_key) (x := "is_key") (qual := "is_key") ⟨⟨_, _, _, _, _, _, _, _, _, _, rfl, l_is_key, q_is_key⟩⟩ rfl (ps := ["thing"]) (fun _ _ _ _ _ _ us hl => match us, hl with | [_], _ => rfl)⟩,
      d_is_figures := ⟨_, _, ⟨⟨⟨_, _, _, _, _, _, _, _, _, _, rfl, l_is_figures, q_is_figures⟩⟩, PySem.W.mg_of X G a_is_figures, k_is_figures⟩, C8.Fun.binds (st := s_is_figures) (x := "is_figures") (qual := "is_figures") ⟨⟨_, _, _, _, _, _, _, _, _, _, rfl, l_is_figures, q_is_figures⟩⟩ rfl (ps := ["text"]) (fun _ _ _ _ _ _ us hl => match us, hl with | [_], _ => rfl)⟩,
      d_number_of := ⟨_, _, ⟨⟨⟨_, _, _, _, _, _, _, _, _, _, rfl, l_number_of, q_number_of⟩⟩, PySem.W.mg_of X G a_number_of, k_number_of⟩, C8.Fun.binds (st := s_number_of) (x := "number_of") (qual := "number_of") ⟨⟨_, _, _, _, _, _, _, _, _, _, rfl, l_number_of, q_number_of⟩⟩ rfl (ps := ["text"]) (fun _ _ _ _ _ _ us hl => match us, hl with | [_], _ => rfl)⟩,
      d_key_of := ⟨_, _, ⟨⟨⟨_, _, _, _, _, _, _, _, _, _, rfl, l_key_of, q_key_of⟩⟩, PySem.W.mg_of X G a_key_of, k_key_of⟩, C8.Fun.binds (st := s_key_of) (x := "key_of") (qual := "key_of") ⟨⟨_, _, _, _, _, _, _, _, _, _, rfl, l_key_of, q_key_of⟩⟩ rfl (ps := ["text"]) (fun _ _ _ _ _ _ us hl => match us, hl with | [_], _ => rfl)⟩,
      d_read_write := ⟨_, _, ⟨⟨⟨_, _, _, _, _, _, _, _, _, _, rfl, l_read_write, q_read_write⟩⟩, PySem.W.mg_of X G a_read_write, k_read_write⟩, C8.Fun.binds (st := s_read_write) (x := "read_write") (qual := "read_write") ⟨⟨_, _, _, _, _, _, _, _, _, _, rfl, l_read_write, q_read_write⟩⟩ rfl (ps := ["parts"]) (fun _ _ _ _ _ _ us hl => match us, hl with | [_], _ => rfl)⟩,
      d_read_reading := ⟨_, _, ⟨⟨⟨_, _, _, _, _, _, _, _, _, _, rfl, l_read_reading, q_read_reading⟩⟩, PySem.W.mg_of X G a_read_reading, k_read_reading⟩, C8.Fun.binds (st := s_read_reading) (x := "read_reading") (qual := "read_reading") ⟨⟨_, _, _, _, _, _, _, _, _, _, rfl, l_read_reading, q_read_reading⟩⟩ rfl (ps := ["parts"]) (fun _ _ _ _ _ _ us hl => match us, hl with | [_], _ => rfl)⟩,
      d_read_apply := ⟨_, _, ⟨⟨⟨_, _, _, _, _, _, _, _, _, _, rfl, l_read_apply, q_read_apply⟩⟩, PySem.W.mg_of X G a_read_apply, k_read_apply⟩, C8.Fun.binds (st := s_read_apply) (x := "read_apply") (qual := "read_apply") ⟨⟨_, _, _, _, _, _, _, _, _, _, rfl, l_read_apply, q_read_apply⟩⟩ rfl (ps := ["parts"]) (fun _ _ _ _ _ _ us hl => match us, hl with | [_], _ => rfl)⟩,
      d_read_takeover := ⟨_, _, ⟨⟨⟨_, _, _, _, _, _, _, _, _, _, rfl, l_read_takeover, q_read_takeover⟩⟩, PySem.W.mg_of X G a_read_takeover, k_read_takeover⟩, C8.Fun.binds (st := s_read_takeover) (x := "read_takeover") (qual := "read_takeover") ⟨⟨_, _, _, _, _, _, _, _, _, _, rfl, l_read_takeover, q_read_takeover⟩⟩ rfl (ps := ["parts", "forced"]) (fun _ _ _ _ _ _ us hl => match us, hl with | [_, _], _ => rfl)⟩,
      d_read_line := ⟨_, _, ⟨⟨⟨_, _, _, _, _, _, _, _, _, _, rfl, l_read_line, q_read_line⟩⟩, PySem.W.mg_of X G a_read_line, k_read_line⟩, C8.Fun.binds (st := s_read_line) (x := "read_line") (qual := "read_line") ⟨⟨_, _, _, _, _, _, _, _, _, _, rfl, l_read_line, q_read_line⟩⟩ rfl (ps := ["text"]) (fun _ _ _ _ _ _ us hl => match us, hl with | [_], _ => rfl)⟩,
      d_show_line := ⟨_, _, ⟨⟨⟨_, _, _, _, _, _, _, _, _, _, rfl, l_show_line, q_show_line⟩⟩, PySem.W.mg_of X G a_show_line, k_show_line⟩, C8.Fun.binds (st := s_show_line) (x := "show_line") (qual := "show_line") ⟨⟨_, _, _, _, _, _, _, _, _, _, rfl, l_show_line, q_show_line⟩⟩ rfl (ps := ["deed"]) (fun _ _ _ _ _ _ us hl => match us, hl with | [_], _ => rfl)⟩,
      d__law_state := ⟨_, _, ⟨⟨⟨_, _, _, _, _, _, _, _, _, _, rfl, l__law_state, q__law_state⟩⟩, PySem.W.mg_of X G a__law_state, k__law_state⟩, C8.Fun.binds (st := s__law_state) (x := "_law_state") (qual := "_law_state") ⟨⟨_, _, _, _, _, _, _, _, _, _, rfl, l__law_state, q__law_state⟩⟩ rfl (ps := ["_law_script", "_law_seed"]) (fun _ _ _ _ _ _ us hl => match us, hl with | [_, _], _ => rfl)⟩,
      d__law_next := ⟨_, _, ⟨⟨⟨_, _, _, _, _, _, _, _, _, _, rfl, l__law_next, q__law_next⟩⟩, PySem.W.mg_of X G a__law_next, k__law_next⟩, C8.Fun.binds (st := s__law_next) (x := "_law_next") (qual := "_law_next") ⟨⟨_, _, _, _, _, _, _, _, _, _, rfl, l__law_next, q__law_next⟩⟩ rfl (ps := ["_law_state_here", "_law_below"]) (fun _ _ _ _ _ _ us hl => match us, hl with | [_, _], _ => rfl)⟩,
      d__law_key := ⟨_, _, ⟨⟨⟨_, _, _, _, _, _, _, _, _, _, rfl, l__law_key, q__law_key⟩⟩, PySem.W.mg_of X G a__law_key, k__law_key⟩, C8.Fun.binds (st := s__law_key) (x := "_law_key") (qual := "_law_key") ⟨⟨_, _, _, _, _, _, _, _, _, _, rfl, l__law_key, q__law_key⟩⟩ rfl (ps := ["_law_state_here"]) (fun _ _ _ _ _ _ us hl => match us, hl with | [_], _ => rfl)⟩,
      d__law_same := ⟨_, _, ⟨⟨⟨_, _, _, _, _, _, _, _, _, _, rfl, l__law_same, q__law_same⟩⟩, PySem.W.mg_of X G a__law_same, k__law_same⟩, C8.Fun.binds (st := s__law_same) (x := "_law_same") (qual := "_law_same") ⟨⟨_, _, _, _, _, _, _, _, _, _, rfl, l__law_same, q__law_same⟩⟩ rfl (ps := ["_law_found", "_law_due"]) (fun _ _ _ _ _ _ us hl => match us, hl with | [_, _], _ => rfl)⟩,
      d__law_number := ⟨_, _, ⟨⟨⟨_, _, _, _, _, _, _, _, _, _, rfl, l__law_number, q__law_number⟩⟩, PySem.W.mg_of X G a__law_number, k__law_number⟩, C8.Fun.binds (st := s__law_number) (x := "_law_number") (qual := "_law_number") ⟨⟨_, _, _, _, _, _, _, _, _, _, rfl, l__law_number, q__law_number⟩⟩ rfl (ps := ["_law_state_here"]) (fun _ _ _ _ _ _ us hl => match us, hl with | [_], _ => rfl)⟩,
      d__law_figures := ⟨_, _, ⟨⟨⟨_, _, _, _, _, _, _, _, _, _, rfl, l__law_figures, q__law_figures⟩⟩, PySem.W.mg_of X G a__law_figures, k__law_figures⟩, C8.Fun.binds (st := s__law_figures) (x := "_law_figures") (qual := "_law_figures") ⟨⟨_, _, _, _, _, _, _, _, _, _, rfl, l__law_figures, q__law_figures⟩⟩ rfl (ps := ["_law_number_here"]) (fun _ _ _ _ _ _ us hl => match us, hl with | [_], _ => rfl)⟩,
      d__law_write := ⟨_, _, ⟨⟨⟨_, _, _, _, _, _, _, _, _, _, rfl, l__law_write, q__law_write⟩⟩, PySem.W.mg_of X G a__law_write, k__law_write⟩, C8.Fun.binds (st := s__law_write) (x := "_law_write") (qual := "_law_write") ⟨⟨_, _, _, _, _, _, _, _, _, _, rfl, l__law_write, q__law_write⟩⟩ rfl (ps := ["_law_state_here"]) (fun _ _ _ _ _ _ us hl => match us, hl with | [_], _ => rfl)⟩,
      d__law_reading := ⟨_, _, ⟨⟨⟨_, _, _, _, _, _, _, _, _, _, rfl, l__law_reading, q__law_reading⟩⟩, PySem.W.mg_of X G a__law_reading, k__law_reading⟩, C8.Fun.binds (st := s__law_reading) (x := "_law_reading") (qual := "_law_reading") ⟨⟨_, _, _, _, _, _, _, _, _, _, rfl, l__law_reading, q__law_reading⟩⟩ rfl (ps := ["_law_state_here"]) (fun _ _ _ _ _ _ us hl => match us, hl with | [_], _ => rfl)⟩,
      d__law_takeover := ⟨_, _, ⟨⟨⟨_, _, _, _, _, _, _, _, _, _, rfl, l__law_takeover, q__law_takeover⟩⟩, PySem.W.mg_of X G a__law_takeover, k__law_takeover⟩, C8.Fun.binds (st := s__law_takeover) (x := "_law_takeover") (qual := "_law_takeover") ⟨⟨_, _, _, _, _, _, _, _, _, _, rfl, l__law_takeover, q__law_takeover⟩⟩ rfl (ps := ["_law_state_here"]) (fun _ _ _ _ _ _ us hl => match us, hl with | [_], _ => rfl)⟩,
      d__law_numbers := ⟨_, _, ⟨⟨⟨_, _, _, _, _, _, _, _, _, _, rfl, l__law_numbers, q__law_numbers⟩⟩, PySem.W.mg_of X G a__law_numbers, k__law_numbers⟩, C8.Fun.binds (st := s__law_numbers) (x := "_law_numbers") (qual := "_law_numbers") ⟨⟨_, _, _, _, _, _, _, _, _, _, rfl, l__law_numbers, q__law_numbers⟩⟩ rfl (ps := ["_law_state_here"]) (fun _ _ _ _ _ _ us hl => match us, hl with | [_], _ => rfl)⟩ }
  have F : C8.Fun K "law" "law" s_law fa _ := ⟨⟨_, _, _, _, _, _, _, _, _, _, rfl, l_law, q_law⟩⟩
  exact ⟨_, fun s v => .of_eq rfl, fun base _ _ => c_law T F⟩
/-- the head's walk, from the law's own fact -/
theorem walk {l : PySem.W.OpenLaw} {q : Program} {loose : List Str} {XP : (Str → Option Value) → Heap → Prop} {YP : World → Heap → Prop} {d : DefRec} {KK : Params → PySem.W.Frag}
    (hn : l.most = some 63) (hdf : d.params.defaults = []) (hY : ∀ (w : World) (h : Heap), YP w h → (KK w.params).In h)
    (hF : ∀ (w : World) (mg : Str → Option Value) (fa : Addr) (h : Heap), (KK w.params).In h → h.Ns mainGlobals mg → mg d.name = some (.ref fa) → ∃ fd : FuncData, (∀ (s : Shared) (u : Value), BindsTo s fd ⟨[u], []⟩ [("_law_script", u)]) ∧
      ∀ base : Heap, (KK w.params).In base → base.Ns mainGlobals mg → FnOk l.prog w (KK w.params) mg base C8.CX0 5 fa fd ["_law_script"] (spLaw (KK w.params))) : PySem.W.WalkO q loose XP YP l.row.toRowW d [] (fun f vs => PySem.call f vs) :=
  L2.walk_of (n := 63) (k := 5) (x := "_law_script") (CX := fun _ => C8.CX0) (sp := fun w => spLaw (KK w.params)) hn (by decide) hdf ⟨rfl, by decide, by decide⟩ hY hF (fun _ _ a ns hl _ hS => ⟨a, ns, rfl, hS, hl, fun _ => rfl⟩) fun _ _ _ _ _ z => z
end Toy
open PySem PySem.W PyProof.Rows
set_option maxRecDepth 100000 in
set_option maxHeartbeats 0 in
theorem PySem.Challenge.cw_laterline_k50_lines_read_and_shown_holds : PySem.Challenge.rw_laterline_k50_lines_read_and_shown.Holds := by
  w_on; o_law; k_head; (case hw => w_witness2)
  k_fill
  refine Toy.walk (l := PySem.Challenge.rw_laterline_k50_lines_read_and_shown) rfl rfl (fun w h Y => PySem.W.kIn_of Y) ?F
  case F =>
    intro w mg fa h KX G hmg
    refine' Toy.all_mk KX G hmg ?kg_COUNTS ?kl_COUNTS ?kk_COUNTS ?kz_COUNTS ?kt_COUNTS ?kg_MORE_COUNTS ?kl_MORE_COUNTS ?kk_MORE_COUNTS ?kz_MORE_COUNTS ?kt_MORE_COUNTS ?z_abs ?z_all ?z_bool ?z_int ?z_isinstance ?z_len ?z_list ?z_range ?z_str ?z_tuple ?z_zip ?g_KEY_SIGNS ?r_KEY_SIGNS ?g_LETTERS_OF_KEYS ?r_LETTERS_OF_KEYS ?g_FIGURES ?r_FIGURES ?g_FIGURE_SIGNS ?r_FIGURE_SIGNS ?a_is_key ?l_is_key ?q_is_key ?k_is_key ?a_is_figures ?l_is_figures ?q_is_figures ?k_is_figures ?a_number_of ?l_number_of ?q_number_of ?k_number_of ?a_key_of ?l_key_of ?q_key_of ?k_key_of ?a_read_write ?l_read_write ?q_read_write ?k_read_write ?a_read_reading ?l_read_reading ?q_read_reading ?k_read_reading ?a_read_apply ?l_read_apply ?q_read_apply ?k_read_apply ?a_read_takeover ?l_read_takeover ?q_read_takeover ?k_read_takeover ?a_read_line ?l_read_line ?q_read_line ?k_read_line ?a_show_line ?l_show_line ?q_show_line ?k_show_line ?a__law_state ?l__law_state ?q__law_state ?k__law_state ?a__law_next ?l__law_next ?q__law_next ?k__law_next ?a__law_key ?l__law_key ?q__law_key ?k__law_key ?a__law_same ?l__law_same ?q__law_same ?k__law_same ?a__law_number ?l__law_number ?q__law_number ?k__law_number ?a__law_figures ?l__law_figures ?q__law_figures ?k__law_figures ?a__law_write ?l__law_write ?q__law_write ?k__law_write ?a__law_reading ?l__law_reading ?q__law_reading ?k__law_reading ?a__law_takeover ?l__law_takeover ?q__law_takeover ?k__law_takeover ?a__law_numbers ?l__law_numbers ?q__law_numbers ?k__law_numbers ?a_law ?l_law ?q_law ?k_law
    (case kg_COUNTS => k_is)
    (case kl_COUNTS => k_is)
    (case kk_COUNTS => exact ⟨⟨_, _, rfl, rfl⟩, ⟨⟨_, _, rfl, rfl⟩, ⟨⟨_, _, rfl, rfl⟩, ⟨⟨_, _, rfl, rfl⟩, ⟨⟨_, _, rfl, rfl⟩, ⟨⟨_, _, rfl, rfl⟩, ⟨⟨_, _, rfl, rfl⟩, ⟨⟨_, _, rfl, rfl⟩, ⟨⟨_, _, rfl, rfl⟩, trivial⟩⟩⟩⟩⟩⟩⟩⟩⟩)
    (case kz_COUNTS => rfl)
    (case kt_COUNTS => exact ⟨⟨_, rfl⟩, ⟨_, rfl⟩, ⟨⟨_, rfl⟩, ⟨_, rfl⟩, ⟨⟨_, rfl⟩, ⟨_, rfl⟩, ⟨⟨_, rfl⟩, ⟨_, rfl⟩, ⟨⟨_, rfl⟩, ⟨_, rfl⟩, ⟨⟨_, rfl⟩, ⟨_, rfl⟩, ⟨⟨_, rfl⟩, ⟨_, rfl⟩, ⟨⟨_, rfl⟩, ⟨_, rfl⟩, ⟨⟨_, rfl⟩, ⟨_, rfl⟩, trivial⟩⟩⟩⟩⟩⟩⟩⟩⟩)
    (case kg_MORE_COUNTS => k_is)
    (case kl_MORE_COUNTS => k_is)
    (case kk_MORE_COUNTS => exact ⟨⟨_, _, rfl, rfl⟩, ⟨⟨_, _, rfl, rfl⟩, ⟨⟨_, _, rfl, rfl⟩, ⟨⟨_, _, rfl, rfl⟩, trivial⟩⟩⟩⟩)
    (case kz_MORE_COUNTS => rfl)
    (case kt_MORE_COUNTS => exact ⟨⟨_, rfl⟩, ⟨_, rfl⟩, ⟨⟨_, rfl⟩, ⟨_, rfl⟩, ⟨⟨_, rfl⟩, ⟨_, rfl⟩, ⟨⟨_, rfl⟩, ⟨_, rfl⟩, trivial⟩⟩⟩⟩)
    (case z_abs => k_is)
    (case z_all => k_is)
    (case z_bool => k_is)
    (case z_int => k_is)
    (case z_isinstance => k_is)
    (case z_len => k_is)
    (case z_list => k_is)
    (case z_range => k_is)
    (case z_str => k_is)
    (case z_tuple => k_is)
    (case z_zip => k_is)
    (case g_KEY_SIGNS => k_is)
    (case r_KEY_SIGNS => exact ⟨_, rfl⟩)
    (case g_LETTERS_OF_KEYS => k_is)
    (case r_LETTERS_OF_KEYS => exact ⟨_, rfl⟩)
    (case g_FIGURES => k_is)
    (case r_FIGURES => exact ⟨_, rfl⟩)
    (case g_FIGURE_SIGNS => k_is)
    (case r_FIGURE_SIGNS => exact ⟨_, rfl⟩)
    (case a_is_key => k_is)
    (case l_is_key => k_is)
    (case q_is_key => k_is)
    (case k_is_key => k_is)
    (case a_is_figures => k_is)
    (case l_is_figures => k_is)
    (case q_is_figures => k_is)
    (case k_is_figures => k_is)
    (case a_number_of => k_is)
    (case l_number_of => k_is)
    (case q_number_of => k_is)
    (case k_number_of => k_is)
    (case a_key_of => k_is)
    (case l_key_of => k_is)
    (case q_key_of => k_is)
    (case k_key_of => k_is)
    (case a_read_write => k_is)
    (case l_read_write => k_is)
    (case q_read_write => k_is)
    (case k_read_write => k_is)
    (case a_read_reading => k_is)
    (case l_read_reading => k_is)
    (case q_read_reading => k_is)
    (case k_read_reading => k_is)
    (case a_read_apply => k_is)
    (case l_read_apply => k_is)
    (case q_read_apply => k_is)
    (case k_read_apply => k_is)
    (case a_read_takeover => k_is)
    (case l_read_takeover => k_is)
    (case q_read_takeover => k_is)
    (case k_read_takeover => k_is)
    (case a_read_line => k_is)
    (case l_read_line => k_is)
    (case q_read_line => k_is)
    (case k_read_line => k_is)
    (case a_show_line => k_is)
    (case l_show_line => k_is)
    (case q_show_line => k_is)
    (case k_show_line => k_is)
    (case a__law_state => k_is)
    (case l__law_state => k_is)
    (case q__law_state => k_is)
    (case k__law_state => k_is)
    (case a__law_next => k_is)
    (case l__law_next => k_is)
    (case q__law_next => k_is)
    (case k__law_next => k_is)
    (case a__law_key => k_is)
    (case l__law_key => k_is)
    (case q__law_key => k_is)
    (case k__law_key => k_is)
    (case a__law_same => k_is)
    (case l__law_same => k_is)
    (case q__law_same => k_is)
    (case k__law_same => k_is)
    (case a__law_number => k_is)
    (case l__law_number => k_is)
    (case q__law_number => k_is)
    (case k__law_number => k_is)
    (case a__law_figures => k_is)
    (case l__law_figures => k_is)
    (case q__law_figures => k_is)
    (case k__law_figures => k_is)
    (case a__law_write => k_is)
    (case l__law_write => k_is)
    (case q__law_write => k_is)
    (case k__law_write => k_is)
    (case a__law_reading => k_is)
    (case l__law_reading => k_is)
    (case q__law_reading => k_is)
    (case k__law_reading => k_is)
    (case a__law_takeover => k_is)
    (case l__law_takeover => k_is)
    (case q__law_takeover => k_is)
    (case k__law_takeover => k_is)
    (case a__law_numbers => k_is)
    (case l__law_numbers => k_is)
    (case q__law_numbers => k_is)
    (case k__law_numbers => k_is)
    (case a_law => k_is)
    (case l_law => k_is)
    (case q_law => k_is)
    (case k_law => k_is)
