import PyProof.Rows.All
import Wide.All
import OpenK.AllK
import Wide.FinOn
import HandS.ForMost
import HandS.ForExc
import HandS.Codes
import HandS.Wide
import HandS.SortInts
import HandS.SortRule
import HandS.DictComp
import HandS.DictTup
import HandS.TupLen
import HandS.TupAny
import HandS.TupMul
import HandS.IsInst
import HandS.Flow
import HandS.Small
import HandS.Sort
import HandS.TupLe
import HandS.Conv
import HandS.More
import HandS.Defaults
import HandS.MakeKw
import HandS.Zip
import KE.SortData
import KE.KDictPairs
import PySem.Challenge.RW_laterline_k33_whole_slots_keep_rows
set_option Elab.async false
set_option linter.all false
set_option maxRecDepth 100000
set_option maxHeartbeats 4000000
/-! Lt: small steps for reading a body's term: one lemma a construct, each leaves the next reading. -/
namespace Lt
open PySem PySem.Spec PyProof.Rows L2
abbrev St := L2.St

/-! ### several rules for one operator -/
def rAdd3 (K : PySem.W.Frag) : R2 := fun x y H Q => rI0 (fun i j => .int (i + j)) x y H Q ∨ (∃ i j, x = .str i ∧ y = .str j ∧ i.length + j.length ≤ sizeLine ∧ Q (.str (i ++ j)) H) ∨ rCat x y H Q ∨ rCatA K x y H Q
def rMul3 (K : PySem.W.Frag) : R2 := fun x y H Q => rI CMul (fun i j => .int (i * j)) x y H Q ∨ rI CMulW (fun i j => .int (i * j)) x y H Q ∨ rRep x y H Q ∨ rRepT K x y H Q
def rEq3 (K : PySem.W.Frag) : R2 := fun x y H Q => rEq x y H Q ∨ rEqD K x y H Q ∨ rEqDA x y H Q
def rNe3 (K : PySem.W.Frag) : R2 := fun x y H Q => rNe x y H Q ∨ rNeD K x y H Q ∨ rNeDA x y H Q
def rLtS : R2 := fun x y H Q => ∃ i j, x = .str i ∧ y = .str j ∧ Q (.bl (decide (i.cps.toList < j.cps.toList))) H
def rLt3 (K : PySem.W.Frag) : R2 := fun x y H Q => rI0 (fun i j => .bl (decide (i < j))) x y H Q ∨ rLtS x y H Q ∨ rLtT K x y H Q
def rIs3 : R2 := fun x y H Q => (y = .non ∧ Q (.bl (decide (x = .non))) H) ∨ (∃ a b, x = .bl a ∧ y = .bl b ∧ Q (.bl (decide (a = b))) H)
def rIsNot3 : R2 := fun x y H Q => (y = .non ∧ Q (.bl (!decide (x = .non))) H) ∨ (∃ a b, x = .bl a ∧ y = .bl b ∧ Q (.bl (!decide (a = b))) H)
def rInSg : R2 := fun x y H Q => ∃ (c : Nat) (z : Str), x = .str ⟨#[c]⟩ ∧ y = .str z ∧ Q (.bl (decide (c ∈ z.cps.toList))) H
def rIn3 (K : PySem.W.Frag) : R2 := fun x y H Q => rIn K false x y H Q ∨ rInSg x y H Q
def rNotInSg : R2 := fun x y H Q => ∃ (c : Nat) (z : Str), x = .str ⟨#[c]⟩ ∧ y = .str z ∧ Q (.bl (!decide (c ∈ z.cps.toList))) H
def rNotIn3 (K : PySem.W.Frag) : R2 := fun x y H Q => rIn K true x y H Q ∨ rNotInSg x y H Q
def rLen3 (K : PySem.W.Frag) : List V → Hp → VK → Prop := fun xs H Q => (∃ x n, xs = [x] ∧ LenV K x H n ∧ Q (.int n) H) ∨ (∃ a kvs, xs = [V.ref a] ∧ H a = some (.dK kvs) ∧ Q (.int kvs.length) H) ∨ rLenT xs H Q
section
variable {X : Cx}
theorem op_add3 : OpR X (binaryOp .Add) (rAdd3 X.K) := op_add.or (op_add_str.or (op_cat.or op_catA))
theorem op_mul3 : OpR X (binaryOp .Mult) (rMul3 X.K) := op_mul.or (op_mulW.or (op_rep.or op_repT))
theorem op_eq3 (hu : X.A.units + 64 < cLine) : OpR X (compareOp .Eq) (rEq3 X.K) := op_eq.or ((op_eqD hu).or (op_eq_dictA (by omega)))
theorem op_ne3 (hu : X.A.units + 64 < cLine) : OpR X (compareOp .NotEq) (rNe3 X.K) := op_ne.or ((op_neD hu).or (op_ne_dictA (by omega)))
theorem op_lt3 (hu : X.A.units + 64 < cLine) : OpR X (compareOp .Lt) (rLt3 X.K) := op_lt.or (op_lt_str.or (op_ltT (by omega)))
theorem op_is3 : OpR X (compareOp .Is) rIs3 := op_isN.or op_is_bl
theorem op_isnot3 : OpR X (compareOp .IsNot) rIsNot3 := op_notN.or op_isnot_bl
theorem op_in3 : OpR X (compareOp .In) (rIn3 X.K) := op_in_seq.or op_in_sign
theorem op_notin3 : OpR X (compareOp .NotIn) (rNotIn3 X.K) := op_notIn_seq.or op_notIn_sign
theorem call_len3 : CallR X (.builtin "len") (rLen3 X.K) := call_len.or (call_lenD.or call_len_dT)
end

/-! ### steps -/
section
variable {t u : TS} {n b c : St → Hp → Prop} {R : VK} {σ : St} {H : Hp} {Q : VK} {te ta tb : TE} {tc td : TT} {B : Bool → Hp → Prop} {K : PySem.W.Frag} {g : TG} {gs : TGs} {G : St → Hp → Prop}
theorem s_next (h : n σ H) : tNext ⟨n, R, b, c⟩ σ H := h
theorem s_seq (h : t ⟨u ⟨n, R, b, c⟩, R, b, c⟩ σ H) : tSeq t u ⟨n, R, b, c⟩ σ H := h
theorem s_brk (h : b σ H) : tBreak ⟨n, R, b, c⟩ σ H := h
theorem s_cont (h : c σ H) : tCont ⟨n, R, b, c⟩ σ H := h
theorem s_drop (h : te σ H fun _ H1 => n σ H1) : tDrop te ⟨n, R, b, c⟩ σ H := h
theorem s_ret (h : te σ H R) : tRet te ⟨n, R, b, c⟩ σ H := h
theorem s_retN (h : R .non H) : tRetN ⟨n, R, b, c⟩ σ H := h
theorem s_ifs (h : tc σ H fun k H1 => if k = true then t ⟨n, R, b, c⟩ σ H1 else u ⟨n, R, b, c⟩ σ H1) : tIfS tc t u ⟨n, R, b, c⟩ σ H := h
theorem s_asg (h : te σ H fun x H1 => g x σ H1 n) : tAsg te g ⟨n, R, b, c⟩ σ H := h
theorem s_gname {i : Nat} {v : V} (h : G (σ.set i (some v)) H) : gName i v σ H G := h
theorem s_gnil (h : G σ H) : gNil [] σ H G := ⟨rfl, h⟩
theorem s_gcons {v : V} {r : List V} (h : g v σ H fun σ' H' => gs r σ' H' G) : gCons g gs (v :: r) σ H G := ⟨v, r, rfl, h⟩
theorem s_gtup {k : Nat} {a : Addr} {xs : List V} (hs : SqT K H a xs) (hl : xs.length = k) (h : gs xs σ H G) : gTup K k gs (.ref a) σ H G := ⟨a, xs, rfl, hs, hl, h⟩
theorem s_glst {k : Nat} {a : Addr} {xs : List V} (hs : SqL K H a xs) (hl : xs.length = k) (h : gs xs σ H G) : gLst K k gs (.ref a) σ H G := ⟨a, xs, rfl, hs, hl, h⟩
theorem s_gsub {to ti : TE} {ts : TSet} {v : V} (h : to σ H fun o H1 => ti σ H1 fun i H2 => ts o i v H2 fun H3 => G σ H3) : gSub to ti ts v σ H G := h
theorem s_var {i : Nat} {v : V} (e : σ[i]? = some (some v)) (h : Q v H) : tVar i σ H Q := ⟨v, e, h⟩
theorem s_c {v : V} (h : Q v H) : tC v σ H Q := h
theorem s_op {r : R2} (h : ta σ H fun x H1 => tb σ H1 fun y H2 => r x y H2 Q) : tOp r ta tb σ H Q := h
theorem s_un {r : V → Hp → VK → Prop} (h : ta σ H fun x H1 => r x H1 Q) : tUn r ta σ H Q := h
theorem s_cb {r : List V → Hp → VK → Prop} {ts : TA} (h : ts σ H fun vs H1 => r vs H1 Q) : tCB r ts σ H Q := h
theorem s_nil {Q : List V → Hp → Prop} (h : Q [] H) : tNil σ H Q := h
theorem s_cons {Q : List V → Hp → Prop} {tr : TA} (h : ta σ H fun x H1 => tr σ H1 fun xs H2 => Q (x :: xs) H2) : tCons ta tr σ H Q := h
theorem s_call {sp : Sp} {dvs : List V} {E : XK} {ts : TA} (h : ts σ H fun vs H1 => sp (vs ++ dvs) H1 Q E) : tCall sp dvs E ts σ H Q := h
theorem s_meth {C : Addr} {m : Str} {sp : Sp} {dvs : List V} {E : XK} {ts : TA} (h : ta σ H fun x H1 => ∃ a dx fs, x = .ref a ∧ H1 a = some (.ins C dx fs) ∧ fs.lookup m = none ∧ ts σ H1 fun vs H2 => sp (x :: (vs ++ dvs)) H2 Q E) : tMeth C m sp dvs E ta ts σ H Q := h
theorem s_meth2 {C a dx : Addr} {fs : List (Str × V)} {m : Str} {F : Prop} (h1 : H a = some (.ins C dx fs)) (h2 : fs.lookup m = none) (h : F) : ∃ a' dx fs, V.ref a = .ref a' ∧ H a' = some (.ins C dx fs) ∧ fs.lookup m = none ∧ F := ⟨a, dx, fs, rfl, h1, h2, h⟩
theorem s_test (h : te σ H fun x H' => ∃ k, x = .bl k ∧ B k H') : tTest te σ H B := h
theorem s_tb (h : te σ H fun x H' => ∃ k, x = .bl k ∧ B k H') : tB te σ H B := h
theorem s_exbl {k : Bool} {F : Bool → Prop} (h : F k) : ∃ k', V.bl k = .bl k' ∧ F k' := ⟨k, rfl, h⟩
theorem s_and (h : tc σ H fun k H1 => if k = true then td σ H1 B else B false H1) : tAnd tc td σ H B := h
theorem s_or (h : tc σ H fun k H1 => if k = true then B true H1 else td σ H1 B) : tOr tc td σ H B := h
theorem s_not (h : tc σ H fun k H1 => B (!k) H1) : tNot tc σ H B := h
theorem s_andV (h : ta σ H fun x H1 => ∃ k, x = .bl k ∧ if k = true then tb σ H1 Q else Q (.bl false) H1) : tAndV ta tb σ H Q := h
theorem s_orV (h : ta σ H fun x H1 => ∃ k, x = .bl k ∧ if k = true then Q (.bl true) H1 else tb σ H1 Q) : tOrV ta tb σ H Q := h
theorem s_notV (h : ta σ H fun x H1 => ∃ k, x = .bl k ∧ Q (.bl (!k)) H1) : tNotV ta σ H Q := h
theorem s_ifx (h : tc σ H fun k H1 => if k = true then ta σ H1 Q else tb σ H1 Q) : tIf tc ta tb σ H Q := h
theorem s_yes (h : B true H) : tYes σ H B := h
theorem s_tup {ts : TA} (h : ts σ H fun xs H1 => xs.length ≤ sizeLine ∧ ∀ p, H1 p = none → Q (.ref p) (upd H1 p (.tup xs))) : tTup ts σ H Q := h
theorem s_lst {ts : TA} (h : ts σ H fun xs H1 => xs.length ≤ sizeLine ∧ ∀ p, H1 p = none → Q (.ref p) (upd H1 p (.lst xs))) : tLst ts σ H Q := h
theorem s_fld {f : Str} (h : ta σ H fun x H1 => ∃ a C dx fs v, x = .ref a ∧ H1 a = some (.ins C dx fs) ∧ Cls K C ∧ NoAttr K C f ∧ fs.lookup f = some v ∧ Q v H1) : tFld K ta f σ H Q := h
theorem s_fld2 {a C dx : Addr} {fs : List (Str × V)} {v : V} {f : Str} {F : V → Prop} (h1 : H a = some (.ins C dx fs)) (h2 : Cls K C) (h3 : NoAttr K C f) (h4 : fs.lookup f = some v) (h : F v) :
    ∃ a' C dx fs v, V.ref a = .ref a' ∧ H a' = some (.ins C dx fs) ∧ Cls K C ∧ NoAttr K C f ∧ fs.lookup f = some v ∧ F v := ⟨a, C, dx, fs, v, rfl, h1, h2, h3, h4, h⟩
theorem s_sl {r : V → Option Int → Option Int → Hp → VK → Prop} {tl th : TO} (h : te σ H fun x H1 => tl σ H1 fun l H2 => th σ H2 fun u H3 => r x l u H3 Q) : tSl r te tl th σ H Q := h
theorem s_nopart {Q : Option Int → Hp → Prop} (h : Q none H) : tNoPart σ H Q := h
theorem s_part {Q : Option Int → Hp → Prop} (h : te σ H fun x H1 => ∃ i, x = .int i ∧ Q (some i) H1) : tPart te σ H Q := h
theorem s_exint {i : Int} {F : Int → Prop} (h : F i) : ∃ k, V.int i = .int k ∧ F k := ⟨i, rfl, h⟩
theorem s_for {wi : TI} (h : wi σ H fun J H1 => ∃ W : Nat → Nat → St → Hp → Prop, (∃ m, W 0 m σ H1) ∧ ∀ i m σ H, W i m σ H →
  (J.stop i H ∧ n σ H) ∨ (J.go i H ∧ ∃ N : St → Hp → Prop, (∀ σ' H', N σ' H' → ∃ m', m' < m ∧ W (i + 1) m' σ' H') ∧ ∀ x H', J.yld i H x H' → g x σ H' fun σ2 H2 => t ⟨N, R, n, N⟩ σ2 H2)) : tFor wi g t ⟨n, R, b, c⟩ σ H := h
theorem s_ilist {tl : TE} {R : It → Hp → Prop} (h : tl σ H fun x H1 => ∃ a, x = .ref a ∧ (∃ xs, SqL K H1 a xs) ∧ R (Itl K a) H1) : iList K tl σ H R := h
theorem s_ilist2 {a : Addr} {xs : List V} {F : Addr → Prop} (h1 : SqL K H a xs) (h : F a) : ∃ a', V.ref a = .ref a' ∧ (∃ xs, SqL K H a' xs) ∧ F a' := ⟨a, rfl, ⟨xs, h1⟩, h⟩
theorem s_itup {tl : TE} {R : It → Hp → Prop} (h : tl σ H fun x H1 => ∃ a, x = .ref a ∧ (∃ xs, SqT K H1 a xs) ∧ R (Itt K a) H1) : iTup K tl σ H R := h
theorem s_itup2 {a : Addr} {xs : List V} {F : Addr → Prop} (h1 : SqT K H a xs) (h : F a) : ∃ a', V.ref a = .ref a' ∧ (∃ xs, SqT K H a' xs) ∧ F a' := ⟨a, rfl, ⟨xs, h1⟩, h⟩
theorem s_irng1 {ts : TA} {R : It → Hp → Prop} (h : ts σ H fun vs H1 => ∃ j : Int, vs = [.int j] ∧ -(2 ^ 62) ≤ j ∧ j < 2 ^ 62 ∧ R (Itr 0 j.toNat) H1) : iRng1 ts σ H R := h
theorem s_irng2 {ts : TA} {R : It → Hp → Prop} (h : ts σ H fun vs H1 => ∃ i j : Int, vs = [.int i, .int j] ∧ (-(2 ^ 62) ≤ i ∧ i < 2 ^ 62 ∧ -(2 ^ 62) ≤ j ∧ j < 2 ^ 62) ∧ R (Itr i (j - i).toNat) H1) : iRng2 ts σ H R := h
theorem s_sfld {tv : TE} {f : Str} (h : tv σ H fun y H1 => ta σ H1 fun x H2 => ∃ a C dx fs, x = .ref a ∧ H2 a = some (.ins C dx fs) ∧ Cls K C ∧ NoAttr K C f ∧ fs.length < 1000 ∧ n σ (upd H2 a (.ins C dx (putF f y fs)))) : sFld K ta tv f ⟨n, R, b, c⟩ σ H := h
theorem s_sfld2 {a C dx : Addr} {fs : List (Str × V)} {f : Str} {F : Addr → Addr → Addr → List (Str × V) → Prop} (h1 : H a = some (.ins C dx fs)) (h2 : Cls K C) (h3 : NoAttr K C f) (h4 : fs.length < 1000) (h : F a C dx fs) :
    ∃ a' C dx fs, V.ref a = .ref a' ∧ H a' = some (.ins C dx fs) ∧ Cls K C ∧ NoAttr K C f ∧ fs.length < 1000 ∧ F a' C dx fs := ⟨a, C, dx, fs, rfl, h1, h2, h3, h4, h⟩
theorem s_bm {T : String} {r : V → List V → Hp → VK → Prop} {ts : TA} (h : te σ H fun x H1 => tyV K T x H1 ∧ ts σ H1 fun xs H2 => r x xs H2 Q) : tBM K T r te ts σ H Q := h
theorem s_bm0 {T : String} {r : V → List V → Hp → VK → Prop} (h : te σ H fun x H1 => tyV K T x H1 ∧ r x [] H1 Q) : tBM0 K T r te σ H Q := h
theorem s_dget {ty : TE} (h : te σ H fun x H1 => ty σ H1 fun y H2 => ∃ a v, x = .ref a ∧ DGet H2 a y (some v) ∧ Q v H2) : tDGet te ty σ H Q := h
theorem s_din {ty : TE} (h : ty σ H fun y H1 => te σ H1 fun x H2 => ∃ a o, x = .ref a ∧ DGet H2 a y o ∧ Q (.bl o.isSome) H2) : tDIn ty te σ H Q := h
theorem s_dnotin {ty : TE} (h : ty σ H fun y H1 => te σ H1 fun x H2 => ∃ a o, x = .ref a ∧ DGet H2 a y o ∧ Q (.bl (!o.isSome)) H2) : tDNotIn ty te σ H Q := h
theorem s_dput {ty tv : TE} (h : tv σ H fun v H1 => te σ H1 fun x H2 => ty σ H2 fun y H3 => ∃ a H4, x = .ref a ∧ DPut H3 a y v H4 ∧ n σ H4) : sDPut te ty tv ⟨n, R, b, c⟩ σ H := h
theorem s_dget2 {ty tx : TE} (h : te σ H fun x H1 => ∃ a, x = .ref a ∧ IsD H1 a ∧ ty σ H1 fun y H2 => tx σ H2 fun z H3 => ∃ o, DGet H3 a y o ∧ Q (o.getD z) H3) : tDGet2 te ty tx σ H Q := h
theorem s_dget1 {ty : TE} (h : te σ H fun x H1 => ∃ a, x = .ref a ∧ IsD H1 a ∧ ty σ H1 fun y H2 => ∃ o, DGet H2 a y o ∧ Q (o.getD .non) H2) : tDGet1 te ty σ H Q := h
theorem s_dnew (h : ∀ p, H p = none → Q (.ref p) (upd H p (.dK []))) : tDNewK σ H Q := h
/-! operators on known values -/
theorem s_i0 {g : Int → Int → V} {i j : Int} (h : Q (g i j) H) : rI0 g (.int i) (.int j) H Q := ⟨i, j, rfl, rfl, h⟩
theorem s_i1 {g : Int → Int → V} {C : Int → Int → Prop} {i j : Int} (hc : C i j) (h : Q (g i j) H) : rI C g (.int i) (.int j) H Q := ⟨i, j, rfl, rfl, hc, h⟩
theorem s_addI {i j : Int} (h : Q (.int (i + j)) H) : rAdd3 K (.int i) (.int j) H Q := .inl ⟨i, j, rfl, rfl, h⟩
theorem s_addS {i j : Str} (hl : i.length + j.length ≤ sizeLine) (h : Q (.str (i ++ j)) H) : rAdd3 K (.str i) (.str j) H Q := .inr (.inl ⟨i, j, rfl, rfl, hl, h⟩)
theorem s_addL {i j : Addr} {xs ys : List V} (h1 : H i = some (.lst xs)) (h2 : H j = some (.lst ys)) (hl : xs.length + ys.length ≤ sizeLine) (h : ∀ p, H p = none → Q (.ref p) (upd H p (.lst (xs ++ ys)))) : rAdd3 K (.ref i) (.ref j) H Q := .inr (.inr (.inl ⟨i, j, xs, ys, rfl, rfl, h1, h2, hl, h⟩))
theorem s_mulI {i j : Int} (hc : CMul i j) (h : Q (.int (i * j)) H) : rMul3 K (.int i) (.int j) H Q := .inl ⟨i, j, rfl, rfl, hc, h⟩
theorem s_mulW {i j : Int} (hc : CMulW i j) (h : Q (.int (i * j)) H) : rMul3 K (.int i) (.int j) H Q := .inr (.inl ⟨i, j, rfl, rfl, hc, h⟩)
theorem s_mulL {l : Addr} {xs : List V} {k : Int} (h0 : H l = some (.lst xs)) (h1 : -(2 ^ 63) ≤ k) (h2 : k < 2 ^ 63) (h3 : xs.length * k.toNat ≤ sizeLine) (h : ∀ p, H p = none → Q (.ref p) (upd H p (.lst (List.replicate k.toNat xs).flatten))) : rMul3 K (.ref l) (.int k) H Q := .inr (.inr (.inl ⟨l, k, xs, rfl, rfl, h0, h1, h2, h3, h⟩))
theorem s_eqI {i j : Int} (h : Q (.bl (decide (i = j))) H) : rEq3 K (.int i) (.int j) H Q := .inl ⟨rfl, by rw [show decide (V.int i = V.int j) = decide (i = j) from by simp]; exact h⟩
theorem s_eqS {i j : Str} (h : Q (.bl (decide (i = j))) H) : rEq3 K (.str i) (.str j) H Q := .inl ⟨rfl, by rw [show decide (V.str i = V.str j) = decide (i = j) from by simp]; exact h⟩
theorem s_neI {i j : Int} (h : Q (.bl (!decide (i = j))) H) : rNe3 K (.int i) (.int j) H Q := .inl ⟨rfl, by rw [show decide (V.int i = V.int j) = decide (i = j) from by simp]; exact h⟩
theorem s_neB {i j : Bool} (h : Q (.bl (!decide (i = j))) H) : rNe3 K (.bl i) (.bl j) H Q := .inl ⟨rfl, by rw [show decide (V.bl i = V.bl j) = decide (i = j) from by simp]; exact h⟩
theorem s_neS {i j : Str} (h : Q (.bl (!decide (i = j))) H) : rNe3 K (.str i) (.str j) H Q := .inl ⟨rfl, by rw [show decide (V.str i = V.str j) = decide (i = j) from by simp]; exact h⟩
theorem s_eqD {x y : V} {d e : PyData} (h1 : Dp K H x d) (h2 : Dp K H y e) (s1 : SeqAt.shaped d = true) (s2 : SeqAt.shaped e = true) (h : Q (.bl (PyData.eqv d e)) H) : rEq3 K x y H Q := .inr (.inl ⟨d, e, h1, h2, s1, s2, h⟩)
theorem s_neD {x y : V} {d e : PyData} (h1 : Dp K H x d) (h2 : Dp K H y e) (s1 : SeqAt.shaped d = true) (s2 : SeqAt.shaped e = true) (h : Q (.bl (!PyData.eqv d e)) H) : rNe3 K x y H Q := .inr (.inl ⟨d, e, h1, h2, s1, s2, h⟩)
theorem s_ltI {i j : Int} (h : Q (.bl (decide (i < j))) H) : rLt3 K (.int i) (.int j) H Q := .inl ⟨i, j, rfl, rfl, h⟩
theorem s_isN {x : V} (h : Q (.bl (decide (x = .non))) H) : rIs3 x .non H Q := .inl ⟨rfl, h⟩
theorem s_isNotN {x : V} (h : Q (.bl (!decide (x = .non))) H) : rIsNot3 x .non H Q := .inl ⟨rfl, h⟩
theorem s_inD {x : V} {p : Addr} {xs : List V} (h0 : SqL K H p xs ∨ SqT K H p xs) (h1 : flatV x = true) (h2 : xs.all flatV = true) (h : Q (.bl (inV x xs)) H) : rIn3 K x (.ref p) H Q := .inl ⟨p, xs, rfl, h0, h1, h2, h⟩
theorem s_lenL {p : Addr} {xs : List V} (h0 : SqL K H p xs) (h : Q (.int xs.length) H) : rLen3 K [.ref p] H Q := .inl ⟨_, _, rfl, .inl ⟨xs, h0, rfl⟩, h⟩
theorem s_lenT {p : Addr} {xs : List V} (h0 : SqT K H p xs) (h : Q (.int xs.length) H) : rLen3 K [.ref p] H Q := .inl ⟨_, _, rfl, .inr ⟨xs, h0, rfl⟩, h⟩
theorem s_lenS {x : Str} (hl : x.length ≤ sizeLine) (h : Q (.int x.length) H) : rLen3 K [.str x] H Q := .inl ⟨_, _, rfl, ⟨hl, rfl⟩, h⟩
theorem s_lenD {p : Addr} {kvs : List (Key × V)} (h0 : H p = some (.dK kvs)) (h : Q (.int kvs.length) H) : rLen3 K [.ref p] H Q := .inr (.inl ⟨p, kvs, rfl, h0, h⟩)
theorem s_ixL {p : Addr} {xs : List V} {i : Int} {v : V} (h0 : SqL K H p xs) (h1 : atI xs i = some v) (h : Q v H) : rIx K (.ref p) (.int i) H Q := .inl ⟨p, xs, i, v, rfl, rfl, h0, h1, h⟩
theorem s_ixT {p : Addr} {xs : List V} {i : Int} {v : V} (h0 : SqT K H p xs) (h1 : atI xs i = some v) (h : Q v H) : rIx K (.ref p) (.int i) H Q := .inr (.inl ⟨p, xs, i, v, rfl, rfl, h0, h1, h⟩)
theorem s_ifT {k : Bool} {A B : Prop} (hk : k = true) (h : A) : if k = true then A else B := by rw [if_pos hk]; exact h
theorem s_ifF {k : Bool} {A B : Prop} (hk : k = false) (h : B) : if k = true then A else B := by rw [hk, if_neg Bool.false_ne_true]; exact h
theorem s_if {k : Bool} {A B : Prop} (h1 : k = true → A) (h2 : k = false → B) : if k = true then A else B := by
  cases k
  · rw [if_neg Bool.false_ne_true]; exact h2 rfl
  · rw [if_pos rfl]; exact h1 rfl
theorem s_ifD {p : Prop} [Decidable p] {A B : Prop} (h1 : p → A) (h2 : ¬ p → B) : if decide p = true then A else B := by
  by_cases h : p
  · rw [if_pos (decide_eq_true h)]; exact h1 h
  · rw [if_neg (by simp [h])]; exact h2 h
theorem s_ifN {p : Prop} [Decidable p] {A B : Prop} (h1 : ¬ p → A) (h2 : p → B) : if (!decide p) = true then A else B := by
  by_cases h : p
  · rw [if_neg (by simp [h])]; exact h2 h
  · rw [if_pos (by simp [h])]; exact h1 h
end

/-! ### the rules with the written part told apart (a comprehension's block has it under a binder) -/
section
variable {X : Cx}
theorem k_add (K : PySem.W.Frag) (hK : X.K = K := by rfl) : OpR X (binaryOp .Add) (rAdd3 K) := by subst hK; exact op_add3
theorem k_mul (K : PySem.W.Frag) (hK : X.K = K := by rfl) : OpR X (binaryOp .Mult) (rMul3 K) := by subst hK; exact op_mul3
theorem k_eq (K : PySem.W.Frag) (hu : X.A.units + 64 < cLine) (hK : X.K = K := by rfl) : OpR X (compareOp .Eq) (rEq3 K) := by subst hK; exact op_eq3 hu
theorem k_ne (K : PySem.W.Frag) (hu : X.A.units + 64 < cLine) (hK : X.K = K := by rfl) : OpR X (compareOp .NotEq) (rNe3 K) := by subst hK; exact op_ne3 hu
theorem k_lt (K : PySem.W.Frag) (hu : X.A.units + 64 < cLine) (hK : X.K = K := by rfl) : OpR X (compareOp .Lt) (rLt3 K) := by subst hK; exact op_lt3 hu
theorem k_in (K : PySem.W.Frag) (hK : X.K = K := by rfl) : OpR X (compareOp .In) (rIn3 K) := by subst hK; exact op_in3
theorem k_notin (K : PySem.W.Frag) (hK : X.K = K := by rfl) : OpR X (compareOp .NotIn) (rNotIn3 K) := by subst hK; exact op_notin3
theorem k_len (K : PySem.W.Frag) (hK : X.K = K := by rfl) : CallR X (.builtin "len") (rLen3 K) := by subst hK; exact call_len3
theorem k_isi (K : PySem.W.Frag) (hK : X.K = K := by rfl) : CallR X (.builtin "isinstance") (rIsi K) := by subst hK; exact call_isi
theorem k_isiT (K : PySem.W.Frag) (hK : X.K = K := by rfl) : CallR X (.builtin "isinstance") (rIsiT K) := by subst hK; exact call_isiT
theorem k_ix (K : PySem.W.Frag) (hK : X.K = K := by rfl) : IxR X (rIx K) := by subst hK; exact ix_seq
theorem k_sll (K : PySem.W.Frag) (hK : X.K = K := by rfl) : SlR X (rSlL K) := by subst hK; exact sl_list
theorem k_slt (K : PySem.W.Frag) (hK : X.K = K := by rfl) : SlR X (rSlA K) := by subst hK; exact sl_tupA
theorem k_min (K : PySem.W.Frag) (hc : X.calm = true) (hK : X.K = K := by rfl) : CallR X (.builtin "min") (rMin K) := by subst hK; exact cr_min hc
theorem k_max (K : PySem.W.Frag) (hc : X.calm = true) (hK : X.K = K := by rfl) : CallR X (.builtin "max") (rMax K) := by subst hK; exact cr_max hc
theorem k_all (K : PySem.W.Frag) (hc : X.calm = true) (hK : X.K = K := by rfl) : CallR X (.builtin "all") (rAll K) := by subst hK; exact cr_all hc
theorem k_any (K : PySem.W.Frag) (hc : X.calm = true) (hK : X.K = K := by rfl) : CallR X (.builtin "any") (rAny K) := by subst hK; exact cr_any hc
theorem k_sortedI (K : PySem.W.Frag) (hK : X.K = K := by rfl) : CallR X (.builtin "sorted") (rSortedI K) := by subst hK; exact cr_sortedI
def rListOf (K : PySem.W.Frag) : List V → Hp → VK → Prop := fun xs H Q => ∃ p ys, xs = [.ref p] ∧ (SqL K H p ys ∨ SqT K H p ys) ∧ ∀ l, H l = none → Q (.ref l) (upd H l (.lst ys))
theorem k_list (K : PySem.W.Frag) (hK : X.K = K := by rfl) : CallR X (.type "list") (rListOf K) := by subst hK; exact call_list_of
def rTupOf (K : PySem.W.Frag) : List V → Hp → VK → Prop := fun xs H Q => ∃ p ys, xs = [.ref p] ∧ ((SqL K H p ys ∧ ∀ l, H l = none → Q (.ref l) (upd H l (.tup ys))) ∨ (SqT K H p ys ∧ Q (.ref p) H))
theorem k_tuple (K : PySem.W.Frag) (hK : X.K = K := by rfl) : CallR X (.type "tuple") (rTupOf K) := by subst hK; exact call_tuple_of
variable {e o value : Expr} {ta to tv : TE} {f name : Str} {pos pos' apos cpos tpos : Pos} {es : List Expr} {t : TA} {T id : String} {r : V → List V → Hp → VK → Prop}
theorem k_fld (K : PySem.W.Frag) (he : PE X e ta) (hb : attributeBase e f X.env (eval e X.env) = eval e X.env) (hK : X.K = K := by rfl) : PE X (.Attribute e f pos) (tFld K ta f) := by subst hK; exact pe_fld he hb
theorem k_sfld (K : PySem.W.Frag) (ha : PE X o ta) (hv : PE X value tv) (hs : swapsWith value (some (.Attribute o f pos')) pos.line X.env = pure false) (hK : X.K = K := by rfl) : PS X (.Assign [.Attribute o f pos'] value pos) (sFld K ta tv f) := by subst hK; exact ps_fld ha hv hs
theorem k_sfldaug (K : PySem.W.Frag) {op : Operator} {rd : V → V → Hp → VK → Prop} (ha : PE X o ta) (hv : PE X value tv) (hop : InOp X op rd) (hK : X.K = K := by rfl) : PS X (.AugAssign (.Attribute o f tpos) op value pos) (sFldAug K ta tv rd f) := by subst hK; exact ps_fldaug ha hv hop
theorem k_bm (K : PySem.W.Frag) (pa : PlainAttrs T) (slot : Slot T name id) (hty : typeOf (.builtin id) = pure (.type "method_descriptor")) (hm : MtR X id r) (ho : PE X o to) (ha : PA X (e :: es) t)
    (hK : X.K = K := by rfl) (hbase : attributeBase o name X.env (eval o X.env) = eval o X.env := by rfl)
    (hfew : ((backTo cpos (starEach (e :: es) X.env)).all (fun x => !x.1) && (backToKw cpos (keywordEach [] X.env)).all (fun x => x.1.isSome)
      && decide ((e :: es).length + ([] : List Keyword).length + (if ([] : List Keyword).isEmpty then 0 else 1) < 30)) = true := by rfl)
    (hline : (apos.endLine == cpos.line) = true := by rfl) (hs : starEach (e :: es) X.env = (false, eval e X.env) :: starEach es X.env := by rfl) (hplain : (backTo cpos (starEach es X.env)).any (·.1) = false := by rfl) :
    PE X (.Call (.Attribute o name apos) (e :: es) [] cpos) (tBM K T r to t) := by subst hK; exact pe_bm pa slot hty hm ho ha hbase hfew hline hs hplain
theorem k_bm0 (K : PySem.W.Frag) (pa : PlainAttrs T) (slot : Slot T name id) (hty : typeOf (.builtin id) = pure (.type "method_descriptor")) (hm : MtR X id r) (ho : PE X o to)
    (hK : X.K = K := by rfl) (hbase : attributeBase o name X.env (eval o X.env) = eval o X.env := by rfl) (hline : (apos.endLine == cpos.line) = true := by rfl) : PE X (.Call (.Attribute o name apos) [] [] cpos) (tBM0 K T r to) := by subst hK; exact pe_bm0 pa slot hty hm ho hbase hline
theorem kg_tup (K : PySem.W.Frag) {es : List Expr} {k : Nat} {t : TGs} {n : Nat} (hc : X.calm = true) (h : PGs X es t)
    (hK : X.K = K := by rfl) (hn : (assignEach es X.env).length = n := by rfl) (hst : (assignEach es X.env).findIdx? (·.1) = none := by rfl) : PG X (.Tuple es k pos) (gTup K n t) := by subst hK; exact pg_tup hc h hn hst
theorem kg_lst (K : PySem.W.Frag) {es : List Expr} {k : Nat} {t : TGs} {n : Nat} (hc : X.calm = true) (h : PGs X es t)
    (hK : X.K = K := by rfl) (hn : (assignEach es X.env).length = n := by rfl) (hst : (assignEach es X.env).findIdx? (·.1) = none := by rfl) : PG X (.Tuple es k pos) (gLst K n t) := by subst hK; exact pg_lst hc h hn hst
theorem ki_list (K : PySem.W.Frag) {tg l : Expr} {tl : TE} (hl : PE X l tl) (hK : X.K = K := by rfl) : PI X tg l (iList K tl) := by subst hK; exact pi_list hl
theorem ki_tup (K : PySem.W.Frag) {tg l : Expr} {tl : TE} (hl : PE X l tl) (hK : X.K = K := by rfl) : PI X tg l (iTup K tl) := by subst hK; exact pi_tup hl
end
end Lt

set_option Elab.async false
set_option linter.all false
set_option maxRecDepth 100000
set_option maxHeartbeats 4000000
/-! Lt2: rules that the layer lacks: sorted(d.items()), dict(a tuple of pairs). -/
namespace Lt
open PySem PySem.Spec PyProof.Rows L2

/-! ### data without lists -/
mutual
def tupOnly : PyData → Bool
  | .none => true | .bool _ => true | .int _ => true | .str _ => true
  | .list _ => false | .dict _ => false
  | .tuple ds => tupOnlyAll ds
def tupOnlyAll : List PyData → Bool
  | [] => true
  | d :: ds => tupOnly d && tupOnlyAll ds
end
mutual
theorem reads_nil {h : Heap} : ∀ {d : PyData} {v : Value} {as : List Addr}, tupOnly d = true → Reads h v d as → as = []
  | .none, _, _, _, .none => rfl
  | .bool _, _, _, _, .bool _ => rfl
  | .int _, _, _, _, .int _ _ => rfl
  | .str _, _, _, _, .str _ _ => rfl
  | .list _, _, _, t, _ => absurd t (by simp [tupOnly])
  | .dict _, _, _, t, _ => absurd t (by simp [tupOnly])
  | .tuple ds, _, _, t, .tuple _ _ _ r => readsAll_nil (by simpa [tupOnly] using t) r
theorem readsAll_nil {h : Heap} : ∀ {ds : List PyData} {vs : List Value} {as : List Addr}, tupOnlyAll ds = true → ReadsAll h vs ds as → as = []
  | [], _, _, _, .nil => rfl
  | d :: ds, _, _, t, .cons r1 r2 => by
    have t' : tupOnly d = true ∧ tupOnlyAll ds = true := by simpa [tupOnlyAll] using t
    rw [reads_nil t'.1 r1, readsAll_nil t'.2 r2]
    rfl
end

/-! ### d.items() -/
def rItemsK : V → List V → Hp → VK → Prop := fun x xs H Q => ∃ a, x = .ref a ∧ xs = [] ∧ ((∃ kvs, H a = some (.dK kvs)) ∨ ∃ kvs, H a = some (.dT kvs)) ∧ ∀ p, H p = none → Q (.ref p) (upd H p (DX.itemsO p a))
section
variable {X : Cx}
theorem raw_of {pins : List (Addr × Obj)} {σ : St} {H : Hp} {s : Shared} {a : Addr} (I : Inv X pins σ H s) (h : (∃ kvs, H a = some (.dK kvs)) ∨ ∃ kvs, H a = some (.dT kvs)) : ∃ es ep, (a == sysModules) = false ∧ DT.Raw s.heap a es ep := by
  rcases h with ⟨kvs, ha⟩ | ⟨kvs, ha⟩
  · obtain ⟨_, hd, vs, _, o, es, ep, ho, hx, hdat, _⟩ := (show ObjOk X.prog X.w H s.heap a (.dK kvs) from I.hok a _ ha)
    exact ⟨es, ep, hd, o, ho, hx, hdat⟩
  · obtain ⟨_, hd, vs, _, o, es, ep, ho, hx, hdat, _⟩ := (show ObjOk X.prog X.w H s.heap a (.dT kvs) from I.hok a _ ha)
    exact ⟨es, ep, hd, o, ho, hx, hdat⟩
theorem mt_itemsK : MtR X "dict.items" rItemsK := by
  intro pins s σ H x xs v us Q I rx rxs h
  obtain ⟨a, rfl, rfl, ha, q⟩ := h
  cases rx
  cases rxs
  obtain ⟨es, ep, hd, raw⟩ := raw_of I ha
  refine DT.callItems (es := es) (ep := ep) hd raw ?_
  have hf : H s.heap.objs.size = none := I.hok.fresh (Nat.le_refl _)
  exact ⟨.ref s.heap.objs.size, upd H s.heap.objs.size (DX.itemsO s.heap.objs.size a), I.laid (t' := s.toks) (fun b u e => Heap.get?_push_of_some _ e) (Nat.le_refl _) (DX.itemsO_ok (Heap.get?_push_size _ rfl)), rfl, q _ hf⟩

/-! ### sorted(d.items()) -/
/-- the pairs' data -/
def encP (ek ev : V × V → PyData) (p : V × V) : PyData := .tuple [ek p, ev p]
/-- what is asked of the entries, and what is handed on -/
def SortBody (K : PySem.W.Frag) (H : Hp) (Q : VK) (ps : List (V × V)) : Prop := ∃ ek ev : V × V → PyData,
  (∀ p ∈ ps, Dp K H p.1 (ek p) ∧ Dp K H p.2 (ev p) ∧ tupOnly (ek p) = true ∧ tupOnly (ev p) = true ∧ (encP ek ev p).depth ≤ 50) ∧ PySem.W.AllAlike (ps.map (encP ek ev)) ∧
  ∀ (H2 : Hp) (l : Addr) (zs : List ((V × V) × Addr)), (∀ b o, H b = some o → H2 b = some o) → zs.map (·.1) = ps.mergeSort (PySem.W.dataLe false (encP ek ev)) → H2 l = some (.lst (zs.map fun z => .ref z.2)) →
    (∀ z ∈ zs, H2 z.2 = some (.tup [z.1.1, z.1.2])) → Q (.ref l) H2
def rSortV (K : PySem.W.Frag) : List V → Hp → VK → Prop := fun vs H Q => ∃ p a, vs = [.ref p] ∧ H p = some (DX.itemsO p a) ∧
  ((∃ kvs, H a = some (.dK kvs) ∧ SortBody K H Q (kvs.map fun kv => (kV kv.1, kv.2))) ∨
   (∃ kvs, H a = some (.dT kvs) ∧ ∀ ps, Paired (fun (p : V × V) (kv : List Key × V) => (∃ q, p.1 = .ref q ∧ H q = some (.tup (kv.1.map kV))) ∧ p.2 = kv.2) ps kvs → SortBody K H Q ps))
theorem alike_enc {ek ev : V × V → PyData} {ps : List (V × V)} {as : List Addr} (hal : PySem.W.AllAlike (ps.map (encP ek ev))) (hl : ps.length = as.length) :
    PySem.W.AllAlike ((ps.zip as).map fun b => encP ek ev b.1) := by
  intro d hd d' hd'
  have e : (ps.zip as).map (fun b => encP ek ev b.1) = ps.map (encP ek ev) := by
    have z : (ps.zip as).map (fun b => encP ek ev b.1) = ((ps.zip as).map (·.1)).map (encP ek ev) := by rw [List.map_map]; rfl
    rw [z, List.map_fst_zip (by omega)]
  rw [e] at hd hd'
  exact hal d hd d' hd'
theorem sorted_core {pins : List (Addr × Obj)} {σ : St} {H : Hp} {s : Shared} {Q : VK} {p a : Addr} {ps : List (V × V)} {es : Array DictEntry} {ep : Nat} (hc : X.calm = true) (hu : X.A.units + 64 < cLine) (I : Inv X pins σ H s)
    (view : s.heap.IsItemsView p a) (raw : DT.Raw s.heap a es ep) (hz : es.size ≤ sizeLine) (hlen : ps.length = es.size) (ent : ∀ (j : Nat) (e : DictEntry), es[j]? = some e → ∃ q, ps[j]? = some q ∧ RelV q.1 e.key ∧ RelV q.2 e.val)
    (hb : SortBody X.K H Q ps) : wpAny (model X.prog X.w) X.A (call (.builtin "sorted") [.ref p]) (EP X pins σ Q) X.xe s := by
  obtain ⟨ek, ev, hd, hal, q⟩ := hb
  have hh : X.A.handled = none := I.ok.hd hc
  refine DT.sortedI (es := es) (ep := ep) hh view raw hz fun h' tk as hk hlt hl hG => ?_
  have hl2 : ps.length = as.length := by omega
  have nd : as.Nodup := List.Pairwise.imp (fun h => Nat.ne_of_lt h) hG.rise
  have pr : ∀ (j : Nat) (b : Addr), as[j]? = some b → ∃ (z : V × V) (ku vu : Value), ps[j]? = some z ∧ RelV z.1 ku ∧ RelV z.2 vu ∧ h'.get? b = some { cls := .type "tuple", data := .seq #[ku, vu] } := by
    intro j b hj
    obtain ⟨en, he, hg⟩ := hG.pairs j b hj
    obtain ⟨z, hz', r1, r2⟩ := ent j en he
    exact ⟨z, en.key, en.val, hz', r1, r2, hg⟩
  have hob : (h'.push { cls := .type "list", data := .seq (as.map Value.ref).toArray }).get? h'.objs.size = some (seqObj "list" (as.map Value.ref).toArray 0) := Heap.get?_push_size _ rfl
  have kb : ∀ b o, s.heap.get? b = some o → (h'.push { cls := .type "list", data := .seq (as.map Value.ref).toArray }).get? b = some o := fun b o e => Heap.get?_push_of_some _ (hk b o e)
  have ne0 : ∀ b o, h'.get? b = some o → b ≠ h'.objs.size := fun b o e => Nat.ne_of_lt (Heap.lt_size e)
  generalize hh2 : h'.push { cls := .type "list", data := .seq (as.map Value.ref).toArray } = h2 at hob kb ⊢
  have ka : ∀ b o, h'.get? b = some o → h2.get? b = some o := fun b o e => by rw [← hh2]; exact Heap.get?_push_of_some _ e
  -- the items
  let R : Value → (V × V) × Addr → Prop := fun v b => v = .ref b.2 ∧ ∃ j : Nat, as[j]? = some b.2 ∧ ps[j]? = some b.1
  have zipAt : ∀ (j : Nat) (z : (V × V) × Addr), (ps.zip as)[j]? = some z → ps[j]? = some z.1 ∧ as[j]? = some z.2 := fun j z hj => List.getElem?_zip_eq_some.mp hj
  have e0 : PySem.W.EachIs R (as.map Value.ref) (ps.zip as) := by
    refine PySem.W.EachIs.of_zip (by rw [List.length_map, List.length_zip]; omega) fun w hw => ?_
    obtain ⟨j, hj⟩ := List.mem_iff_getElem?.mp hw
    obtain ⟨h1, h2'⟩ := List.getElem?_zip_eq_some.mp hj
    obtain ⟨h3, h4⟩ := zipAt j _ h2'
    rw [List.getElem?_map, h4] at h1
    exact ⟨(Option.some.inj h1).symm, j, h4, h3⟩
  have rd : ∀ b : (V × V) × Addr, ∀ v : Value, R v b → ∃ rs, Reads h2 v (encP ek ev b.1) rs ∧ h'.objs.size ∉ rs := by
    rintro b v ⟨rfl, j, j1, j2⟩
    obtain ⟨z, ku, vu, hz', r1, r2, hg⟩ := pr j b.2 j1
    have ez : z = b.1 := Option.some.inj (hz'.symm.trans j2)
    subst ez
    obtain ⟨d1, d2, t1, t2, _⟩ := hd b.1 (List.mem_of_getElem? j2)
    obtain ⟨a1, q1⟩ := Dp.reads I (ek b.1) _ _ d1 r1
    obtain ⟨a2, q2⟩ := Dp.reads I (ev b.1) _ _ d2 r2
    have n1 := reads_nil t1 q1
    have n2 := reads_nil t2 q2
    subst n1 n2
    refine ⟨[] ++ ([] ++ []), Reads.tuple (ka _ _ hg) rfl rfl (.cons (PyProof.Rows.Reads.keeps kb q1) (.cons (PyProof.Rows.Reads.keeps kb q2) .nil)), by simp⟩
  have hsort : PySem.W.Sortable ((ps.zip as).map fun b => encP ek ev b.1) := PySem.W.Sortable.tuples fun b => ⟨_, _, rfl⟩
  refine PySem.W.list_sort_data (A := X.A.in1) (s := { s with heap := h2, toks := tk }) (R := R) (enc := fun b => encP ek ev b.1) (bs := ps.zip as) hob e0 ?_ (alike_enc hal hl2) hsort (by rw [List.length_zip]; omega) (fun b hb => ?_) fun out ho eo => ?_
  · exact PySem.W.EachIs.mono (fun v b r => rd b v r) e0
  · obtain ⟨j, hj⟩ := List.mem_iff_getElem?.mp hb
    have := (hd b.1 (List.mem_of_getElem? (zipAt j _ hj).1)).2.2.2.2
    show X.A.units + 1 + 1 + (encP ek ev b.1).depth < cLine
    omega
  · show EP X pins σ Q (.ref h'.objs.size) { s with heap := sortedHeap h2 h'.objs.size (as.map Value.ref) out.toArray, toks := tk }
    let zs := (ps.zip as).mergeSort (PySem.W.dataLe false fun b => encP ek ev b.1)
    have zperm : zs.Perm (ps.zip as) := List.mergeSort_perm _ _
    have idx : ∀ z ∈ zs, ∃ j : Nat, as[j]? = some z.2 ∧ ps[j]? = some z.1 := by
      intro z' hz'
      obtain ⟨j, hj⟩ := List.mem_iff_getElem?.mp (zperm.mem_iff.mp hz')
      exact ⟨j, (zipAt j _ hj).2, (zipAt j _ hj).1⟩
    have hout : out = zs.map fun z => Value.ref z.2 := by
      have key : ∀ {o : List Value} {b : List ((V × V) × Addr)}, PySem.W.EachIs R o b → o = b.map fun z => Value.ref z.2 := by
        intro o b hob
        induction hob with
        | nil => rfl
        | cons r _ ih => rw [List.map_cons, ih, r.1]
      exact key eo
    have hmap : zs.map (·.1) = ps.mergeSort (PySem.W.dataLe false (encP ek ev)) := by
      have m := PySem.W.sort_maps (r := PySem.W.dataLe false fun b : (V × V) × Addr => encP ek ev b.1) (s := PySem.W.dataLe false (encP ek ev)) (fun b => b.1) (l := ps.zip as) (fun a _ b _ => rfl)
      rw [List.map_fst_zip (by omega)] at m
      exact m
    have kF : ∀ b o, b ≠ h'.objs.size → h2.get? b = some o → (sortedHeap h2 h'.objs.size (as.map Value.ref) out.toArray).get? b = some o := fun b o hb e => (PyProof.Rows.sortedHeap_old hb (Heap.lt_size e)).trans e
    have kS : ∀ b o, s.heap.get? b = some o → (sortedHeap h2 h'.objs.size (as.map Value.ref) out.toArray).get? b = some o := fun b o e => kF b o (ne0 _ _ (hk b o e)) (kb b o e)
    obtain ⟨eF, heF⟩ := PyProof.Rows.sortedHeap_at (vs := as.map Value.ref) (out := out.toArray) hob
    have I1 : Inv X pins σ H { s with heap := sortedHeap h2 h'.objs.size (as.map Value.ref) out.toArray, toks := tk } := I.kept (t' := tk) kS
    have hn0 : H h'.objs.size = none := I.hok.fresh (Nat.le_of_lt hlt)
    have hlenz : (zs.map fun z => V.ref z.2).length ≤ sizeLine := by
      have e := zperm.length_eq
      rw [List.length_zip] at e
      rw [List.length_map]
      omega
    have rv : Vals (zs.map fun z => V.ref z.2) out.toArray.toList := by
      rw [List.toList_toArray, hout]
      have key : ∀ l : List ((V × V) × Addr), Vals (l.map fun z => V.ref z.2) (l.map fun z => Value.ref z.2) := by
        intro l
        induction l with
        | nil => exact .nil
        | cons x l ih => exact .cons rfl ih
      exact key zs
    have I2 : Inv X pins σ (upd H h'.objs.size (.lst (zs.map fun z => V.ref z.2))) { s with heap := sortedHeap h2 h'.objs.size (as.map Value.ref) out.toArray, toks := tk } :=
      I1.take (h' := sortedHeap h2 h'.objs.size (as.map Value.ref) out.toArray) (t' := tk) (fun b ob _ e => e) (I.fpOk (Nat.le_of_lt hlt) hn0) ⟨hlenz, out.toArray.toList, eF, rv, heF⟩
    obtain ⟨H2, I3, g, qt⟩ := DX.takeT (P := fun b vs => ∃ (j : Nat) (z : V × V), as[j]? = some b ∧ ps[j]? = some z ∧ vs = [z.1, z.2]) I as _ I2 nd fun b hb => by
      obtain ⟨j, hj⟩ := List.mem_iff_getElem?.mp hb
      obtain ⟨z, ku, vu, hz', r1, r2, hg⟩ := pr j b hj
      have hbl : s.heap.objs.size ≤ b := Nat.le_of_lt (hG.above b hb)
      refine ⟨hbl, ?_, [z.1, z.2], ⟨j, z, hj, hz', rfl⟩, fun H3 => ⟨(by rw [sizeLine_eq]; show 2 ≤ 16777216; omega), [ku, vu], .cons r1 (.cons r2 .nil), ⟨_, kF _ _ (ne0 _ _ hg) (ka _ _ hg), rfl, 0, rfl⟩⟩⟩
      rw [upd_ne (ne0 _ _ hg)]
      exact I.hok.fresh hbl
    have gr : ∀ b o, H b = some o → H2 b = some o := fun b o e => g b o (by rw [upd_ne (ne_of_none e hn0)]; exact e)
    refine ⟨.ref h'.objs.size, H2, I3, rfl, q H2 h'.objs.size zs gr hmap (g _ _ upd_same) fun z' hz' => ?_⟩
    obtain ⟨i, i1, i2⟩ := idx z' hz'
    obtain ⟨vs, ⟨j, z, j1, j2, ev'⟩, hH⟩ := qt z'.2 (List.mem_of_getElem? i1)
    have eij : i = j := (List.getElem?_inj (List.getElem?_eq_some_iff.mp i1).1 nd).mp (i1.trans j1.symm)
    subst eij
    have ee : z = z'.1 := Option.some.inj (j2.symm.trans i2)
    rw [ev', ee] at hH
    exact hH
theorem cr_sortedV (hc : X.calm = true) (hu : X.A.units + 64 < cLine) : CallR X (.builtin "sorted") (rSortV X.K) := by
  intro pins s σ H xs us Q I r h
  obtain ⟨p, a, rfl, hp, h⟩ := h
  obtain ⟨u0, rfl, ru⟩ := vals1 r
  cases (show u0 = Value.ref p from ru)
  have view : s.heap.IsItemsView p a := (show ObjOk X.prog X.w H s.heap p (DX.itemsO p a) from I.hok p _ hp).1
  rcases h with ⟨kvs, ha, hb⟩ | ⟨kvs, ha, hb⟩
  · obtain ⟨hz, hd, vs, rel, o, es, ep, ho, hx, hdat, hks, hpr, hnd⟩ := (show ObjOk X.prog X.w H s.heap a (.dK kvs) from I.hok a _ ha)
    have l1 : kvs.length = vs.length := Paired.length rel
    have l2 : es.size = vs.length := by rw [← hpr.length]; simp
    refine sorted_core hc hu I view ⟨o, ho, hx, hdat⟩ (by omega) (by rw [List.length_map]; omega) (fun j e he => ?_) hb
    have hj : j < vs.length := by rw [← l2]; exact (Array.getElem?_eq_some_iff.mp he).1
    have hv : vs[j]? = some vs[j] := List.getElem?_eq_getElem hj
    have hk : kvs[j]? = some (kvs[j]'(by omega)) := List.getElem?_eq_getElem (by omega)
    have g := hpr.get? (e := e) (i := j) (by simpa using he) hv
    have key : ∀ {l1 : List (Key × V)} {l2 : List (Key × Value)}, KV l1 l2 → ∀ {i : Nat} {x y}, l1[i]? = some x → l2[i]? = some y → x.1 = y.1 ∧ RelV x.2 y.2 := by
      intro l1 l2 h
      induction h with
      | nil => intro i x y h1; simp at h1
      | cons h _ ih =>
        intro i x y h1 h2
        cases i with
        | zero =>
          simp at h1 h2
          subst h1 h2
          exact h
        | succ i => exact ih (by simpa using h1) (by simpa using h2)
    obtain ⟨k1, k2⟩ := key rel hk hv
    refine ⟨(kV (kvs[j]'(by omega)).1, (kvs[j]'(by omega)).2), by rw [List.getElem?_map, hk]; rfl, ?_, by rw [g.2]; exact k2⟩
    have g1 : keyIs (vs[j]).1 e.key = true := g.1
    show RelV (kV (kvs[j]'(by omega)).1) e.key
    rw [k1]
    rcases keyIs_shape g1 with ⟨i, t, e1, e2⟩ | ⟨x, t, e1, e2⟩
    · rw [e1, e2]; exact ⟨t, rfl⟩
    · rw [e1, e2]; exact ⟨t, rfl⟩
  · obtain ⟨z, hd, xs', rel, o, es, ep, ho, hx, hdat, hes, his⟩ := (show ObjOk X.prog X.w H s.heap a (.dT kvs) from I.hok a _ ha)
    have l1 : kvs.length = xs'.length := Paired.length rel
    have l2 : es.size = xs'.length := size_of_entries hes
    -- a value for each of the entries
    have vals : ∀ {k : List (List Key × V)} {l : List (List Key × Addr × Value)}, Paired (fun (p : List Key × V) (q : List Key × Addr × Value) => p.1 = q.1 ∧ H q.2.1 = some (.tup (p.1.map kV)) ∧ RelV p.2 q.2.2) k l →
        ∃ ps : List (V × V), ps.length = l.length ∧ Paired (fun (p : V × V) (kv : List Key × V) => (∃ q, p.1 = .ref q ∧ H q = some (.tup (kv.1.map kV))) ∧ p.2 = kv.2) ps k ∧ ∀ (i : Nat) (y : List Key × Addr × Value), l[i]? = some y → ∃ p, ps[i]? = some p ∧ p.1 = .ref y.2.1 ∧ RelV p.2 y.2.2 := by
      intro k l h
      induction h with
      | nil => exact ⟨[], rfl, .nil, fun i y h => by simp at h⟩
      | @cons x y _ _ h _ ih =>
        obtain ⟨ps, e1, e2, e3⟩ := ih
        refine ⟨(.ref y.2.1, x.2) :: ps, by simp [e1], .cons ⟨⟨y.2.1, rfl, h.2.1⟩, rfl⟩ e2, fun i w hw => ?_⟩
        cases i with
        | zero =>
          simp at hw
          subst hw
          exact ⟨_, rfl, rfl, h.2.2⟩
        | succ i =>
          obtain ⟨p, p1, p2⟩ := e3 i w (by simpa using hw)
          exact ⟨p, by simpa using p1, p2⟩
    obtain ⟨ps, e1, e2, e3⟩ := vals rel
    refine sorted_core hc hu I view ⟨o, ho, hx, hdat⟩ (by omega) (by omega) (fun j e he => ?_) (hb ps e2)
    rw [entry_at hes j] at he
    cases hxj : xs'[j]? with
    | none => rw [hxj] at he; cases he
    | some x =>
      rw [hxj] at he
      have een : entryOfKey (tupleKind (mixKind X.prog X.w)) x = e := Option.some.inj he
      obtain ⟨p, p1, p2, p3⟩ := e3 j x hxj
      refine ⟨p, p1, ?_, ?_⟩
      · rw [p2, ← een]; rfl
      · rw [← een]; exact p3
end
end Lt

namespace Lt
open PySem PySem.Spec PyProof.Rows L2
/-! ### tuple(a list), known to the object; dict(such a tuple of pairs) -/
/-- a tuple without a dict of its own, known to the object -/
def FzT (H : Hp) (a : Addr) (xs : List V) : Prop := ∃ o : Obj, o.dict = none ∧ H a = some (.frz o (.tup xs))
theorem FzT.sq {K : PySem.W.Frag} {H : Hp} {a : Addr} {xs : List V} (h : FzT H a xs) : SqT K H a xs := let ⟨o, _, e⟩ := h; .inl (.inr ⟨o, e⟩)
section
variable {X : Cx}
def rTupF (K : PySem.W.Frag) : List V → Hp → VK → Prop := fun xs H Q => ∃ p ys, xs = [.ref p] ∧ SqL K H p ys ∧ ∀ (l : Addr) (o : Obj), H l = none → o.dict = none → Q (.ref l) (upd H l (.frz o (.tup ys)))
theorem call_tupF : CallR X (.type "tuple") (rTupF X.K) := by
  intro pins s σ H xs us Q I r h
  obtain ⟨p, ys, rfl, hq, q⟩ := h
  obtain ⟨u, rfl, rx⟩ := vals1 r
  cases rx
  obtain ⟨its, r', pl, hz⟩ := I.list hq
  have hlen := r'.length
  refine call_tuple_list pl.isList (fun h' kp => ?_) (by simp only [List.size_toArray] <;> omega)
  have I1 : Inv X pins σ H { s with heap := h' } := I.kept (t' := s.toks) kp
  have I2 : Inv X pins σ (upd H h'.objs.size (.frz { cls := .type "tuple", data := .seq its.toArray } (.tup ys))) { s with heap := h'.push { cls := .type "tuple", data := .seq its.toArray } } :=
    I1.laid (t' := s.toks) (fun b o e => Heap.get?_push_of_some _ e) (Nat.le_refl _)
      (show ObjOk X.prog X.w _ _ _ (.frz { cls := .type "tuple", data := .seq its.toArray } (.tup ys)) from ⟨Heap.get?_push_size _ rfl, hz, its, r', IsTup.new _ _⟩)
  exact ⟨.ref h'.objs.size, _, I2, rfl, q _ _ (I1.hok.fresh (Nat.le_refl _)) rfl⟩
def rDictT (K : PySem.W.Frag) : List V → Hp → VK → Prop := fun xs H Q => ∃ (a : Addr) (ps : List Addr) (kvs : List (Key × V)), xs = [.ref a] ∧ FzT H a (ps.map V.ref) ∧ Paired (fun p kv => SqT K H p [kV kv.1, kv.2]) ps kvs ∧
    ∀ p, H p = none → Q (.ref p) (upd H p (.dK (mergeK [] kvs)))
theorem call_dictT (hcalm : X.calm = true) : CallR X (.type "dict") (rDictT X.K) := by
  intro pins s σ H xs us Q I r q
  obtain ⟨a, ps, kvs, rfl, ⟨o, hod, ha⟩, hp, q⟩ := q
  obtain ⟨u, rfl, rx⟩ := vals1 r
  cases rx
  obtain ⟨ho, hz, its, rv, o', ho', hc, n, hd⟩ := (show ObjOk X.prog X.w H s.heap a (.frz o (.tup (ps.map V.ref))) from I.hok a _ ha)
  have eo : o' = o := Option.some.inj (ho'.symm.trans ho)
  subst eo
  have ei := refs_at rv
  subst ei
  obtain ⟨prs, rel, hl, hpr⟩ := pairs_of I hp
  rw [List.length_map] at hz
  -- the keys of the pairs
  have kx : ∃ kus : List Value, kus.length = prs.length ∧ ∀ (j : Nat) (x : Key × Value), prs[j]? = some x → ∃ (b : Addr) (u : Value), ps[j]? = some b ∧ kus[j]? = some u ∧ IsTup s.heap b #[u, x.2] ∧ keyIs x.1 u = true := by
    have gen : ∀ (l : List (Key × Value)) (m : List Addr), (∀ (j : Nat) (x : Key × Value), l[j]? = some x → ∃ (b : Addr) (u : Value), m[j]? = some b ∧ IsTup s.heap b #[u, x.2] ∧ keyIs x.1 u = true) →
        ∃ kus : List Value, kus.length = l.length ∧ ∀ (j : Nat) (x : Key × Value), l[j]? = some x → ∃ (b : Addr) (u : Value), m[j]? = some b ∧ kus[j]? = some u ∧ IsTup s.heap b #[u, x.2] ∧ keyIs x.1 u = true := by
      intro l
      induction l with
      | nil => exact fun m _ => ⟨[], rfl, fun j x e => by simp at e⟩
      | cons x l ih =>
        intro m hm
        obtain ⟨b, u, h1, h2, h3⟩ := hm 0 x rfl
        obtain ⟨kus, e1, e2⟩ := ih (m.drop 1) fun j y hj => by
          obtain ⟨b, u, h1, h2, h3⟩ := hm (j + 1) y (by simpa using hj)
          exact ⟨b, u, by rw [List.getElem?_drop, Nat.add_comm]; exact h1, h2, h3⟩
        refine ⟨u :: kus, by simp [e1], fun j y hj => ?_⟩
        cases j with
        | zero =>
          have : x = y := Option.some.inj hj
          subst this
          exact ⟨b, u, h1, rfl, h2, h3⟩
        | succ j =>
          obtain ⟨b, u, h1, h2, h3⟩ := e2 j y (by simpa using hj)
          exact ⟨b, u, by rw [List.getElem?_drop, Nat.add_comm] at h1; exact h1, by simpa using h2, h3⟩
    exact gen prs ps hpr
  obtain ⟨kus, hk1, hk2⟩ := kx
  have hlp : (kus.zip (prs.map (·.2))).length = prs.length := by rw [List.length_zip, List.length_map]; omega
  have P := PairArg.tuple (prog := X.prog) (w := X.w) a (ps.map Value.ref).toArray (fun j => ps.getD j 0) (kus.zip (prs.map (·.2)))
  have atj : ∀ (j : Nat) (k v : Value), (kus.zip (prs.map (·.2)))[j]? = some (k, v) → ∃ x : Key × Value, prs[j]? = some x ∧ kus[j]? = some k ∧ x.2 = v := by
    intro j k v hj
    obtain ⟨h1, h2⟩ := List.getElem?_zip_eq_some.mp hj
    rw [List.getElem?_map] at h2
    cases e : prs[j]? with
    | none => rw [e] at h2; cases h2
    | some x =>
      rw [e] at h2
      exact ⟨x, rfl, h1, Option.some.inj h2⟩
  refine PySem.call_dict_pairs (knd := mixKind X.prog X.w) (kvs := prs) P (I.ok.hd hcalm) ⟨⟨o', n, ho, hc, hod, hd⟩, by simp [hl, hk1], fun j k v hj => ?_⟩ ⟨by rw [hlp], fun i key v hrel => ?_⟩ (by rw [hlp, hl]; exact hz) fun h' tk hd' k => ?_
  · obtain ⟨x, hx, hkj, rfl⟩ := atj j k v hj
    obtain ⟨b, u, h1, h2, h3, h4⟩ := hk2 j x hx
    have eu : u = k := Option.some.inj (h2.symm.trans hkj)
    subst eu
    have eb : ps.getD j 0 = b := by rw [List.getD_eq_getElem?_getD, h1]; rfl
    refine ⟨by simp [h1, eb], .inl ?_⟩
    show s.heap.IsTuple (ps.getD j 0) #[u, x.snd]
    rw [eb]
    exact h3
  · obtain ⟨x, hx, hkj, rfl⟩ := atj i key v hrel
    obtain ⟨b, u, h1, h2, h3, h4⟩ := hk2 i x hx
    have eu : u = key := Option.some.inj (h2.symm.trans hkj)
    subst eu
    exact ⟨x.1, hx, h4⟩
  · have hm : (s.heap.objs.size == sysModules) = false := beq_eq_false_iff_ne.mpr (Nat.ne_of_gt I.big)
    have hlen : (mergeK [] kvs).length ≤ sizeLine := by
      refine Nat.le_trans (length_mergeK kvs []) ?_
      rw [List.length_nil, Nat.zero_add, rel.length, hl]
      exact hz
    exact ⟨.ref s.heap.objs.size, upd H s.heap.objs.size (.dK (mergeK [] kvs)), I.laid (t' := tk) (fun b o e => k b o (by simp) e) (Nat.le_refl _) (show ObjOk X.prog X.w _ _ _ (.dK (mergeK [] kvs)) from ⟨hlen, hm, merged [] prs, KV.merge rel .nil, hd'⟩), rfl, q _ (I.hok.fresh (Nat.le_refl _))⟩
end

/-! ### sorted(a list or tuple of data) -/
section
variable {prog : Program} {w : World} {A : Around} {E : Value → Shared → Prop} {s : Shared}
theorem sorted_seq {Q : Value → Shared → Prop} {it : Addr} {T : String} {o : Obj} {items : Array Value} {n : Nat} (hT : T = "list" ∨ T = "tuple") (ho : s.heap.get? it = some o) (hc : o.cls = .type T) (hd : o.data = .seq items n) (hz : items.size ≤ sizeLine)
    (h : ∀ h' : Heap, (∀ b o', s.heap.get? b = some o' → h'.get? b = some o') →
      wpAny (model prog w) A.in1 (call (.builtin "list.sort") [.ref h'.objs.size]) (fun _ s' => Q (.ref h'.objs.size) s') E { s with heap := h'.push { cls := .type "list", data := .seq items.toList.toArray } }) :
    wpAny (model prog w) A (call (.builtin "sorted") [.ref it]) Q E s := by
  refine Calls.call_function_entry PyProof.Rows.kind_sorted PyProof.Rows.plain_sorted PyProof.Rows.entry_sorted (PyProof.Rows.args_sorted1 _) ?_
  unfold Builtin.«sorted»
  refine wpAny_bind (m := checkCount "sorted" 1 1 _) (wpAny_pure ?_)
  refine wpAny_bind (wpAny_collect_seq it hT ho hc hd (fun h' hk => ?_) hz)
  refine wpAny_bind (wpAny_newList ?_ (by simpa using hz))
  refine wpAny_bind (wpAny_holding (wpAny_mono (h h' hk) (fun _ s' x => ?_) fun _ _ e => e))
  exact wpAny_pure ⟨_, rfl, x⟩
end
def rSortD (K : PySem.W.Frag) : List V → Hp → VK → Prop := fun xs H Q => ∃ (a : Addr) (ys : List V) (enc : V → PyData), xs = [.ref a] ∧ (SqL K H a ys ∨ SqT K H a ys) ∧ (∀ y ∈ ys, Dp K H y (enc y) ∧ tupOnly (enc y) = true ∧ (enc y).depth ≤ 50) ∧
  PySem.W.AllAlike (ys.map enc) ∧ PySem.W.Sortable (ys.map enc) ∧ ∀ p, H p = none → Q (.ref p) (upd H p (.lst (ys.mergeSort (PySem.W.dataLe false enc))))
theorem cr_sortedD {X : Cx} (hu : X.A.units + 64 < cLine) : CallR X (.builtin "sorted") (rSortD X.K) := by
  intro pins s σ H xs us Q I r h
  obtain ⟨a, ys, enc, rfl, hs, hd, hal, hso, q⟩ := h
  obtain ⟨u0, rfl, ru⟩ := vals1 r
  cases (show u0 = Value.ref a from ru)
  -- the items
  have key : ∀ {T : String} {o : Obj} {its : List Value} {n : Nat}, (T = "list" ∨ T = "tuple") → s.heap.get? a = some o → o.cls = .type T → o.data = .seq its.toArray n → Vals ys its → ys.length ≤ sizeLine →
      wpAny (model X.prog X.w) X.A (call (.builtin "sorted") [.ref a]) (EP X pins σ Q) X.xe s := by
    intro T o its n hT ho hc hdat rv hz
    have hl := rv.length
    refine sorted_seq hT ho hc hdat (by simpa using (by omega : its.length ≤ sizeLine)) fun h' hk => ?_
    rw [List.toList_toArray]
    have hob : (h'.push { cls := .type "list", data := .seq its.toArray }).get? h'.objs.size = some (seqObj "list" its.toArray 0) := Heap.get?_push_size _ rfl
    have kb : ∀ b o, s.heap.get? b = some o → (h'.push { cls := .type "list", data := .seq its.toArray }).get? b = some o := fun b o e => Heap.get?_push_of_some _ (hk b o e)
    have ne0 : ∀ b o, h'.get? b = some o → b ≠ h'.objs.size := fun b o e => Nat.ne_of_lt (Heap.lt_size e)
    have I0 : Inv X pins σ H { s with heap := h' } := I.kept (t' := s.toks) hk
    have hn0 : H h'.objs.size = none := I0.hok.fresh (Nat.le_refl _)
    generalize hh2 : h'.push { cls := .type "list", data := .seq its.toArray } = h2 at hob kb ⊢
    have ka : ∀ b o, h'.get? b = some o → h2.get? b = some o := fun b o e => by rw [← hh2]; exact Heap.get?_push_of_some _ e
    let R : Value → V → Prop := fun v y => RelV y v ∧ y ∈ ys
    have e0 : PySem.W.EachIs R its ys := by
      have gen : ∀ {l : List V} {m : List Value}, Vals l m → (∀ y ∈ l, y ∈ ys) → PySem.W.EachIs R m l := by
        intro l m r
        induction r with
        | nil => exact fun _ => .nil
        | cons h _ ih => exact fun hm => .cons ⟨h, hm _ (List.mem_cons_self ..)⟩ (ih fun y hy => hm y (List.mem_cons_of_mem _ hy))
      exact gen rv fun _ h => h
    have rd : ∀ (v : Value) (y : V), R v y → ∃ rs, Reads h2 v (enc y) rs ∧ h'.objs.size ∉ rs := by
      rintro v y ⟨ry, hy⟩
      obtain ⟨d1, t1, _⟩ := hd y hy
      obtain ⟨a1, q1⟩ := Dp.reads I (enc y) _ _ d1 ry
      have n1 := reads_nil t1 q1
      subst n1
      exact ⟨[], PyProof.Rows.Reads.keeps kb q1, by simp⟩
    refine PySem.W.list_sort_data (A := X.A.in1) (s := { s with heap := h2 }) (R := R) (enc := enc) (bs := ys) hob e0 (PySem.W.EachIs.mono rd e0) hal hso hz (fun b hb => ?_) fun out ho eo => ?_
    · have := (hd b hb).2.2
      show X.A.units + 1 + 1 + (enc b).depth < cLine
      omega
    · show EP X pins σ Q (.ref h'.objs.size) { s with heap := sortedHeap h2 h'.objs.size its out.toArray }
      have kF : ∀ b o, b ≠ h'.objs.size → h2.get? b = some o → (sortedHeap h2 h'.objs.size its out.toArray).get? b = some o := fun b o hb e => (PyProof.Rows.sortedHeap_old hb (Heap.lt_size e)).trans e
      have kS : ∀ b o, s.heap.get? b = some o → (sortedHeap h2 h'.objs.size its out.toArray).get? b = some o := fun b o e => kF b o (ne0 _ _ (hk b o e)) (kb b o e)
      obtain ⟨eF, heF⟩ := PyProof.Rows.sortedHeap_at (vs := its) (out := out.toArray) hob
      have I1 : Inv X pins σ H { s with heap := sortedHeap h2 h'.objs.size its out.toArray } := I.kept (t' := s.toks) kS
      have rv2 : Vals (ys.mergeSort (PySem.W.dataLe false enc)) out.toArray.toList := by
        rw [List.toList_toArray]
        have gen : ∀ {l : List V} {m : List Value}, PySem.W.EachIs R m l → Vals l m := by
          intro l m r
          induction r with
          | nil => exact .nil
          | cons h _ ih => exact .cons h.1 ih
        exact gen eo
      have hlen : (ys.mergeSort (PySem.W.dataLe false enc)).length ≤ sizeLine := by
        rw [List.length_mergeSort]
        exact hz
      have I2 : Inv X pins σ (upd H h'.objs.size (.lst (ys.mergeSort (PySem.W.dataLe false enc)))) { s with heap := sortedHeap h2 h'.objs.size its out.toArray } :=
        I1.take (h' := sortedHeap h2 h'.objs.size its out.toArray) (t' := s.toks) (fun b ob _ e => e) (I0.fpOk (Nat.le_refl _) hn0) ⟨hlen, out.toArray.toList, eF, rv2, heF⟩
      exact ⟨.ref h'.objs.size, _, I2, rfl, q _ hn0⟩
  rcases hs with hs | hs
  · obtain ⟨its, rv, ⟨o, n, ho, hc, _, hdat⟩, hz⟩ := I.list hs
    exact key (.inl rfl) ho hc hdat rv hz
  · obtain ⟨its, rv, ⟨o, ho, hc, n, hdat⟩, hz⟩ := I.tuple hs
    exact key (.inr rfl) ho hc hdat rv hz
theorem k_sortedD {X : Cx} (K : PySem.W.Frag) (hu : X.A.units + 64 < cLine) (hK : X.K = K := by rfl) : CallR X (.builtin "sorted") (rSortD K) := by subst hK; exact cr_sortedD hu
end Lt

set_option Elab.async false
set_option linter.all false
set_option maxRecDepth 100000
set_option maxHeartbeats 4000000
/-! Lt3: reading by a tactic: walk_at "go", walk_at "get". -/
namespace Lt
open PySem PySem.Spec PyProof.Rows L2
theorem get_new {H : Hp} {a p : Addr} {o u : HO} (hp : H p = none) (h : H a = some o) : upd H p u a = some o := by rw [upd_ne (ne_of_none h hp)]; exact h
theorem get_dif {H : Hp} {a p : Addr} {o o' u : HO} (h : H a = some o) (hp : H p = some o') (d : o ≠ o') : upd H p u a = some o := by rw [upd_ne (ne_of h hp d)]; exact h
theorem get_ne {H : Hp} {a p : Addr} {o u : HO} (d : a ≠ p) (h : H a = some o) : upd H p u a = some o := by rw [upd_ne d]; exact h
theorem same_upd {H H' : Hp} {p : Addr} {u : HO} (s : Same H H') (hp : H' p = none) : Same H (upd H' p u) := fun b o e => get_new hp (s b o e)
theorem s_isi {K : PySem.W.Frag} {x : V} {t n : String} {r : Bool} {H : Hp} {Q : VK} (hx : TyX K H x (.type t)) (e : kitB t n = some r) (h : Q (.bl r) H) : rIsi K [x, .ty n] H Q := ⟨x, _, _, _, r, rfl, .ty n, hx, kit_ty e, h⟩
/-- all but what stands at the addresses of S is as it was -/
def Fram (S : Addr → Prop) (H H' : Hp) : Prop := ∀ b o, H b = some o → ¬ S b → H' b = some o
theorem s_isi_non_int {K : PySem.W.Frag} {H : Hp} {Q : VK} (h : Q (.bl false) H) : rIsi K [.non, .ty "int"] H Q := s_isi (r := false) (.base (.non)) (by decide +kernel) h
theorem s_isi_non_bool {K : PySem.W.Frag} {H : Hp} {Q : VK} (h : Q (.bl false) H) : rIsi K [.non, .ty "bool"] H Q := s_isi (r := false) (.base (.non)) (by decide +kernel) h
theorem s_isi_non_str {K : PySem.W.Frag} {H : Hp} {Q : VK} (h : Q (.bl false) H) : rIsi K [.non, .ty "str"] H Q := s_isi (r := false) (.base (.non)) (by decide +kernel) h
theorem s_isi_non_tuple {K : PySem.W.Frag} {H : Hp} {Q : VK} (h : Q (.bl false) H) : rIsi K [.non, .ty "tuple"] H Q := s_isi (r := false) (.base (.non)) (by decide +kernel) h
theorem s_isi_non_list {K : PySem.W.Frag} {H : Hp} {Q : VK} (h : Q (.bl false) H) : rIsi K [.non, .ty "list"] H Q := s_isi (r := false) (.base (.non)) (by decide +kernel) h
theorem s_isi_bl_int {K : PySem.W.Frag} {x : Bool} {H : Hp} {Q : VK} (h : Q (.bl true) H) : rIsi K [(.bl x), .ty "int"] H Q := s_isi (r := true) (.base (.bl _)) (by decide +kernel) h
theorem s_isi_bl_bool {K : PySem.W.Frag} {x : Bool} {H : Hp} {Q : VK} (h : Q (.bl true) H) : rIsi K [(.bl x), .ty "bool"] H Q := s_isi (r := true) (.base (.bl _)) (by decide +kernel) h
theorem s_isi_bl_str {K : PySem.W.Frag} {x : Bool} {H : Hp} {Q : VK} (h : Q (.bl false) H) : rIsi K [(.bl x), .ty "str"] H Q := s_isi (r := false) (.base (.bl _)) (by decide +kernel) h
theorem s_isi_bl_tuple {K : PySem.W.Frag} {x : Bool} {H : Hp} {Q : VK} (h : Q (.bl false) H) : rIsi K [(.bl x), .ty "tuple"] H Q := s_isi (r := false) (.base (.bl _)) (by decide +kernel) h
theorem s_isi_bl_list {K : PySem.W.Frag} {x : Bool} {H : Hp} {Q : VK} (h : Q (.bl false) H) : rIsi K [(.bl x), .ty "list"] H Q := s_isi (r := false) (.base (.bl _)) (by decide +kernel) h
theorem s_isi_int_int {K : PySem.W.Frag} {x : Int} {H : Hp} {Q : VK} (h : Q (.bl true) H) : rIsi K [(.int x), .ty "int"] H Q := s_isi (r := true) (.base (.int _)) (by decide +kernel) h
theorem s_isi_int_bool {K : PySem.W.Frag} {x : Int} {H : Hp} {Q : VK} (h : Q (.bl false) H) : rIsi K [(.int x), .ty "bool"] H Q := s_isi (r := false) (.base (.int _)) (by decide +kernel) h
theorem s_isi_int_str {K : PySem.W.Frag} {x : Int} {H : Hp} {Q : VK} (h : Q (.bl false) H) : rIsi K [(.int x), .ty "str"] H Q := s_isi (r := false) (.base (.int _)) (by decide +kernel) h
theorem s_isi_int_tuple {K : PySem.W.Frag} {x : Int} {H : Hp} {Q : VK} (h : Q (.bl false) H) : rIsi K [(.int x), .ty "tuple"] H Q := s_isi (r := false) (.base (.int _)) (by decide +kernel) h
theorem s_isi_int_list {K : PySem.W.Frag} {x : Int} {H : Hp} {Q : VK} (h : Q (.bl false) H) : rIsi K [(.int x), .ty "list"] H Q := s_isi (r := false) (.base (.int _)) (by decide +kernel) h
theorem s_isi_str_int {K : PySem.W.Frag} {x : Str} {H : Hp} {Q : VK} (h : Q (.bl false) H) : rIsi K [(.str x), .ty "int"] H Q := s_isi (r := false) (.base (.str _)) (by decide +kernel) h
theorem s_isi_str_bool {K : PySem.W.Frag} {x : Str} {H : Hp} {Q : VK} (h : Q (.bl false) H) : rIsi K [(.str x), .ty "bool"] H Q := s_isi (r := false) (.base (.str _)) (by decide +kernel) h
theorem s_isi_str_str {K : PySem.W.Frag} {x : Str} {H : Hp} {Q : VK} (h : Q (.bl true) H) : rIsi K [(.str x), .ty "str"] H Q := s_isi (r := true) (.base (.str _)) (by decide +kernel) h
theorem s_isi_str_tuple {K : PySem.W.Frag} {x : Str} {H : Hp} {Q : VK} (h : Q (.bl false) H) : rIsi K [(.str x), .ty "tuple"] H Q := s_isi (r := false) (.base (.str _)) (by decide +kernel) h
theorem s_isi_str_list {K : PySem.W.Frag} {x : Str} {H : Hp} {Q : VK} (h : Q (.bl false) H) : rIsi K [(.str x), .ty "list"] H Q := s_isi (r := false) (.base (.str _)) (by decide +kernel) h
theorem s_isi_tup_int {K : PySem.W.Frag} {a : Addr} {xs : List V} {H : Hp} {Q : VK} (e : H a = some (.tup xs)) (h : Q (.bl false) H) : rIsi K [.ref a, .ty "int"] H Q := s_isi (r := false) (.base (.tup e)) (by decide +kernel) h
theorem s_isi_tup_bool {K : PySem.W.Frag} {a : Addr} {xs : List V} {H : Hp} {Q : VK} (e : H a = some (.tup xs)) (h : Q (.bl false) H) : rIsi K [.ref a, .ty "bool"] H Q := s_isi (r := false) (.base (.tup e)) (by decide +kernel) h
theorem s_isi_tup_str {K : PySem.W.Frag} {a : Addr} {xs : List V} {H : Hp} {Q : VK} (e : H a = some (.tup xs)) (h : Q (.bl false) H) : rIsi K [.ref a, .ty "str"] H Q := s_isi (r := false) (.base (.tup e)) (by decide +kernel) h
theorem s_isi_tup_tuple {K : PySem.W.Frag} {a : Addr} {xs : List V} {H : Hp} {Q : VK} (e : H a = some (.tup xs)) (h : Q (.bl true) H) : rIsi K [.ref a, .ty "tuple"] H Q := s_isi (r := true) (.base (.tup e)) (by decide +kernel) h
theorem s_isi_tup_list {K : PySem.W.Frag} {a : Addr} {xs : List V} {H : Hp} {Q : VK} (e : H a = some (.tup xs)) (h : Q (.bl false) H) : rIsi K [.ref a, .ty "list"] H Q := s_isi (r := false) (.base (.tup e)) (by decide +kernel) h
theorem s_isi_lst_int {K : PySem.W.Frag} {a : Addr} {xs : List V} {H : Hp} {Q : VK} (e : H a = some (.lst xs)) (h : Q (.bl false) H) : rIsi K [.ref a, .ty "int"] H Q := s_isi (r := false) (.base (.lst e)) (by decide +kernel) h
theorem s_isi_lst_bool {K : PySem.W.Frag} {a : Addr} {xs : List V} {H : Hp} {Q : VK} (e : H a = some (.lst xs)) (h : Q (.bl false) H) : rIsi K [.ref a, .ty "bool"] H Q := s_isi (r := false) (.base (.lst e)) (by decide +kernel) h
theorem s_isi_lst_str {K : PySem.W.Frag} {a : Addr} {xs : List V} {H : Hp} {Q : VK} (e : H a = some (.lst xs)) (h : Q (.bl false) H) : rIsi K [.ref a, .ty "str"] H Q := s_isi (r := false) (.base (.lst e)) (by decide +kernel) h
theorem s_isi_lst_tuple {K : PySem.W.Frag} {a : Addr} {xs : List V} {H : Hp} {Q : VK} (e : H a = some (.lst xs)) (h : Q (.bl false) H) : rIsi K [.ref a, .ty "tuple"] H Q := s_isi (r := false) (.base (.lst e)) (by decide +kernel) h
theorem s_isi_lst_list {K : PySem.W.Frag} {a : Addr} {xs : List V} {H : Hp} {Q : VK} (e : H a = some (.lst xs)) (h : Q (.bl true) H) : rIsi K [.ref a, .ty "list"] H Q := s_isi (r := true) (.base (.lst e)) (by decide +kernel) h
theorem s_isi_dK_int {K : PySem.W.Frag} {a : Addr} {xs : List (Key × V)} {H : Hp} {Q : VK} (e : H a = some (.dK xs)) (h : Q (.bl false) H) : rIsi K [.ref a, .ty "int"] H Q := s_isi (r := false) (.base (.dK e)) (by decide +kernel) h
theorem s_isi_dK_bool {K : PySem.W.Frag} {a : Addr} {xs : List (Key × V)} {H : Hp} {Q : VK} (e : H a = some (.dK xs)) (h : Q (.bl false) H) : rIsi K [.ref a, .ty "bool"] H Q := s_isi (r := false) (.base (.dK e)) (by decide +kernel) h
theorem s_isi_dK_str {K : PySem.W.Frag} {a : Addr} {xs : List (Key × V)} {H : Hp} {Q : VK} (e : H a = some (.dK xs)) (h : Q (.bl false) H) : rIsi K [.ref a, .ty "str"] H Q := s_isi (r := false) (.base (.dK e)) (by decide +kernel) h
theorem s_isi_dK_tuple {K : PySem.W.Frag} {a : Addr} {xs : List (Key × V)} {H : Hp} {Q : VK} (e : H a = some (.dK xs)) (h : Q (.bl false) H) : rIsi K [.ref a, .ty "tuple"] H Q := s_isi (r := false) (.base (.dK e)) (by decide +kernel) h
theorem s_isi_dK_list {K : PySem.W.Frag} {a : Addr} {xs : List (Key × V)} {H : Hp} {Q : VK} (e : H a = some (.dK xs)) (h : Q (.bl false) H) : rIsi K [.ref a, .ty "list"] H Q := s_isi (r := false) (.base (.dK e)) (by decide +kernel) h
theorem s_chain {r r' : R2} {ta tb tc : TE} {σ : L2.St} {H : Hp} {Q : VK} (h : ta σ H fun x H1 => tb σ H1 fun y H2 => r x y H2 fun z H3 => ∃ k, z = .bl k ∧ (if k = true then tc σ H3 fun w' H4 => r' y w' H4 Q else Q (.bl false) H3)) : tChain r r' ta tb tc σ H Q := h
theorem and_if {p : Bool} {c : Bool} {H : Hp} {Q : VK} (h : Q (.bl (p && c)) H) : if p = true then Q (.bl c) H else Q (.bl false) H := by
  cases p
  · rw [if_neg Bool.false_ne_true]; exact h
  · rw [if_pos rfl]; exact h
theorem s_ex2 {i j : Int} {F : Int → Int → Prop} (h : F i j) : ∃ i' j' : Int, [V.int i, V.int j] = [V.int i', V.int j'] ∧ F i' j' := ⟨i, j, rfl, h⟩
theorem ite_max (i j : Int) : (if j > i then j else i) = max i j := by by_cases h : j > i <;> simp [h, Int.max_def] <;> omega
theorem ite_min (i j : Int) : (if j < i then j else i) = min i j := by by_cases h : j < i <;> simp [h, Int.min_def] <;> omega
theorem start_of {t : TS} {N : List Str} {vs : List V} {H : Hp} {n : L2.St → Hp → Prop} {R : VK} {σ : L2.St} (e : start N vs = σ) (h : t ⟨n, R, fun _ _ => False, fun _ _ => False⟩ σ H) : t { nx := n, rt := R } (start N vs) H := by
  rw [e]
  exact h
/-! ### pairs of ints: tuples of tuples, dicts from ints to ints -/
/-- at each address its pair -/
def PairsAt (H : Hp) (as : List Addr) (ps : List (Int × Int)) : Prop := Paired (fun a (p : Int × Int) => H a = some (.tup [.int p.1, .int p.2])) as ps
theorem PairsAt.same {H H' : Hp} {as : List Addr} {ps : List (Int × Int)} (s : Same H H') (h : PairsAt H as ps) : PairsAt H' as ps := Paired.mapP h fun _ _ e => s _ _ e
theorem pairAll {α β : Type} {R : α → β → Prop} {as : List α} {bs : List β} (h : Paired R as bs) : as.length = bs.length ∧ ∀ (i : Nat) (a : α), as[i]? = some a → ∃ b, bs[i]? = some b ∧ R a b := by
  refine ⟨Paired.length h, ?_⟩
  induction h with
  | nil => intro i a h; simp at h
  | cons h _ ih =>
    intro i a e
    cases i with
    | zero =>
      have : _ = a := Option.some.inj e
      subst this
      exact ⟨_, rfl, h⟩
    | succ i =>
      obtain ⟨b, h1, h2⟩ := ih i a (by simpa using e)
      exact ⟨b, by simpa using h1, h2⟩
theorem refs_get {as : List Addr} {i : Nat} {x : V} (h : (as.map V.ref)[i]? = some x) : ∃ a, as[i]? = some a ∧ x = .ref a := by
  rw [List.getElem?_map] at h
  cases e : as[i]? with
  | none => rw [e] at h; cases h
  | some a => rw [e] at h; exact ⟨a, rfl, (Option.some.inj h).symm⟩
theorem map_get {α : Type} {f : α → V} {as : List α} {i : Nat} {x : V} (h : (as.map f)[i]? = some x) : ∃ a, as[i]? = some a ∧ x = f a := by
  rw [List.getElem?_map] at h
  cases e : as[i]? with
  | none => rw [e] at h; cases h
  | some a => rw [e] at h; exact ⟨a, rfl, (Option.some.inj h).symm⟩
theorem take_succ_of {α : Type} {l : List α} {i : Nat} {x : α} (h : l[i]? = some x) : l.take (i + 1) = l.take i ++ [x] := by
  rw [List.take_add_one, h]; rfl
def kvI (ps : List (Int × Int)) : List (Key × V) := ps.map fun p => (Sum.inl p.1, V.int p.2)
def lookI (ps : List (Int × Int)) (k : Int) : Option Int := (ps.find? fun p => decide (p.1 = k)).map (·.2)
def putI (ps : List (Int × Int)) (k v : Int) : List (Int × Int) := if (ps.any fun p => decide (p.1 = k)) = true then ps.map (fun p => if p.1 = k then (p.1, v) else p) else ps ++ [(k, v)]
theorem kvI_len (ps : List (Int × Int)) : (kvI ps).length = ps.length := List.length_map _
theorem kvI_val (ps : List (Int × Int)) (k : Int) : valV (kvI ps) (Sum.inl k) = (lookI ps k).map V.int := by
  induction ps with
  | nil => rfl
  | cons p ps ih =>
    by_cases e : p.1 = k
    · have e2 : ((Sum.inl p.1 : Key), V.int p.2).1 = Sum.inl k := by rw [← e]
      show valV (((Sum.inl p.1 : Key), V.int p.2) :: kvI ps) _ = _
      rw [valV_pos e2]
      simp [lookI, List.find?_cons, e]
    · have e2 : ¬ ((Sum.inl p.1 : Key), V.int p.2).1 = Sum.inl k := fun z => e (Sum.inl.inj z)
      show valV (((Sum.inl p.1 : Key), V.int p.2) :: kvI ps) _ = _
      rw [valV_neg e2, ih]
      simp [lookI, List.find?_cons, e]
theorem kvI_put (ps : List (Int × Int)) (k v : Int) : putK (kvI ps) (Sum.inl k) (.int v) = kvI (putI ps k v) := by
  have ha : ((kvI ps).any fun kv => decide (kv.1 = (Sum.inl k : Key))) = ps.any fun p => decide (p.1 = k) := by
    unfold kvI
    rw [List.any_map]
    congr 1
    funext p
    show decide ((Sum.inl p.1 : Key) = Sum.inl k) = decide (p.1 = k)
    rw [Bool.eq_iff_iff]
    simp
  unfold putK putI
  rw [ha]
  by_cases h : (ps.any fun p => decide (p.1 = k)) = true
  · rw [if_pos h, if_pos h]
    unfold kvI
    rw [List.map_map, List.map_map]
    congr 1
    funext p
    show (if (Sum.inl p.1 : Key) = Sum.inl k then ((Sum.inl p.1 : Key), V.int v) else ((Sum.inl p.1 : Key), V.int p.2)) = _
    by_cases e : p.1 = k
    · rw [if_pos (by rw [e])]; simp [e]
    · rw [if_neg (fun z => e (Sum.inl.inj z))]; simp [e]
  · rw [if_neg h, if_neg h]
    unfold kvI
    rw [List.map_append]
    rfl
/-- a dict comprehension over the items of a dict that stands still -/
theorem dc_items {d : Addr} {o : Obj} {kvs : List (Key × V)} {g : TG} {tt : TT} {tk tv : TE} {vs : List Nat} {σ : L2.St} {H1 : Hp} {D : Addr} {Qd : Hp → Prop} (Pv : Nat → Hp → Prop) (h0 : Pv 0 (upd H1 D (.dK []))) (hl : ∀ i H, i ≤ kvs.length → Pv i H → H d = some (.frz o (.dK kvs)))
    (hs : ∀ i k v T H, kvs[i]? = some (k, v) → Pv i H → H T = none → g (.ref T) (wipe σ vs) (upd H T (.tup [kV k, v])) fun σ2 H2 => wipe σ2 vs = wipe σ vs ∧ tt σ2 H2 fun b H3 =>
      if b = true then tk σ2 H3 fun y H4 => tv σ2 H4 fun z H5 => ∃ kvs k, y = kV k ∧ H5 D = some (.dK kvs) ∧ kvs.length < sizeLine ∧ Pv (i + 1) (upd H5 D (.dK (putK kvs k z))) else Pv (i + 1) H3) (hd : ∀ H, Pv kvs.length H → Qd H) :
    ∃ W : Nat → Nat → Hp → Prop, (∃ m, W 0 m (upd H1 D (.dK []))) ∧ ∀ i m H, W i m H →
      ((Iti d o kvs).stop i H ∧ Qd H) ∨ ((Iti d o kvs).go i H ∧ ∃ Nx : Hp → Prop, (∀ H', Nx H' → ∃ m', m' < m ∧ W (i + 1) m' H') ∧ ∀ x H', (Iti d o kvs).yld i H x H' → g x (wipe σ vs) H' fun σ2 H2 => wipe σ2 vs = wipe σ vs ∧ tt σ2 H2 fun b H3 =>
        if b = true then tk σ2 H3 fun y H4 => tv σ2 H4 fun z H5 => ∃ kvs k, y = kV k ∧ H5 D = some (.dK kvs) ∧ kvs.length < sizeLine ∧ Nx (upd H5 D (.dK (putK kvs k z))) else Nx H3) := by
  refine ⟨fun i m H => m = kvs.length - i ∧ i ≤ kvs.length ∧ Pv i H, ⟨kvs.length, by simp, Nat.zero_le _, h0⟩, ?_⟩
  rintro i m H ⟨rfl, hi, p⟩
  have q := hl i H hi p
  by_cases hlt : i < kvs.length
  · refine .inr ⟨⟨q, hlt⟩, Pv (i + 1), fun H' p' => ⟨kvs.length - (i + 1), by omega, rfl, hlt, p'⟩, fun x H' y => ?_⟩
    obtain ⟨T, k, v, hk, rfl, hT, rfl⟩ := y
    exact hs i k v T H hk p hT
  · have e : i = kvs.length := by omega
    subst e
    exact .inl ⟨⟨q, Nat.le_refl _⟩, hd H p⟩
theorem len1000 {n : Nat} (h : Nat.ble (n + 1) 1000 = true) : n < 1000 := Nat.le_of_ble_eq_true h
theorem lenLine {n : Nat} (h : Nat.ble n 1000 = true) : n ≤ sizeLine := Nat.le_trans (Nat.le_of_ble_eq_true h) (by decide)
theorem s_dc {wi : TI} {g : TG} {tt : TT} {tk tv : TE} {vs : List Nat} {σ : L2.St} {H : Hp} {Q : VK} (h : wi σ H fun J H1 => ∀ D, H1 D = none → ∃ W : Nat → Nat → Hp → Prop, (∃ m, W 0 m (upd H1 D (.dK []))) ∧ ∀ i m H, W i m H →
  (J.stop i H ∧ Q (.ref D) H) ∨ (J.go i H ∧ ∃ Nx : Hp → Prop, (∀ H', Nx H' → ∃ m', m' < m ∧ W (i + 1) m' H') ∧ ∀ x H', J.yld i H x H' → g x (wipe σ vs) H' fun σ2 H2 => wipe σ2 vs = wipe σ vs ∧ tt σ2 H2 fun b H3 =>
    if b = true then tk σ2 H3 fun y H4 => tv σ2 H4 fun z H5 => ∃ kvs k, y = kV k ∧ H5 D = some (.dK kvs) ∧ kvs.length < sizeLine ∧ Nx (upd H5 D (.dK (putK kvs k z))) else Nx H3)) : tDc wi g tt tk tv vs σ H Q := h
theorem s_lc {wi : TI} {g : TG} {tt : TT} {te : TE} {vs : List Nat} {σ : L2.St} {H : Hp} {Q : VK} (h : wi σ H fun J H1 => ∀ D, H1 D = none → ∃ W : Nat → Nat → Hp → Prop, (∃ m, W 0 m (upd H1 D (.lst []))) ∧ ∀ i m H, W i m H →
  (J.stop i H ∧ Q (.ref D) H) ∨ (J.go i H ∧ ∃ Nx : Hp → Prop, (∀ H', Nx H' → ∃ m', m' < m ∧ W (i + 1) m' H') ∧ ∀ x H', J.yld i H x H' → g x (wipe σ vs) H' fun σ2 H2 => wipe σ2 vs = wipe σ vs ∧ tt σ2 H2 fun b H3 =>
    if b = true then te σ2 H3 fun y H4 => ∃ acc, H4 D = some (.lst acc) ∧ acc.length < sizeLine ∧ Nx (upd H4 D (.lst (acc ++ [y]))) else Nx H3)) : tLc wi g tt te vs σ H Q := h
theorem s_iitems {td : TE} {σ : L2.St} {H : Hp} {R : It → Hp → Prop} (h : td σ H fun x H1 => ∃ d o kvs, x = .ref d ∧ H1 d = some (.frz o (.dK kvs)) ∧ R (Iti d o kvs) H1) : iItems td σ H R := h
theorem s_ikeys {td : TE} {σ : L2.St} {H : Hp} {R : It → Hp → Prop} (h : td σ H fun x H1 => ∃ d o, x = .ref d ∧ ((∃ kvs, H1 d = some (.frz o (.dK kvs)) ∧ R (Itk d o kvs) H1) ∨ ∃ kvs, H1 d = some (.frz o (.dT kvs)) ∧ R (Itkt d o kvs) H1)) : iKeys td σ H R := h
theorem s_lockE {t : TE} {σ : L2.St} {H : Hp} {Q : VK} {d : Addr} {u : HO} (h1 : H d = some u) (h2 : Mut (some u)) (h : ∀ od, t σ (upd H d (.frz od u)) fun v H' => H' d = some (.frz od u) ∧ Q v (upd H' d u)) : tLockE t σ H Q := ⟨d, u, h1, h2, h⟩
theorem same_back {H H' : Hp} {d : Addr} {u v : HO} (hd : H d = some u) (s : Same (upd H d v) H') : Same H (upd H' d u) := fun b o e => by
  by_cases hb : b = d
  · subst hb
    rw [hd] at e
    rw [upd_same, e]
  · rw [upd_ne hb]
    exact s b o (by rw [upd_ne hb]; exact e)
theorem f_list {K : PySem.W.Frag} {a : Addr} {xs : List V} {g : TG} {tb : TS} {n : L2.St → Hp → Prop} {R : VK} {σ : L2.St} {H : Hp} (Pv : Nat → L2.St → Hp → Prop) (h0 : Pv 0 σ H) (hl : ∀ i σ H, i ≤ xs.length → Pv i σ H → SqL K H a xs)
    (hs : ∀ i x σ H, xs[i]? = some x → Pv i σ H → g x σ H fun σ2 H2 => tb ⟨Pv (i + 1), R, n, Pv (i + 1)⟩ σ2 H2) (hd : ∀ σ H, Pv xs.length σ H → n σ H) :
    ∃ W : Nat → Nat → L2.St → Hp → Prop, (∃ m, W 0 m σ H) ∧ ∀ i m σ H, W i m σ H →
      ((Itl K a).stop i H ∧ n σ H) ∨ ((Itl K a).go i H ∧ ∃ N : L2.St → Hp → Prop, (∀ σ' H', N σ' H' → ∃ m', m' < m ∧ W (i + 1) m' σ' H') ∧ ∀ x H', (Itl K a).yld i H x H' → g x σ H' fun σ2 H2 => tb ⟨N, R, n, N⟩ σ2 H2) :=
  for_list (D := ⟨n, R, fun _ _ => False, fun _ _ => False⟩) Pv h0 hl hs hd
theorem f_tup {K : PySem.W.Frag} {a : Addr} {xs : List V} {g : TG} {tb : TS} {n : L2.St → Hp → Prop} {R : VK} {σ : L2.St} {H : Hp} (Pv : Nat → L2.St → Hp → Prop) (h0 : Pv 0 σ H) (hl : ∀ i σ H, i ≤ xs.length → Pv i σ H → SqT K H a xs)
    (hs : ∀ i x σ H, xs[i]? = some x → Pv i σ H → g x σ H fun σ2 H2 => tb ⟨Pv (i + 1), R, n, Pv (i + 1)⟩ σ2 H2) (hd : ∀ σ H, Pv xs.length σ H → n σ H) :
    ∃ W : Nat → Nat → L2.St → Hp → Prop, (∃ m, W 0 m σ H) ∧ ∀ i m σ H, W i m σ H →
      ((Itt K a).stop i H ∧ n σ H) ∨ ((Itt K a).go i H ∧ ∃ N : L2.St → Hp → Prop, (∀ σ' H', N σ' H' → ∃ m', m' < m ∧ W (i + 1) m' σ' H') ∧ ∀ x H', (Itt K a).yld i H x H' → g x σ H' fun σ2 H2 => tb ⟨N, R, n, N⟩ σ2 H2) :=
  for_tup (D := ⟨n, R, fun _ _ => False, fun _ _ => False⟩) Pv h0 hl hs hd
theorem f_range {lo : Int} {k : Nat} {g : TG} {tb : TS} {n : L2.St → Hp → Prop} {R : VK} {σ : L2.St} {H : Hp} (Pv : Nat → L2.St → Hp → Prop) (h0 : Pv 0 σ H)
    (hs : ∀ i σ H, i < k → Pv i σ H → g (.int (lo + i)) σ H fun σ2 H2 => tb ⟨Pv (i + 1), R, n, Pv (i + 1)⟩ σ2 H2) (hd : ∀ σ H, Pv k σ H → n σ H) :
    ∃ W : Nat → Nat → L2.St → Hp → Prop, (∃ m, W 0 m σ H) ∧ ∀ i m σ H, W i m σ H →
      ((Itr lo k).stop i H ∧ n σ H) ∨ ((Itr lo k).go i H ∧ ∃ N : L2.St → Hp → Prop, (∀ σ' H', N σ' H' → ∃ m', m' < m ∧ W (i + 1) m' σ' H') ∧ ∀ x H', (Itr lo k).yld i H x H' → g x σ H' fun σ2 H2 => tb ⟨N, R, n, N⟩ σ2 H2) :=
  for_range (D := ⟨n, R, fun _ _ => False, fun _ _ => False⟩) Pv h0 hs hd
theorem f_keys {d : Addr} {o : Obj} {kvs : List (Key × V)} {g : TG} {tb : TS} {n : L2.St → Hp → Prop} {R : VK} {σ : L2.St} {H : Hp} (Pv : Nat → L2.St → Hp → Prop) (h0 : Pv 0 σ H) (hl : ∀ i σ H, i ≤ kvs.length → Pv i σ H → H d = some (.frz o (.dK kvs)))
    (hs : ∀ i k v σ H, kvs[i]? = some (k, v) → Pv i σ H → g (kV k) σ H fun σ2 H2 => tb ⟨Pv (i + 1), R, n, Pv (i + 1)⟩ σ2 H2) (hd : ∀ σ H, Pv kvs.length σ H → n σ H) :
    ∃ W : Nat → Nat → L2.St → Hp → Prop, (∃ m, W 0 m σ H) ∧ ∀ i m σ H, W i m σ H →
      ((Itk d o kvs).stop i H ∧ n σ H) ∨ ((Itk d o kvs).go i H ∧ ∃ N : L2.St → Hp → Prop, (∀ σ' H', N σ' H' → ∃ m', m' < m ∧ W (i + 1) m' σ' H') ∧ ∀ x H', (Itk d o kvs).yld i H x H' → g x σ H' fun σ2 H2 => tb ⟨N, R, n, N⟩ σ2 H2) := by
  refine ⟨fun i m σ H => m = kvs.length - i ∧ i ≤ kvs.length ∧ Pv i σ H, ⟨kvs.length, by simp, Nat.zero_le _, h0⟩, ?_⟩
  rintro i m σ H ⟨rfl, hi, p⟩
  have q := hl i σ H hi p
  by_cases hlt : i < kvs.length
  · refine .inr ⟨⟨q, hlt⟩, Pv (i + 1), fun σ' H' p' => ⟨kvs.length - (i + 1), by omega, rfl, hlt, p'⟩, fun x H' y => ?_⟩
    obtain ⟨rfl, k, v, hk, rfl⟩ := y
    exact hs i k v σ _ hk p
  · have e : i = kvs.length := by omega
    subst e
    exact .inl ⟨⟨q, Nat.le_refl _⟩, hd σ H p⟩
def rIntOf : List V → Hp → VK → Prop := fun xs H Q => (∃ i, xs = [.int i] ∧ Q (.int i) H) ∨ ∃ k, xs = [.bl k] ∧ Q (.int (if k then 1 else 0)) H
theorem k_int {X : Cx} : CallR X (.type "int") rIntOf := call_int1
theorem s_intI {i : Int} {H : Hp} {Q : VK} (h : Q (.int i) H) : rIntOf [.int i] H Q := .inl ⟨i, rfl, h⟩
theorem s_intB {k : Bool} {H : Hp} {Q : VK} (h : Q (.int (if k then 1 else 0)) H) : rIntOf [.bl k] H Q := .inr ⟨k, rfl, h⟩
theorem s_mod {i j : Int} {g : Int → Int → V} {H : Hp} {Q : VK} (hj : 0 < j) (h : Q (g i j) H) : rI (fun _ j => 0 < j) g (.int i) (.int j) H Q := ⟨i, j, rfl, rfl, hj, h⟩
theorem s_fdiv {i j : Int} {g : Int → Int → V} {H : Hp} {Q : VK} (hj : 0 < j ∧ j < 2 ^ 62) (h : Q (g i j) H) : rI CDivW g (.int i) (.int j) H Q := ⟨i, j, rfl, rfl, wide_div (b := 62) hj.1 (by omega) (by decide) (by decide), h⟩
theorem s_pow {i j : Int} {g : Int → Int → V} {H : Hp} {Q : VK} (hj : 0 ≤ j ∧ j ≤ 1000000 ∧ i.natAbs < 2 ^ 64) (h : Q (g i j) H) : rI CPow g (.int i) (.int j) H Q := ⟨i, j, rfl, rfl, hj, h⟩
theorem cut_ints (ns : List Int) (lo hi : Option Int) : ∃ ms : List Int, cutV (ns.map V.int) lo hi = ms.map V.int ∧ ms.length ≤ ns.length := by
  refine ⟨(ns.drop (HT.sIx ns.length 0 lo)).take (HT.sIx ns.length ns.length hi - HT.sIx ns.length 0 lo), ?_, ?_⟩
  · unfold cutV
    rw [List.length_map, List.map_take, List.map_drop]
  · rw [List.length_take, List.length_drop]
    omega
/-- a comprehension over a list of ints, without a test -/
theorem lc_ints {K : PySem.W.Frag} {a : Addr} {ns : List Int} {i : Nat} {te : TE} {σ : L2.St} {H1 : Hp} {D : Addr} {Qd : Hp → Prop} (gv : Int → Int)
    (hs : SqL K H1 a (ns.map V.int)) (hl : ns.length ≤ 900) (hD : H1 D = none) (wp : ∀ x : Int, wipe ((wipe σ [i]).set i (some (.int x))) [i] = wipe σ [i])
    (re : ∀ (x : Int) (H : Hp) (Q : VK), Q (.int (gv x)) H → te ((wipe σ [i]).set i (some (.int x))) H Q)
    (hd : ∀ H, Same H1 H → H D = some (.lst ((ns.map gv).map V.int)) → Qd H) :
    ∃ W : Nat → Nat → Hp → Prop, (∃ m, W 0 m (upd H1 D (.lst []))) ∧ ∀ n m H, W n m H →
      ((Itl K a).stop n H ∧ Qd H) ∨ ((Itl K a).go n H ∧ ∃ Nx : Hp → Prop, (∀ H', Nx H' → ∃ m', m' < m ∧ W (n + 1) m' H') ∧ ∀ x H', (Itl K a).yld n H x H' → gName i x (wipe σ [i]) H' fun σ2 H2 => wipe σ2 [i] = wipe σ [i] ∧ tYes σ2 H2 fun b H3 =>
        if b = true then te σ2 H3 fun y H4 => ∃ acc, H4 D = some (.lst acc) ∧ acc.length < sizeLine ∧ Nx (upd H4 D (.lst (acc ++ [y]))) else Nx H3) := by
  refine lc_list (xs := ns.map V.int) (fun n H => Same H1 H ∧ H D = some (.lst (((ns.take n).map gv).map V.int))) ⟨same_upd (Same.refl _) hD, upd_same⟩ (fun n H _ z => z.1.seq hs) ?_ ?_
  · rintro n x H hn ⟨s1, hDn⟩
    obtain ⟨y, hy, rfl⟩ := map_get hn
    refine s_gname ⟨wp y, ?_⟩
    refine s_yes (s_ifT rfl ?_)
    have nlt : n < ns.length := (List.getElem?_eq_some_iff.mp hy).1
    refine re y _ _ ⟨_, hDn, small1000 (by rw [List.length_map, List.length_map, List.length_take]; omega), ?_, ?_⟩
    · intro b o e
      rw [upd_ne (ne_of_none e hD)]
      exact s1 _ _ e
    · rw [upd_same, take_succ_of hy]
      simp
  · rintro H ⟨s1, hDn⟩
    rw [List.length_map, List.take_length] at hDn
    exact hd H s1 hDn
theorem s_setL {p : Addr} {xs : List V} {k : Int} {j : Nat} {v : V} {H : Hp} {F : Hp → Prop} (h0 : H p = some (.lst xs)) (hj : ixN xs.length k = some j) (h : F (upd H p (.lst (xs.set j v)))) : rSetL (.ref p) (.int k) v H F := ⟨p, xs, k, j, rfl, rfl, h0, hj, h⟩
theorem ixN_ok {n : Nat} {k : Int} (h0 : 0 ≤ k) (h1 : k < n) : ixN n k = some k.toNat := by unfold ixN; rw [if_pos h0, if_pos h1]
theorem atI_ok {α : Type} {xs : List α} {i : Int} (h0 : 0 ≤ i) (h1 : i < xs.length) : ∃ v, xs[i.toNat]? = some v ∧ atI xs i = some v := by
  have hl : i.toNat < xs.length := by omega
  refine ⟨xs[i.toNat], List.getElem?_eq_getElem hl, ?_⟩
  have := atI_nat (xs := xs) (j := i.toNat) (List.getElem?_eq_getElem hl)
  rwa [Int.toNat_of_nonneg h0] at this
theorem atI_map {α : Type} {f : α → V} {xs : List α} {i : Int} {v : α} (h : atI xs i = some v) : atI (xs.map f) i = some (f v) := by
  unfold atI at h ⊢
  rw [List.length_map]
  cases e : ixN xs.length i with
  | none => rw [e] at h; cases h
  | some j =>
    rw [e] at h
    have h' : xs[j]? = some v := h
    show (xs.map f)[j]? = some (f v)
    rw [List.getElem?_map, h']
    rfl
/-! ### lists and tuples of ints as data -/
theorem dpInts {K : PySem.W.Frag} {H : Hp} : ∀ ns : List Int, DpAll K H (ns.map V.int) (ns.map PyData.int)
  | [] => .nil
  | n :: ns => .cons (.int n) (dpInts ns)
theorem lay_ints : ∀ ns : List Int, PyData.canLayAll0 (ns.map PyData.int) = true
  | [] => rfl
  | n :: ns => by
    show (PyData.canLay0 (.int n) && PyData.canLayAll0 (ns.map PyData.int)) = true
    rw [lay_ints ns]
    rfl
theorem shaped_ints (ns : List Int) : SeqAt.shaped (.list (ns.map .int)) = true := by
  have d : (PyData.list (ns.map .int)).depth ≤ 64 := by
    simp [PyData.depth, PySem.W.depth_ints]
  unfold SeqAt.shaped
  rw [decide_eq_true d, Bool.and_true]
  exact lay_ints ns
theorem s_neSame {K : PySem.W.Frag} {p q : Addr} {ns : List Int} {H : Hp} {Q : VK} (h1 : SqL K H p (ns.map V.int)) (h2 : SqL K H q (ns.map V.int)) (h : Q (.bl false) H) : rNe3 K (.ref p) (.ref q) H Q := by
  refine s_neD (.lst h1 (dpInts ns)) (.lst h2 (dpInts ns)) (shaped_ints ns) (shaped_ints ns) ?_
  rw [SeqAt.eqv_refl _ (SeqAt.canLay_of_shaped (shaped_ints ns))]
  exact h
theorem inV_ints (x : Int) (ns : List Int) : inV (.int x) (ns.map V.int) = decide (x ∈ ns) := by
  unfold inV
  rw [List.any_map, Bool.eq_iff_iff]
  simp only [List.any_eq_true, Function.comp, decide_eq_true_eq]
  constructor
  · rintro ⟨y, hy, e⟩
    have : y = x := by simpa [eqV] using e
    rw [← this]; exact hy
  · intro hx
    exact ⟨x, hx, by simp [eqV]⟩
theorem flat_ints (ns : List Int) : (ns.map V.int).all flatV = true := by
  rw [List.all_map, List.all_eq_true]
  intro x _
  rfl
/-! ### dict(..), list(a dict) -/
theorem merge_nodup : ∀ (ls acc : List (Int × Int)), ((acc ++ ls).map (·.1)).Nodup → mergeK (kvI acc) (kvI ls) = kvI (acc ++ ls)
  | [], acc, _ => by rw [List.append_nil]; rfl
  | x :: ls, acc, h => by
    have e : mergeK (kvI acc) (kvI (x :: ls)) = mergeK (putK (kvI acc) (Sum.inl x.1) (.int x.2)) (kvI ls) := rfl
    have n : (acc.any fun p => decide (p.1 = x.1)) = false := by
      rw [List.any_eq_false]
      intro y hy
      simp only [decide_eq_true_eq]
      intro e
      rw [List.map_append, List.nodup_append] at h
      exact h.2.2 y.1 (List.mem_map.mpr ⟨y, hy, rfl⟩) x.1 (by simp) e
    have e2 : putI acc x.1 x.2 = acc ++ [x] := by
      unfold putI
      rw [if_neg (by rw [n]; exact Bool.false_ne_true)]
    rw [e, kvI_put, e2, merge_nodup ls (acc ++ [x]) (by rw [List.append_assoc]; exact h), List.append_assoc]
    rfl
theorem s_dictT {K : PySem.W.Frag} {a : Addr} {as : List Addr} {ss : List (Int × Int)} {H : Hp} {Q : VK} (h1 : FzT H a (as.map V.ref)) (h2 : PairsAt H as ss) (nd : (ss.map (·.1)).Nodup) (h : ∀ p, H p = none → Q (.ref p) (upd H p (.dK (kvI ss)))) : rDictT K [.ref a] H Q := by
  refine ⟨a, as, kvI ss, rfl, h1, ?_, fun p hp => ?_⟩
  · unfold kvI
    have gen : ∀ {as : List Addr} {ss : List (Int × Int)}, PairsAt H as ss → Paired (fun p (kv : Key × V) => SqT K H p [kV kv.1, kv.2]) as (ss.map fun p => ((Sum.inl p.1 : Key), V.int p.2)) := by
      intro as ss h
      induction h with
      | nil => exact .nil
      | cons h _ ih => exact .cons (SqT.of h) ih
    exact gen h2
  · have := merge_nodup ss [] (by simpa using nd)
    rw [show mergeK [] (kvI ss) = kvI ss from this]
    exact h p hp
theorem k_dictT {X : Cx} (K : PySem.W.Frag) (hc : X.calm = true) (hK : X.K = K := by rfl) : CallR X (.type "dict") (rDictT K) := by subst hK; exact call_dictT hc
def rListD : List V → Hp → VK → Prop := fun xs H Q => ∃ (a : Addr) (kvs : List (Key × V)), xs = [.ref a] ∧ Rd H a (.dK kvs) ∧ ∀ p, H p = none → Q (.ref p) (upd H p (.lst (kvs.map fun kv => kV kv.1)))
theorem k_listD {X : Cx} (hc : X.calm = true) : CallR X (.type "list") rListD := call_listD hc
theorem s_listD {a : Addr} {ss : List (Int × Int)} {H : Hp} {Q : VK} (h1 : H a = some (.dK (kvI ss))) (h : ∀ p, H p = none → Q (.ref p) (upd H p (.lst ((ss.map (·.1)).map V.int)))) : rListD [.ref a] H Q := by
  refine ⟨a, _, rfl, .inl h1, fun p hp => ?_⟩
  have e : (kvI ss).map (fun kv => kV kv.1) = (ss.map (·.1)).map V.int := by
    unfold kvI
    rw [List.map_map, List.map_map]
    rfl
  rw [e]
  exact h p hp
theorem s_listS {K : PySem.W.Frag} {a : Addr} {xs : List V} {H : Hp} {Q : VK} (h1 : SqL K H a xs ∨ SqT K H a xs) (h : ∀ p, H p = none → Q (.ref p) (upd H p (.lst xs))) : rListOf K [.ref a] H Q := ⟨a, xs, rfl, h1, h⟩
theorem s_sortI {K : PySem.W.Frag} {a : Addr} {ns : List Int} {H : Hp} {Q : VK} (h1 : SqL K H a (ns.map V.int)) (h : ∀ (ms : List Int) (p : Addr), ms.Perm ns → ms.Pairwise (· ≤ ·) → H p = none → Q (.ref p) (upd H p (.lst (ms.map V.int)))) : rSortedI K [.ref a] H Q := ⟨a, ns, rfl, h1, h⟩
theorem sorted_eq {a b : List Int} (h : a.Perm b) (ha : a.Pairwise (· ≤ ·)) (hb : b.Pairwise (· ≤ ·)) : a = b := List.Perm.eq_of_pairwise (fun _ _ _ _ h1 h2 => Int.le_antisymm h1 h2) ha hb h
def encI : V → PyData := fun v => match v with
  | .int i => .int i
  | _ => .none
theorem s_sortDI {K : PySem.W.Frag} {a : Addr} {ns : List Int} {H : Hp} {Q : VK} (h1 : SqL K H a (ns.map V.int) ∨ SqT K H a (ns.map V.int)) (h : ∀ (ms : List Int) (p : Addr), ms.Perm ns → ms.Pairwise (· ≤ ·) → H p = none → Q (.ref p) (upd H p (.lst (ms.map V.int)))) : rSortD K [.ref a] H Q := by
  refine ⟨a, _, encI, rfl, h1, fun y hy => ?_, ?_, ?_, fun p hp => ?_⟩
  · obtain ⟨x, _, rfl⟩ := List.mem_map.mp hy
    exact ⟨.int _, rfl, by show PyData.depth (.int x) ≤ 50; simp [PyData.depth]⟩
  · intro d hd d' hd'
    obtain ⟨y, hy, rfl⟩ := List.mem_map.mp hd
    obtain ⟨y', hy', rfl⟩ := List.mem_map.mp hd'
    obtain ⟨x, _, rfl⟩ := List.mem_map.mp hy
    obtain ⟨x', _, rfl⟩ := List.mem_map.mp hy'
    rfl
  · refine .inr fun d hd => ?_
    obtain ⟨y, hy, rfl⟩ := List.mem_map.mp hd
    obtain ⟨x, _, rfl⟩ := List.mem_map.mp hy
    exact ⟨fun e => (show False from by have : PyData.int x = .none := e; cases this), fun xs e => (by have : PyData.int x = .tuple xs := e; cases this)⟩
  · have e : (ns.map V.int).mergeSort (PySem.W.dataLe false encI) = (ns.mergeSort (PySem.W.dataLe false PyData.int)).map V.int :=
      (PySem.W.sort_maps (r := PySem.W.dataLe false PyData.int) (s := PySem.W.dataLe false encI) V.int (l := ns) fun a _ b _ => rfl).symm
    rw [e]
    have e2 : PySem.W.dataLe false PyData.int = fun a b : Int => decide (a ≤ b) := PySem.W.dataLe_int fun x => x
    rw [e2]
    refine h _ p (List.mergeSort_perm _ _) ?_ hp
    have := List.pairwise_mergeSort (le := fun a b : Int => decide (a ≤ b)) (fun a b c h1 h2 => by simp at *; omega) (fun a b => by simp; omega) ns
    exact this.imp fun h => by simpa using h
theorem s_lock {t : TS} {n b c : L2.St → Hp → Prop} {R : VK} {σ : L2.St} {H : Hp} {d : Addr} {u : HO} (h1 : H d = some u) (h2 : Mut (some u))
    (h : ∀ od, t ⟨fun σ' H' => H' d = some (.frz od u) ∧ n σ' (upd H' d u), fun v H' => H' d = some (.frz od u) ∧ R v (upd H' d u), fun σ' H' => H' d = some (.frz od u) ∧ b σ' (upd H' d u), fun σ' H' => H' d = some (.frz od u) ∧ c σ' (upd H' d u)⟩ σ (upd H d (.frz od u))) :
    tLock t ⟨n, R, b, c⟩ σ H := ⟨d, u, h1, h2, h⟩
theorem upd_back {H : Hp} {d : Addr} {u v : HO} (h : H d = some u) : upd (upd H d v) d u = H := by
  funext b
  by_cases hb : b = d
  · subst hb; rw [upd_same, h]
  · rw [upd_ne hb, upd_ne hb]
theorem lookI_of {ps : List (Int × Int)} {x : Int × Int} (nd : (ps.map (·.1)).Nodup) (h : x ∈ ps) : lookI ps x.1 = some x.2 := by
  unfold lookI
  induction ps with
  | nil => cases h
  | cons p ps ih =>
    rw [List.map_cons, List.nodup_cons] at nd
    rcases List.mem_cons.mp h with rfl | h
    · simp
    · have : p.1 ≠ x.1 := fun e => nd.1 (by rw [e]; exact List.mem_map.mpr ⟨x, h, rfl⟩)
      rw [List.find?_cons_of_neg (by simp [this])]
      exact ih nd.2 h
/-- a list comprehension over the keys of a dict that stands still, without a test -/
theorem lc_keys {d : Addr} {od : Obj} {ss : List (Int × Int)} {i : Nat} {te : TE} {σ : L2.St} {H1 : Hp} {D : Addr} {Qd : Hp → Prop} (gv : Int × Int → Int)
    (hs : H1 d = some (.frz od (.dK (kvI ss)))) (hl : ss.length ≤ 900) (hD : H1 D = none) (wp : ∀ x : Int, wipe ((wipe σ [i]).set i (some (.int x))) [i] = wipe σ [i])
    (re : ∀ (x : Int × Int) (H : Hp) (Q : VK), x ∈ ss → Same H1 H → Q (.int (gv x)) H → te ((wipe σ [i]).set i (some (.int x.1))) H Q)
    (hd : ∀ H, Same H1 H → H D = some (.lst ((ss.map gv).map V.int)) → Qd H) :
    ∃ W : Nat → Nat → Hp → Prop, (∃ m, W 0 m (upd H1 D (.lst []))) ∧ ∀ n m H, W n m H →
      ((Itk d od (kvI ss)).stop n H ∧ Qd H) ∨ ((Itk d od (kvI ss)).go n H ∧ ∃ Nx : Hp → Prop, (∀ H', Nx H' → ∃ m', m' < m ∧ W (n + 1) m' H') ∧ ∀ x H', (Itk d od (kvI ss)).yld n H x H' → gName i x (wipe σ [i]) H' fun σ2 H2 => wipe σ2 [i] = wipe σ [i] ∧ tYes σ2 H2 fun b H3 =>
        if b = true then te σ2 H3 fun y H4 => ∃ acc, H4 D = some (.lst acc) ∧ acc.length < sizeLine ∧ Nx (upd H4 D (.lst (acc ++ [y]))) else Nx H3) := by
  refine ⟨fun n m H => m = ss.length - n ∧ n ≤ ss.length ∧ Same H1 H ∧ H D = some (.lst (((ss.take n).map gv).map V.int)), ⟨ss.length, by simp, Nat.zero_le _, same_upd (Same.refl _) hD, upd_same⟩, ?_⟩
  rintro n m H ⟨rfl, hn, s1, hDn⟩
  by_cases hlt : n < ss.length
  · refine .inr ⟨⟨s1 _ _ hs, by rw [kvI_len]; exact hlt⟩, fun H' => n + 1 ≤ ss.length ∧ Same H1 H' ∧ H' D = some (.lst (((ss.take (n + 1)).map gv).map V.int)), fun H' z => ⟨ss.length - (n + 1), by omega, rfl, z⟩, fun x H' y => ?_⟩
    obtain ⟨rfl, k, v, hk, rfl⟩ := y
    have hx : ss[n]? = some ss[n] := List.getElem?_eq_getElem hlt
    have e : (k, v) = ((Sum.inl ss[n].1 : Key), V.int ss[n].2) := by
      unfold kvI at hk
      rw [List.getElem?_map, hx] at hk
      exact (Option.some.inj hk).symm
    cases e
    refine s_gname ⟨wp _, s_yes (s_ifT rfl ?_)⟩
    refine re ss[n] _ _ (List.getElem_mem hlt) s1 ⟨_, hDn, small1000 (by rw [List.length_map, List.length_map, List.length_take]; omega), hlt, ?_, ?_⟩
    · intro b o e
      rw [upd_ne (ne_of_none e hD)]
      exact s1 _ _ e
    · rw [upd_same, take_succ_of hx, List.map_append, List.map_append]
      rfl
  · have e : n = ss.length := by omega
    subst e
    rw [List.take_length] at hDn
    exact .inl ⟨⟨s1 _ _ hs, by rw [kvI_len]; exact Nat.le_refl _⟩, hd H s1 hDn⟩
theorem s_neDict {K : PySem.W.Frag} {a b : Addr} {ss : List (Int × Int)} {H : Hp} {Q : VK} (h1 : H a = some (.dK (kvI ss))) (h2 : H b = some (.dK (kvI ss))) (nd : (ss.map (·.1)).Nodup) (h : Q (.bl false) H) : rNe3 K (.ref a) (.ref b) H Q := by
  refine .inr (.inr ⟨a, b, kvI ss, kvI ss, rfl, rfl, h1, h2, rfl, fun p hp => ?_, h⟩)
  unfold kvI at hp
  obtain ⟨x, hx, rfl⟩ := List.mem_map.mp hp
  refine ⟨?_, rfl⟩
  show valV (kvI ss) (Sum.inl x.1) = some (V.int x.2)
  rw [kvI_val, lookI_of nd hx]
  rfl
theorem s_make {C : Addr} {sp : Sp} {dvs : List V} {E : XK} {t : TA} {σ : L2.St} {H : Hp} {Q : VK} (h : t σ H fun vs H1 => ∀ x dx, H1 x = none → H1 dx = none → dx ≠ x → sp (.ref x :: (vs ++ dvs)) (upd (upd H1 dx (.own x)) x (.ins C dx [])) (fun v H2 => v = .non ∧ Q (.ref x) H2) E) : tMake C sp dvs E t σ H Q := h
theorem s_rng1 {j : Int} {F : Int → Prop} (h1 : -(2 ^ 62) ≤ j) (h2 : j < 2 ^ 62) (h : F j) : ∃ i : Int, [V.int j] = [.int i] ∧ -(2 ^ 62) ≤ i ∧ i < 2 ^ 62 ∧ F i := ⟨j, rfl, h1, h2, h⟩
/-- a list comprehension over range(n), each element an int made of its number, nothing changed -/
theorem lc_rng {n : Nat} {i : Nat} {te : TE} {σ : L2.St} {H1 : Hp} {D : Addr} {Qd : Hp → Prop} (gv : Int → Int) (hl : n ≤ 900) (hD : H1 D = none) (wp : ∀ x : Int, wipe ((wipe σ [i]).set i (some (.int x))) [i] = wipe σ [i])
    (re : ∀ (x : Int) (H : Hp) (Q : VK), Q (.int (gv x)) H → te ((wipe σ [i]).set i (some (.int x))) H Q)
    (hd : ∀ H, Same H1 H → H D = some (.lst (((List.range n).map fun m => gv (m : Nat)).map V.int)) → Qd H) :
    ∃ W : Nat → Nat → Hp → Prop, (∃ m, W 0 m (upd H1 D (.lst []))) ∧ ∀ k m H, W k m H →
      ((Itr 0 n).stop k H ∧ Qd H) ∨ ((Itr 0 n).go k H ∧ ∃ Nx : Hp → Prop, (∀ H', Nx H' → ∃ m', m' < m ∧ W (k + 1) m' H') ∧ ∀ x H', (Itr 0 n).yld k H x H' → gName i x (wipe σ [i]) H' fun σ2 H2 => wipe σ2 [i] = wipe σ [i] ∧ tYes σ2 H2 fun b H3 =>
        if b = true then te σ2 H3 fun y H4 => ∃ acc, H4 D = some (.lst acc) ∧ acc.length < sizeLine ∧ Nx (upd H4 D (.lst (acc ++ [y]))) else Nx H3) := by
  refine lc_range (fun k H => Same H1 H ∧ H D = some (.lst (((List.range k).map fun m => gv (m : Nat)).map V.int))) ⟨same_upd (Same.refl _) hD, upd_same⟩ ?_ ?_
  · rintro k H hk ⟨s1, hDk⟩
    rw [Int.zero_add]
    refine s_gname ⟨wp _, s_yes (s_ifT rfl ?_)⟩
    refine re _ _ _ ⟨_, hDk, small1000 (by rw [List.length_map, List.length_map, List.length_range]; omega), ?_, ?_⟩
    · intro b o e
      rw [upd_ne (ne_of_none e hD)]
      exact s1 _ _ e
    · rw [upd_same, List.range_succ, List.map_append, List.map_append]
      rfl
  · rintro H ⟨s1, hDk⟩
    exact hd H s1 hDk
end Lt

set_option Elab.async false
set_option linter.all false
set_option maxRecDepth 100000
set_option maxHeartbeats 4000000
namespace Toy
open PySem PySem.Spec PyProof.Rows L2 Lt
def topS (i : Nat) : Stmt := PySem.Challenge.pw_laterline_k33_whole_slots_keep_rows.main.body.getD i (.Pass ⟨0, 0, 0, 0⟩)
def inClass (s : Stmt) (i : Nat) : Stmt := (C8.clsBody s).getD i (.Pass ⟨0, 0, 0, 0⟩)
abbrev s_is_upto : Stmt := topS 8
theorem sc_is_upto : FnScope ["thing", "most"] ["thing", "most"] (C8.fnScope s_is_upto) := ⟨rfl, rfl, rfl, by decide +kernel, rfl, by decide +kernel, by decide +kernel⟩
abbrev s_look_place : Stmt := topS 9
theorem sc_look_place : FnScope ["thing"] ["thing"] (C8.fnScope s_look_place) := ⟨rfl, rfl, rfl, by decide +kernel, rfl, by decide +kernel, by decide +kernel⟩
abbrev s_look_house : Stmt := topS 12
theorem sc_look_house : FnScope ["thing"] ["thing"] (C8.fnScope s_look_house) := ⟨rfl, rfl, rfl, by decide +kernel, rfl, by decide +kernel, by decide +kernel⟩
abbrev s_look_room : Stmt := topS 15
theorem sc_look_room : FnScope ["thing"] ["thing"] (C8.fnScope s_look_room) := ⟨rfl, rfl, rfl, by decide +kernel, rfl, by decide +kernel, by decide +kernel⟩
abbrev s_cut_of : Stmt := topS 16
theorem sc_cut_of : FnScope ["room", "slots", "end", "applied", "broken", "house", "place", "left"] ["room", "slots", "end", "applied"] (C8.fnScope s_cut_of) := ⟨rfl, rfl, rfl, by decide +kernel, rfl, by decide +kernel, by decide +kernel⟩
abbrev s_Slots_init : Stmt := inClass (topS 17) 0
theorem sc_Slots_init : FnScope ["self", "room"] ["self", "room"] (C8.fnScope s_Slots_init) := ⟨rfl, rfl, rfl, by decide +kernel, rfl, by decide +kernel, by decide +kernel⟩
abbrev s_Slots_hold : Stmt := inClass (topS 17) 1
theorem sc_Slots_hold : FnScope ["self", "house", "place"] ["self", "house", "place"] (C8.fnScope s_Slots_hold) := ⟨rfl, rfl, rfl, by decide +kernel, rfl, by decide +kernel, by decide +kernel⟩
abbrev s_Slots_free : Stmt := inClass (topS 17) 3
theorem sc_Slots_free : FnScope ["self", "house", "other", "place"] ["self", "house"] (C8.fnScope s_Slots_free) := ⟨rfl, rfl, rfl, by decide +kernel, rfl, by decide +kernel, by decide +kernel⟩
abbrev s_Slots_held : Stmt := inClass (topS 17) 4
theorem sc_Slots_held : FnScope ["self"] ["self"] (C8.fnScope s_Slots_held) := ⟨rfl, rfl, rfl, by decide +kernel, rfl, by decide +kernel, by decide +kernel⟩
abbrev s_Slots_cut_for : Stmt := inClass (topS 17) 5
theorem sc_Slots_cut_for : FnScope ["self", "end", "applied", "floor", "broken", "house"] ["self", "end", "applied"] (C8.fnScope s_Slots_cut_for) := ⟨rfl, rfl, rfl, by decide +kernel, rfl, by decide +kernel, by decide +kernel⟩
abbrev s__law_deck : Stmt := topS 19
theorem sc__law_deck : FnScope ["_law_script", "_law_cells", "_law_cell"] ["_law_script"] (C8.fnScope s__law_deck) := ⟨rfl, rfl, rfl, by decide +kernel, rfl, by decide +kernel, by decide +kernel⟩
abbrev s__law_take : Stmt := topS 20
theorem sc__law_take : FnScope ["_law_deck_here", "_law_many", "_law_cells", "_law_count", "_law_rests", "_law_place", "_law_digits", "_law_mixed"] ["_law_deck_here", "_law_many"] (C8.fnScope s__law_take) := ⟨rfl, rfl, rfl, by decide +kernel, rfl, by decide +kernel, by decide +kernel⟩
abbrev s__law_whole : Stmt := topS 21
theorem sc__law_whole : FnScope ["_law_thing"] ["_law_thing"] (C8.fnScope s__law_whole) := ⟨rfl, rfl, rfl, by decide +kernel, rfl, by decide +kernel, by decide +kernel⟩
abbrev s__law_cut_right : Stmt := topS 22
theorem sc__law_cut_right : FnScope ["_law_slots", "_law_room", "_law_end", "_law_applied", "_law_ahead", "_law_told", "_law_floor", "_law_broken", "_law_left", "_law_one", "_law_bounds"] ["_law_slots", "_law_room", "_law_end", "_law_applied"] (C8.fnScope s__law_cut_right) := ⟨rfl, rfl, rfl, by decide +kernel, rfl, by decide +kernel, by decide +kernel⟩
abbrev s_law : Stmt := topS 23
theorem sc_law : FnScope ["_law_script", "_law_deck_here", "_law_room", "_law_many", "_law_slots", "_law_has", "_law_one", "_law_end", "_law_applied", "_law_turn", "_law_told", "_law_other", "_law_place"] ["_law_script"] (C8.fnScope s_law) := ⟨rfl, rfl, rfl, by decide +kernel, rfl, by decide +kernel, by decide +kernel⟩
structure Adr where
  Slots : Addr
structure Txt (K : PySem.W.Frag) (mg : Str → Option Value) (A : Adr) : Prop where
  b_bool : mg "bool" = none
  b_dict : mg "dict" = none
  b_int : mg "int" = none
  b_isinstance : mg "isinstance" = none
  b_len : mg "len" = none
  b_list : mg "list" = none
  b_max : mg "max" = none
  b_min : mg "min" = none
  b_range : mg "range" = none
  b_sorted : mg "sorted" = none
  b_tuple : mg "tuple" = none
  g_LAST_PLACE : ∃ u, mg "LAST_PLACE" = some u ∧ RelV (.int 1000000) u
  g_HOUSES : ∃ u, mg "HOUSES" = some u ∧ RelV (.int 8) u
  g_ROOMS : ∃ u, mg "ROOMS" = some u ∧ RelV (.int 400) u
  k_Slots : Cls K A.Slots
  mgc_Slots : mg "Slots" = some (.ref A.Slots)
  na_Slots_most : NoAttr K A.Slots "most"
  na_Slots_places : NoAttr K A.Slots "places"
  d_is_upto : ∃ f fd, C8.Def K mg "is_upto" s_is_upto f fd ∧ Binds K fd ["thing", "most"] []
  d_look_place : ∃ f fd, C8.Def K mg "look_place" s_look_place f fd ∧ Binds K fd ["thing"] []
  d_look_house : ∃ f fd, C8.Def K mg "look_house" s_look_house f fd ∧ Binds K fd ["thing"] []
  d_look_room : ∃ f fd, C8.Def K mg "look_room" s_look_room f fd ∧ Binds K fd ["thing"] []
  d_cut_of : ∃ f fd, C8.Def K mg "cut_of" s_cut_of f fd ∧ Binds K fd ["room", "slots", "end", "applied"] []
  d_Slots_init : ∃ f fd, Mk K A.Slots f ∧ C8.Fun K "__init__" "Slots.__init__" s_Slots_init f fd ∧ Binds K fd ["self", "room"] []
  d_Slots_hold : ∃ f fd, Meth K A.Slots "hold" f ∧ C8.Fun K "hold" "Slots.hold" s_Slots_hold f fd ∧ Binds K fd ["self", "house", "place"] []
  d_Slots_free : ∃ f fd, Meth K A.Slots "free" f ∧ C8.Fun K "free" "Slots.free" s_Slots_free f fd ∧ Binds K fd ["self", "house"] []
  d_Slots_held : ∃ f fd, Meth K A.Slots "held" f ∧ C8.Fun K "held" "Slots.held" s_Slots_held f fd ∧ Binds K fd ["self"] []
  d_Slots_cut_for : ∃ f fd, Meth K A.Slots "cut_for" f ∧ C8.Fun K "cut_for" "Slots.cut_for" s_Slots_cut_for f fd ∧ Binds K fd ["self", "end", "applied"] []
  d__law_deck : ∃ f fd, C8.Def K mg "_law_deck" s__law_deck f fd ∧ Binds K fd ["_law_script"] []
  d__law_take : ∃ f fd, C8.Def K mg "_law_take" s__law_take f fd ∧ Binds K fd ["_law_deck_here", "_law_many"] []
  d__law_whole : ∃ f fd, C8.Def K mg "_law_whole" s__law_whole f fd ∧ Binds K fd ["_law_thing"] []
  d__law_cut_right : ∃ f fd, C8.Def K mg "_law_cut_right" s__law_cut_right f fd ∧ Binds K fd ["_law_slots", "_law_room", "_law_end", "_law_applied"] []
local macro_rules
  | `(tactic| walk_at "get") => `(tactic| first
    | assumption
    | exact upd_same
    | ((with_reducible refine' get_new ?g1 ?g2); (case g1 => assumption); (case g2 => walk_at "get"))
    | ((with_reducible refine' get_ne ?g1 ?g2); (case g1 => assumption); (case g2 => walk_at "get"))
    | ((with_reducible refine' get_dif ?g1 ?g2 ?g3); (case g1 => walk_at "get"); (case g2 => walk_at "get"); (case g3 => (intro z; cases z)))
    | (refine' (by assumption : Same _ _) _ _ ?g1; (case g1 => walk_at "get")))
local macro_rules
  | `(tactic| walk_at "cls") => `(tactic| first | assumption | (apply Txt.k_Slots; assumption) | (apply Txt.na_Slots_most; assumption) | (apply Txt.na_Slots_places; assumption))
local macro_rules
  | `(tactic| walk_at "sq") => `(tactic| first
    | assumption
    | exact SqL.of (by walk_at "get")
    | exact SqT.of (by walk_at "get")
    | exact FzT.sq (by assumption)
    | exact Same.seq (by assumption) (by assumption))
local macro_rules
  | `(tactic| walk_at "st") => `(tactic| first
    | with_reducible refine s_seq ?_
    | with_reducible refine s_cons ?_
    | with_reducible refine s_nil ?_
    | ((with_reducible refine' s_var ?g1 ?g2); (case g1 => rfl))
    | with_reducible refine s_c ?_
    | with_reducible refine s_op ?_
    | with_reducible refine s_addI ?_
    | with_reducible refine s_i0 ?_
    | with_reducible refine s_ret ?_
    | with_reducible refine s_retN ?_
    | with_reducible refine s_drop ?_
    | with_reducible refine s_next ?_
    | with_reducible refine s_ifs ?_
    | with_reducible refine s_asg ?_
    | with_reducible refine s_gname ?_
    | with_reducible refine s_gnil ?_
    | with_reducible refine s_gcons ?_
    | with_reducible refine s_gsub ?_
    | with_reducible refine s_un ?_
    | with_reducible refine s_cb ?_
    | with_reducible refine s_call ?_
    | with_reducible refine s_meth ?_
    | ((with_reducible refine' s_meth2 ?g1 ?g2 ?g3); (case g1 => walk_at "get"); (case g2 => rfl))
    | with_reducible refine s_test ?_
    | with_reducible refine s_tb ?_
    | with_reducible refine s_exbl ?_
    | with_reducible refine s_exint ?_
    | with_reducible refine s_and ?_
    | with_reducible refine s_or ?_
    | with_reducible refine s_not ?_
    | with_reducible refine s_andV ?_
    | with_reducible refine s_orV ?_
    | with_reducible refine s_notV ?_
    | with_reducible refine s_ifx ?_
    | with_reducible refine s_yes ?_
    | with_reducible refine s_tup ?_
    | with_reducible refine s_lst ?_
    | with_reducible refine s_fld ?_
    | ((with_reducible refine' s_fld2 ?g1 ?g2 ?g3 ?g4 ?g5); (case g1 => walk_at "get"); (case g2 => walk_at "cls"); (case g3 => walk_at "cls"); (case g4 => rfl))
    | with_reducible refine s_sfld ?_
    | with_reducible refine s_sl ?_
    | with_reducible refine s_nopart ?_
    | with_reducible refine s_part ?_
    | with_reducible refine s_for ?_
    | with_reducible refine s_ilist ?_
    | with_reducible refine s_itup ?_
    | with_reducible refine s_irng1 ?_
    | with_reducible refine s_bm ?_
    | with_reducible refine s_bm0 ?_
    | with_reducible refine s_dget ?_
    | with_reducible refine s_din ?_
    | with_reducible refine s_dnotin ?_
    | with_reducible refine s_dput ?_
    | with_reducible refine s_dget2 ?_
    | with_reducible refine s_dget1 ?_
    | with_reducible refine s_eqI ?_
    | with_reducible refine s_eqS ?_
    | with_reducible refine s_neI ?_
    | with_reducible refine s_neB ?_
    | with_reducible refine s_neS ?_
    | with_reducible refine s_ltI ?_
    | with_reducible refine s_isN ?_
    | with_reducible refine s_isNotN ?_
    | with_reducible refine s_chain ?_
    | with_reducible refine s_make ?_
    | with_reducible refine s_irng2 ?_
    | with_reducible refine s_intI ?_
    | with_reducible refine s_intB ?_
    | ((with_reducible refine' s_mod ?g1 ?g2); (case g1 => omega))
    | ((with_reducible refine' s_fdiv ?g1 ?g2); (case g1 => omega))
    | ((with_reducible refine' s_pow ?g1 ?g2); (case g1 => omega))
    | with_reducible refine s_dc ?_
    | with_reducible refine s_lc ?_
    | with_reducible refine s_iitems ?_
    | with_reducible refine s_ikeys ?_
    | ((with_reducible refine' s_sfld2 ?g1 ?g2 ?g3 ?g4 ?g5); (case g1 => walk_at "get"); (case g2 => walk_at "cls"); (case g3 => walk_at "cls"); (case g4 => exact len1000 rfl))
    | with_reducible refine s_ex2 ?_
    | with_reducible refine s_dnew ?_
    | ((with_reducible refine' s_ifT ?g1 ?g2); (case g1 => rfl))
    | ((with_reducible refine' s_ifF ?g1 ?g2); (case g1 => rfl))
    | with_reducible refine s_isi_non_int ?_
    | with_reducible refine s_isi_non_bool ?_
    | with_reducible refine s_isi_non_str ?_
    | with_reducible refine s_isi_non_tuple ?_
    | with_reducible refine s_isi_non_list ?_
    | with_reducible refine s_isi_bl_int ?_
    | with_reducible refine s_isi_bl_bool ?_
    | with_reducible refine s_isi_bl_str ?_
    | with_reducible refine s_isi_bl_tuple ?_
    | with_reducible refine s_isi_bl_list ?_
    | with_reducible refine s_isi_int_int ?_
    | with_reducible refine s_isi_int_bool ?_
    | with_reducible refine s_isi_int_str ?_
    | with_reducible refine s_isi_int_tuple ?_
    | with_reducible refine s_isi_int_list ?_
    | with_reducible refine s_isi_str_int ?_
    | with_reducible refine s_isi_str_bool ?_
    | with_reducible refine s_isi_str_str ?_
    | with_reducible refine s_isi_str_tuple ?_
    | with_reducible refine s_isi_str_list ?_
    | ((with_reducible refine' s_isi_tup_int ?g1 ?g2); (case g1 => walk_at "get"))
    | ((with_reducible refine' s_isi_tup_bool ?g1 ?g2); (case g1 => walk_at "get"))
    | ((with_reducible refine' s_isi_tup_str ?g1 ?g2); (case g1 => walk_at "get"))
    | ((with_reducible refine' s_isi_tup_tuple ?g1 ?g2); (case g1 => walk_at "get"))
    | ((with_reducible refine' s_isi_tup_list ?g1 ?g2); (case g1 => walk_at "get"))
    | ((with_reducible refine' s_isi_lst_int ?g1 ?g2); (case g1 => walk_at "get"))
    | ((with_reducible refine' s_isi_lst_bool ?g1 ?g2); (case g1 => walk_at "get"))
    | ((with_reducible refine' s_isi_lst_str ?g1 ?g2); (case g1 => walk_at "get"))
    | ((with_reducible refine' s_isi_lst_tuple ?g1 ?g2); (case g1 => walk_at "get"))
    | ((with_reducible refine' s_isi_lst_list ?g1 ?g2); (case g1 => walk_at "get"))
    | ((with_reducible refine' s_isi_dK_int ?g1 ?g2); (case g1 => walk_at "get"))
    | ((with_reducible refine' s_isi_dK_bool ?g1 ?g2); (case g1 => walk_at "get"))
    | ((with_reducible refine' s_isi_dK_str ?g1 ?g2); (case g1 => walk_at "get"))
    | ((with_reducible refine' s_isi_dK_tuple ?g1 ?g2); (case g1 => walk_at "get"))
    | ((with_reducible refine' s_isi_dK_list ?g1 ?g2); (case g1 => walk_at "get")))
local macro_rules
  | `(tactic| walk_at "go") => `(tactic| (repeat walk_at "st"))

section
variable {P : Program} {w : World} {K : PySem.W.Frag} {mg : Str → Option Value} {base : Heap} {A : Adr}
/-- is_upto, of two ints -/
def spUpto : Sp := fun vs H Q _ => ∃ n m : Int, vs = [.int n, .int m] ∧ Q (.bl (decide (0 ≤ n) && decide (n ≤ m))) H
theorem c_is_upto (T : Txt K mg A) : C8.Cal P w K mg base 1 "is_upto" spUpto [] := by
  obtain ⟨f, fd, D, B⟩ := T.d_is_upto
  refine C8.cal0 D B .nil sc_is_upto (fun vs H Q E h => ?_) (fun cdv A' outer s H vs Q E hr h => ?_)
  · obtain ⟨n, m, rfl, _⟩ := h
    rfl
  · obtain ⟨n, m, rfl, q⟩ := h
    have hu := hr.units
    have nd := sc_is_upto.nd
    refine ⟨_, (pss_one (ps_ret (pe_and (pe_callB (k_isi K) (by rfl) T.b_isinstance (by decide +kernel) (pa_cons (pv 0) (pa_cons (pe_bltn (v := .ty "int") (by rfl) T.b_int (by decide +kernel) rfl) pa_nil))) (pe_and (pe_not (pe_callB (k_isi K) (by rfl) T.b_isinstance (by decide +kernel) (pa_cons (pv 0) (pa_cons (pe_bltn (v := .ty "bool") (by rfl) T.b_bool (by decide +kernel) rfl) pa_nil)))) (pe_one (pe_chain (op_le) (op_le) pe_int (pv 0) (pv 1))))))), ?_⟩
    refine (start_of (σ := [some (.int n), some (.int m)]) rfl ?_)
    try dsimp only [cxOf, Cx.nox, Cx.wish]
    walk_at "go"
    refine s_ifD (fun h0 => ?_) (fun h0 => ?_)
    · walk_at "go"
      simpa [h0] using q
    · simpa [h0] using q
/-- a look that does not refuse -/
def spLook (lo hi : Int) : Sp := fun vs H Q _ => ∃ n : Int, vs = [.int n] ∧ (lo ≤ n ∧ n ≤ hi) ∧ Q .non H
theorem c_look_place (T : Txt K mg A) : C8.Cal P w K mg base 2 "look_place" (spLook 0 1000000) [] := by
  obtain ⟨f, fd, D, B⟩ := T.d_look_place
  refine C8.cal0 D B .nil sc_look_place (fun vs H Q E h => ?_) (fun cdv A' outer s H vs Q E hr h => ?_)
  · obtain ⟨n, rfl, _⟩ := h
    rfl
  · obtain ⟨n, rfl, hn, q⟩ := h
    have hu := hr.units
    have nd := sc_look_place.nd
    refine ⟨_, (pss_one (ps_if (pt_not (pt_val (C8.pe_c (c_is_upto T) hr (by decide) (by rfl) (pa_cons (pv 0) (pa_cons (C8.pe_gc (by rfl) T.g_LAST_PLACE) pa_nil))))) (pss_one ps_never) pss_nil)), ?_⟩
    refine (start_of (σ := [some (.int n)]) rfl ?_)
    try dsimp only [cxOf, Cx.nox, Cx.wish]
    walk_at "go"
    refine ⟨n, 1000000, rfl, ?_⟩
    walk_at "go"
    refine s_ifF (by simp [hn]) ?_
    exact q
theorem c_look_house (T : Txt K mg A) : C8.Cal P w K mg base 2 "look_house" (spLook 0 7) [] := by
  obtain ⟨f, fd, D, B⟩ := T.d_look_house
  refine C8.cal0 D B .nil sc_look_house (fun vs H Q E h => ?_) (fun cdv A' outer s H vs Q E hr h => ?_)
  · obtain ⟨n, rfl, _⟩ := h
    rfl
  · obtain ⟨n, rfl, hn, q⟩ := h
    have hu := hr.units
    have nd := sc_look_house.nd
    refine ⟨_, (pss_one (ps_if (pt_not (pt_val (C8.pe_c (c_is_upto T) hr (by decide) (by rfl) (pa_cons (pv 0) (pa_cons (pe_op op_sub (C8.pe_gc (by rfl) T.g_HOUSES) pe_int) pa_nil))))) (pss_one ps_never) pss_nil)), ?_⟩
    refine (start_of (σ := [some (.int n)]) rfl ?_)
    try dsimp only [cxOf, Cx.nox, Cx.wish]
    walk_at "go"
    refine ⟨n, 7, rfl, ?_⟩
    walk_at "go"
    refine s_ifF (by simp [hn]) ?_
    exact q
theorem c_look_room (T : Txt K mg A) : C8.Cal P w K mg base 2 "look_room" (spLook 1 400) [] := by
  obtain ⟨f, fd, D, B⟩ := T.d_look_room
  refine C8.cal0 D B .nil sc_look_room (fun vs H Q E h => ?_) (fun cdv A' outer s H vs Q E hr h => ?_)
  · obtain ⟨n, rfl, _⟩ := h
    rfl
  · obtain ⟨n, rfl, hn, q⟩ := h
    have hu := hr.units
    have nd := sc_look_room.nd
    refine ⟨_, (pss_one (ps_if (PW.pt (pw_or (pt_not (pt_val (C8.pe_c (c_is_upto T) hr (by decide) (by rfl) (pa_cons (pv 0) (pa_cons (C8.pe_gc (by rfl) T.g_ROOMS) pa_nil))))) (pw_or1 (pt_cmpR (k_eq K hu) (pv 0) pe_int (nomark _))))) (pss_one ps_never) pss_nil)), ?_⟩
    refine (start_of (σ := [some (.int n)]) rfl ?_)
    try dsimp only [cxOf, Cx.nox, Cx.wish]
    walk_at "go"
    refine ⟨n, 400, rfl, ?_⟩
    walk_at "go"
    refine s_ifF (by simp; omega) ?_
    walk_at "go"
    refine s_ifF (by simp; omega) ?_
    exact q
/-! ### the slots -/
abbrev sfs (d : Addr) (room : Int) : List (Str × V) := [("most", .int room), ("places", .ref d)]
structure SlotsAt (A : Adr) (H : Hp) (p d : Addr) (room : Int) (ps : List (Int × Int)) : Prop where
  ob : ∃ dx, H p = some (.ins A.Slots dx (sfs d room))
  dc : H d = some (.dK (kvI ps))
  nd : (ps.map (·.1)).Nodup
  hs : ∀ q ∈ ps, (0 ≤ q.1 ∧ q.1 ≤ 7) ∧ 0 ≤ q.2 ∧ q.2 ≤ 1000000
def spInit (A : Adr) : Sp := fun vs H Q _ => ∃ (p dx : Addr) (room : Int), vs = [.ref p, .int room] ∧ H p = some (.ins A.Slots dx []) ∧ (1 ≤ room ∧ room ≤ 400) ∧
  ∀ d H', H d = none → SlotsAt A H' p d room [] → (∀ b o, H b = some o → b ≠ p → H' b = some o) → Q .non H'
theorem c_Slots_init (T : Txt K mg A) : C8.Mak P w K mg base 3 "Slots" A.Slots (spInit A) [] := by
  obtain ⟨f, fd, M, F, B⟩ := T.d_Slots_init
  refine C8.mak0 M T.mgc_Slots F B .nil sc_Slots_init (fun vs H Q E h => ?_) (fun cdv A' outer s H vs Q E hr h => ?_)
  · obtain ⟨p, dx, room, rfl, _⟩ := h
    rfl
  · obtain ⟨p, dx, room, rfl, hp, hb, q⟩ := h
    have hu := hr.units
    have nd := sc_Slots_init.nd
    refine ⟨_, (pss_cons (ps_expr (C8.pe_c (c_look_room T) hr (by decide) (by rfl) (pa_cons (pv 1) pa_nil)))
      (pss_cons (k_sfld K (pv 0) (pv 1) rfl)
      (pss_one (k_sfld K (pv 0) pe_dnewK rfl)))), ?_⟩
    refine (start_of (σ := [some (.ref p), some (.int room)]) rfl ?_)
    try dsimp only [cxOf, Cx.nox, Cx.wish]
    walk_at "go"
    refine ⟨room, rfl, hb, ?_⟩
    walk_at "go"
    intro d hd
    have npd : p ≠ d := ne_of_none upd_same hd
    walk_at "go"
    have hd0 : H d = none := by rw [upd_ne npd.symm] at hd; exact hd
    refine q d _ hd0 ⟨⟨dx, upd_same⟩, by rw [upd_ne npd.symm]; exact upd_same, by simp, by simp⟩ fun b o e nb => ?_
    rw [upd_ne nb, upd_ne (ne_of_none e hd0), upd_ne nb]
    exact e
def spHold (A : Adr) : Sp := fun vs H Q _ => ∃ (p d : Addr) (room h v : Int) (ps : List (Int × Int)), vs = [.ref p, .int h, .int v] ∧ SlotsAt A H p d room ps ∧ (0 ≤ h ∧ h ≤ 7) ∧ (0 ≤ v ∧ v ≤ 1000000) ∧ ps.length ≤ 900 ∧
  ∀ H', SlotsAt A H' p d room (putI ps h (max v ((lookI ps h).getD 0))) → (∀ b o, H b = some o → b ≠ d → H' b = some o) → Q .non H'
theorem putI_keys {ps : List (Int × Int)} {k v : Int} (h : (ps.map (·.1)).Nodup) : ((putI ps k v).map (·.1)).Nodup := by
  unfold putI
  by_cases hk : (ps.any fun p => decide (p.1 = k)) = true
  · rw [if_pos hk, List.map_map]
    have e : ((·.1) ∘ fun p : Int × Int => if p.1 = k then (p.1, v) else p) = fun p : Int × Int => p.1 := by
      funext p
      show (if p.1 = k then (p.1, v) else p).1 = p.1
      by_cases e : p.1 = k <;> simp [e]
    rw [e]
    exact h
  · rw [if_neg hk, List.map_append, List.nodup_append]
    refine ⟨h, by simp, fun a ha b hb e => hk ?_⟩
    simp at hb
    subst hb
    subst e
    obtain ⟨q, hq, rfl⟩ := List.mem_map.mp ha
    exact List.any_eq_true.mpr ⟨q, hq, by simp⟩
theorem putI_mem {ps : List (Int × Int)} {k v : Int} {q : Int × Int} (h : q ∈ putI ps k v) : q = (k, v) ∨ (q ∈ ps ∧ q.1 ≠ k) := by
  unfold putI at h
  by_cases hk : (ps.any fun p => decide (p.1 = k)) = true
  · rw [if_pos hk] at h
    obtain ⟨p, hp, e⟩ := List.mem_map.mp h
    by_cases c : p.1 = k
    · rw [if_pos c] at e
      exact .inl (by rw [← e, c])
    · rw [if_neg c] at e
      exact .inr (by rw [← e]; exact ⟨hp, c⟩)
  · rw [if_neg hk] at h
    rcases List.mem_append.mp h with h | h
    · refine .inr ⟨h, fun e => hk ?_⟩
      exact List.any_eq_true.mpr ⟨q, h, by simp [e]⟩
    · simp at h
      exact .inl h
theorem lookI_mem {ps : List (Int × Int)} {k v : Int} (h : lookI ps k = some v) : (k, v) ∈ ps := by
  unfold lookI at h
  cases e : ps.find? fun p => decide (p.1 = k) with
  | none => rw [e] at h; cases h
  | some p =>
    rw [e] at h
    have h1 := List.mem_of_find?_eq_some e
    have h2 := List.find?_some e
    simp at h2
    have h3 : p.2 = v := Option.some.inj h
    rw [← h2, ← h3]
    exact h1
theorem c_Slots_hold (T : Txt K mg A) : C8.Met P w K mg base 3 A.Slots "hold" (spHold A) [] := by
  obtain ⟨f, fd, M, F, B⟩ := T.d_Slots_hold
  refine C8.met0 T.k_Slots M F B sc_Slots_hold (fun vs H Q E h => ?_) (fun cdv A' outer s H vs Q E hr h => ?_)
  · obtain ⟨p, d, room, h, v, ps, rfl, _⟩ := h
    rfl
  · obtain ⟨p, d, room, h, v, ps, rfl, S, hh, hv, hl, q⟩ := h
    have hu := hr.units
    have hu1 := hu_of hr
    have nd := sc_Slots_hold.nd
    obtain ⟨⟨dx, ob⟩, dc, nds, hs⟩ := id S
    have npd : p ≠ d := ne_of ob dc (by intro z; cases z)
    refine ⟨_, (pss_cons (ps_expr (C8.pe_c (c_look_house T) hr (by decide) (by rfl) (pa_cons (pv 1) pa_nil)))
      (pss_cons (ps_expr (C8.pe_c (c_look_place T) hr (by decide) (by rfl) (pa_cons (pv 2) pa_nil)))
      (pss_one (ps_dput hu1 (k_fld K (pv 0) rfl) (pv 1) (pe_callB (call_max2 rfl) (by rfl) T.b_max (by decide +kernel) (pa_cons (pv 2) (pa_cons (pe_dget2 hu1 (k_fld K (pv 0) rfl) (pv 1) pe_int ⟨rfl, rfl, rfl, rfl⟩) pa_nil))) rfl)))), ?_⟩
    refine (start_of (σ := [some (.ref p), some (.int h), some (.int v)]) rfl ?_)
    try dsimp only [cxOf, Cx.nox, Cx.wish]
    walk_at "go"
    refine ⟨h, rfl, hh, ?_⟩
    walk_at "go"
    refine ⟨v, rfl, hv, ?_⟩
    walk_at "go"
    refine ⟨d, rfl, .inl ⟨_, .inl dc⟩, ?_⟩
    walk_at "go"
    refine ⟨_, DGet.k (k := Sum.inl h) dc, ?_⟩
    rw [kvI_val]
    have eg : ((Option.map V.int (lookI ps h)).getD (V.int 0)) = V.int ((lookI ps h).getD 0) := by cases lookI ps h <;> rfl
    rw [eg]
    walk_at "go"
    refine ⟨d, _, rfl, DPut.k (k := Sum.inl h) dc (small1000 (by rw [kvI_len]; omega)), ?_⟩
    walk_at "go"
    rw [ite_max, kvI_put]
    refine q _ ⟨⟨dx, by rw [upd_ne npd]; exact ob⟩, upd_same, putI_keys nds, fun x hx => ?_⟩ fun b o e nb => by rw [upd_ne nb]; exact e
    rcases putI_mem hx with rfl | ⟨hx, _⟩
    · refine ⟨hh, ?_⟩
      cases e : lookI ps h with
      | none => simp; omega
      | some y =>
        have := (hs _ (lookI_mem e)).2
        simp at this ⊢
        omega
    · exact hs x hx
def spFree (A : Adr) : Sp := fun vs H Q _ => ∃ (p d : Addr) (room h : Int) (ps : List (Int × Int)), vs = [.ref p, .int h] ∧ SlotsAt A H p d room ps ∧ (0 ≤ h ∧ h ≤ 7) ∧ ps.length ≤ 900 ∧
  ∀ d' H', H d' = none → SlotsAt A H' p d' room (ps.filter fun x => decide (x.1 ≠ h)) → (∀ b o, H b = some o → b ≠ p → H' b = some o) → Q .non H'
theorem c_Slots_free (T : Txt K mg A) : C8.Met P w K mg base 3 A.Slots "free" (spFree A) [] := by
  obtain ⟨f, fd, M, F, B⟩ := T.d_Slots_free
  refine C8.met0 T.k_Slots M F B sc_Slots_free (fun vs H Q E h => ?_) (fun cdv A' outer s H vs Q E hr h => ?_)
  · obtain ⟨p, d, room, h, ps, rfl, _⟩ := h
    rfl
  · obtain ⟨p, d, room, h, ps, rfl, S, hh, hl, q⟩ := h
    have hu := hr.units
    have hu1 := hu_of hr
    have nd := sc_Slots_free.nd
    obtain ⟨⟨dx, ob⟩, dc, nds, hs⟩ := id S
    have npd : p ≠ d := ne_of ob dc (by intro z; cases z)
    refine ⟨_, (pss_cons (ps_expr (C8.pe_c (c_look_house T) hr (by decide) (by rfl) (pa_cons (pv 1) pa_nil)))
      (pss_one (k_sfld K (pv 0) (pe_lock (by exact (pe_dc (own := [("other", 2), ("place", 3)]) rfl nd (pi_items (k_fld K (pv 0) rfl)) (blkOk_by (N := ["self", "house", "other", "place"]) (sc := C8.fnScope s_Slots_free) (own := [("other", 2), ("place", 3)]) (by decide +kernel)) (fun _ _ _ _ _ => (kg_tup K (n := 2) rfl (pgs_cons (pg_name (i := 2) nd rfl (Or.inl rfl)) (pgs_cons (pg_name (i := 3) nd rfl (Or.inl rfl)) pgs_nil)))) (fun _ _ _ _ _ => pts_one (pt_cmpR (k_ne K hu) (pv 2) (pv 1) (nomark _))) (fun _ _ _ _ _ => (pv 2)) (fun _ _ _ _ _ => (pv 3))))) rfl))), ?_⟩
    refine (start_of (σ := [some (.ref p), some (.int h), none, none]) rfl ?_)
    try dsimp only [cxOf, Cx.nox, Cx.wish]
    walk_at "go"
    refine ⟨h, rfl, hh, ?_⟩
    walk_at "go"
    refine ⟨d, _, dc, trivial, fun od => ?_⟩
    -- the dict stands still
    have ob' : upd H d (.frz od (.dK (kvI ps))) p = some (.ins A.Slots dx (sfs d room)) := by rw [upd_ne npd]; exact ob
    walk_at "go"
    refine ⟨d, od, _, rfl, upd_same, fun D hD => dc_items (fun i H' => Same (upd H d (.frz od (.dK (kvI ps)))) H' ∧ H' D = some (.dK (kvI ((ps.take i).filter fun x => decide (x.1 ≠ h))))) ⟨same_upd (Same.refl _) hD, upd_same⟩ (fun i H' _ z => z.1 _ _ upd_same) ?_ ?_⟩
    · rintro i k v T' H' hi ⟨s1, hD1⟩ hT
      obtain ⟨x, hx, e⟩ : ∃ x : Int × Int, ps[i]? = some x ∧ (k, v) = (Sum.inl x.1, V.int x.2) := by
        unfold kvI at hi
        rw [List.getElem?_map] at hi
        cases e : ps[i]? with
        | none => rw [e] at hi; cases hi
        | some x => rw [e] at hi; exact ⟨x, rfl, (Option.some.inj hi).symm⟩
      cases e
      show gTup K 2 _ (.ref T') _ (upd H' T' (.tup [V.int x.1, V.int x.2])) _
      refine s_gtup (SqT.of upd_same) rfl ?_
      walk_at "go"
      refine ⟨rfl, ?_⟩
      walk_at "go"
      have ts : ps.take (i + 1) = ps.take i ++ [x] := take_succ_of hx
      have nDT : D ≠ T' := ne_of_none hD1 hT
      refine s_ifN (fun c => ?_) (fun c => ?_)
      · walk_at "go"
        refine ⟨_, Sum.inl x.1, rfl, (by rw [upd_ne nDT]; exact hD1), small1000 (by rw [kvI_len]; have := List.length_filter_le (fun x : Int × Int => decide (x.1 ≠ h)) (ps.take i); rw [List.length_take] at this; omega), ?_, ?_⟩
        · intro b o e
          have nb : b ≠ D := ne_of_none e hD
          rw [upd_ne nb]
          exact get_new hT (s1 _ _ e)
        · rw [upd_same, kvI_put]
          have e1 : ((ps.take (i + 1)).filter fun x => decide (x.1 ≠ h)) = ((ps.take i).filter fun x => decide (x.1 ≠ h)) ++ [x] := by
            rw [ts, List.filter_append]
            simp [c]
          have e2 : putI ((ps.take i).filter fun x => decide (x.1 ≠ h)) x.1 x.2 = ((ps.take i).filter fun x => decide (x.1 ≠ h)) ++ [x] := by
            unfold putI
            rw [if_neg]
            rw [Bool.not_eq_true, List.any_eq_false]
            intro y hy
            have hy' := (List.mem_filter.mp hy).1
            simp only [decide_eq_true_eq]
            intro e
            have n2 : ((ps.take (i + 1)).map (·.1)).Nodup := by
              rw [List.map_take]
              exact List.Sublist.nodup (List.take_sublist _ _) nds
            rw [ts, List.map_append, List.nodup_append] at n2
            exact n2.2.2 y.1 (List.mem_map.mpr ⟨y, hy', rfl⟩) x.1 (by simp) e
          rw [e1, e2]
      · refine ⟨fun b o e => get_new hT (s1 _ _ e), ?_⟩
        rw [upd_ne nDT, hD1, ts, List.filter_append]
        simp [c]
    · rintro H' ⟨s1, hD1⟩
      rw [kvI_len, List.take_length] at hD1
      have hD0 : H D = none := by
        by_cases c : D = d
        · subst c; rw [upd_same] at hD; cases hD
        · rw [upd_ne c] at hD; exact hD
      have s2 : Same H (upd H' d (.dK (kvI ps))) := same_back dc s1
      have nDd : D ≠ d := fun z => by subst z; rw [dc] at hD0; cases hD0
      refine ⟨s1 _ _ upd_same, ?_⟩
      have ob2 := s2 _ _ ob
      walk_at "go"
      have npD : p ≠ D := ne_of_none ob hD0
      refine q D _ hD0 ⟨⟨dx, upd_same⟩, by rw [upd_ne npD.symm, upd_ne nDd]; exact hD1, ?_, fun x hx => hs x (List.mem_filter.mp hx).1⟩ fun b o e nb => by rw [upd_ne nb]; exact s2 b o e
      exact List.Sublist.nodup (List.Sublist.map _ List.filter_sublist) nds
/-! ### held: the pairs, rising -/
def leII (a b : Int × Int) : Bool := PySem.W.dataLe false (fun p : Int × Int => .tuple [.int p.1, .int p.2]) a b
theorem leII_eq (a b : Int × Int) : leII a b = decide (a.1 < b.1 ∨ (a.1 = b.1 ∧ a.2 ≤ b.2)) := by
  unfold leII
  rw [PySem.W.dataLe_ii]
def rising (ps : List (Int × Int)) : List (Int × Int) := ps.mergeSort leII
theorem rising_perm (ps : List (Int × Int)) : (rising ps).Perm ps := List.mergeSort_perm _ _
theorem rising_le (ps : List (Int × Int)) : (rising ps).Pairwise fun a b => a.1 < b.1 ∨ (a.1 = b.1 ∧ a.2 ≤ b.2) := by
  have h := List.pairwise_mergeSort (le := leII) (fun a b c h1 h2 => by
    rw [leII_eq, decide_eq_true_eq] at h1 h2 ⊢
    omega) (fun a b => by
    rw [leII_eq, leII_eq, Bool.or_eq_true, decide_eq_true_eq, decide_eq_true_eq]
    omega) ps
  exact h.imp fun h => by rw [leII_eq, decide_eq_true_eq] at h; exact h
theorem rising_lt {ps : List (Int × Int)} (nd : (ps.map (·.1)).Nodup) : (rising ps).Pairwise fun a b => a.1 < b.1 := by
  have n2 : ((rising ps).map (·.1)).Nodup := ((rising_perm ps).map (·.1)).nodup_iff.mpr nd
  rw [List.Nodup, List.pairwise_map] at n2
  exact (List.Pairwise.and n2 (rising_le ps)).imp fun h => by
    have h1 : _ ≠ _ := h.1
    omega
/-- a tuple of pairs, known to the object -/
structure TupAt (H : Hp) (t : Addr) (ps : List (Int × Int)) : Prop where
  ex : ∃ as : List Addr, FzT H t (as.map V.ref) ∧ PairsAt H as ps
theorem TupAt.same {H H' : Hp} {t : Addr} {ps : List (Int × Int)} (s : Same H H') (h : TupAt H t ps) : TupAt H' t ps := by
  obtain ⟨as, ⟨o, h1, h2⟩, h3⟩ := h
  exact ⟨as, ⟨o, h1, s _ _ h2⟩, h3.same s⟩
def spHeld (A : Adr) : Sp := fun vs H Q _ => ∃ (p d : Addr) (room : Int) (ps : List (Int × Int)), vs = [.ref p] ∧ SlotsAt A H p d room ps ∧
  ∀ t H', Same H H' → H t = none → TupAt H' t (rising ps) → Q (.ref t) H'
def encV : V → PyData := fun v => match v with
  | .int i => .int i
  | _ => .none
theorem c_Slots_held (T : Txt K mg A) : C8.Met P w K mg base 1 A.Slots "held" (spHeld A) [] := by
  obtain ⟨f, fd, M, F, B⟩ := T.d_Slots_held
  refine C8.met0 T.k_Slots M F B sc_Slots_held (fun vs H Q E h => ?_) (fun cdv A' outer s H vs Q E hr h => ?_)
  · obtain ⟨p, d, room, ps, rfl, _⟩ := h
    rfl
  · obtain ⟨p, d, room, ps, rfl, S, q⟩ := h
    have hu := hr.units
    have hu1 := hu_of hr
    have nd := sc_Slots_held.nd
    obtain ⟨⟨dx, ob⟩, dc, nds, hs⟩ := id S
    refine ⟨_, (pss_one (ps_ret (pe_callTy call_tupF (by rfl) T.b_tuple (by decide +kernel) (pa_cons (pe_callB (cr_sortedV rfl hu) (by rfl) T.b_sorted (by decide +kernel) (pa_cons (k_bm0 K PySem.F.plainAttrs_dict PySem.F.slot_dict_items PySem.F.type_dict_items mt_itemsK (k_fld K (pv 0) rfl)) pa_nil)) pa_nil)))), ?_⟩
    refine (start_of (σ := [some (.ref p)]) rfl ?_)
    walk_at "go"
    refine ⟨.inr (.inr (.inl ⟨rfl, .inl ⟨_, dc⟩⟩)), d, rfl, rfl, .inl ⟨_, dc⟩, fun v hv => ?_⟩
    walk_at "go"
    have nvd : d ≠ v := ne_of_none dc hv
    refine ⟨v, d, rfl, upd_same, .inl ⟨_, by rw [upd_ne nvd]; exact dc, ?_⟩⟩
    have e0 : (kvI ps).map (fun kv => (kV kv.1, kv.2)) = ps.map fun p => (V.int p.1, V.int p.2) := by
      unfold kvI
      rw [List.map_map]
      rfl
    rw [e0]
    refine ⟨fun p => encV p.1, fun p => encV p.2, fun z hz => ?_, ?_, fun H2 l zs hk hzs hl hzt => ?_⟩
    · obtain ⟨x, _, rfl⟩ := List.mem_map.mp hz
      exact ⟨.int _, .int _, rfl, rfl, by show PyData.depth (.tuple [.int x.1, .int x.2]) ≤ 50; simp [PyData.depth, PyData.depthAll]⟩
    · intro a ha b hb
      obtain ⟨z, hz, rfl⟩ := List.mem_map.mp ha
      obtain ⟨z', hz', rfl⟩ := List.mem_map.mp hb
      obtain ⟨x, _, rfl⟩ := List.mem_map.mp hz
      obtain ⟨x', _, rfl⟩ := List.mem_map.mp hz'
      rfl
    · have e1 : zs.map (·.1) = (rising ps).map fun p => (V.int p.1, V.int p.2) := by
        rw [hzs]
        exact (PySem.W.sort_maps (r := leII) (s := PySem.W.dataLe false (encP (fun p => encV p.1) fun p => encV p.2)) (fun p : Int × Int => (V.int p.1, V.int p.2)) (l := ps) fun a _ b _ => rfl).symm
      walk_at "go"
      refine ⟨l, _, rfl, SqL.of hl, fun t o ht ho => ?_⟩
      walk_at "go"
      have st : Same H (upd H2 t (.frz o (.tup (zs.map fun z => V.ref z.2)))) := fun b u e => get_new ht (hk b u (get_new hv e))
      have ht0 : H t = none := by
        cases e : H t with
        | none => rfl
        | some u => have := hk t u (get_new hv e); rw [ht] at this; cases this
      refine q t _ st ht0 ⟨zs.map (·.2), ⟨o, ho, by rw [List.map_map]; exact upd_same⟩, ?_⟩
      have gen : ∀ (l : List ((V × V) × Addr)) (ss : List (Int × Int)), l.map (·.1) = ss.map (fun p => (V.int p.1, V.int p.2)) → (∀ z ∈ l, H2 z.2 = some (.tup [z.1.1, z.1.2])) →
          PairsAt (upd H2 t (.frz o (.tup (zs.map fun z => V.ref z.2)))) (l.map (·.2)) ss := by
        intro l
        induction l with
        | nil =>
          intro ss e _
          cases ss with
          | nil => exact .nil
          | cons => simp at e
        | cons z l ih =>
          intro ss e hz
          cases ss with
          | nil => simp at e
          | cons x ss =>
            rw [List.map_cons, List.map_cons] at e
            injection e with e2 e3
            refine .cons ?_ (ih ss e3 fun y hy => hz y (List.mem_cons_of_mem _ hy))
            have := hz z (List.mem_cons_self ..)
            rw [e2] at this
            exact get_new ht this
      exact gen zs _ e1 hzt
/-! ### cut_of -/
def keepB (room en : Int) (p : Int × Int) : Bool := decide (p.2 + room < en)
def brokenOf (room en : Int) (ps : List (Int × Int)) : List Int := (ps.filter fun p => decide (p.2 + room < en)).map (·.1)
def leftOf (room en : Int) (ps : List (Int × Int)) : List Int := (ps.filter fun p => decide (en ≤ p.2 + room)).map (·.2)
/-- what a cut tells: the floor is the least of what is left and the applied number; the broken ones, rising -/
structure CutTold (H : Hp) (t : Addr) (fl : Int) (br : List Int) : Prop where
  ex : ∃ q, H t = some (.tup [.int fl, .ref q]) ∧ H q = some (.tup (br.map V.int))
structure CutOk (room en ap : Int) (ps : List (Int × Int)) (fl : Int) (br : List Int) : Prop where
  perm : br.Perm (brokenOf room en ps)
  up : br.Pairwise (· ≤ ·)
  mem : fl ∈ leftOf room en ps ++ [ap]
  least : ∀ y ∈ leftOf room en ps ++ [ap], fl ≤ y
def spCutOf : Sp := fun vs H Q _ => ∃ (t : Addr) (room en ap : Int) (ps : List (Int × Int)), vs = [.int room, .ref t, .int en, .int ap] ∧ TupAt H t ps ∧ (1 ≤ room ∧ room ≤ 400) ∧ (0 ≤ en ∧ en ≤ 1000000) ∧ (0 ≤ ap ∧ ap ≤ en) ∧ ps.length ≤ 900 ∧
  ∀ p H' fl br, Same H H' → H p = none → CutTold H' p fl br → CutOk room en ap ps fl br → Q (.ref p) H'
theorem lc_pairs {K : PySem.W.Frag} {t : Addr} {as : List Addr} {ps : List (Int × Int)} {i j : Nat} {tt : TT} {te : TE} {σ : L2.St} {H1 : Hp} {D : Addr} {Qd : Hp → Prop} (f : Int × Int → Bool) (gv : Int × Int → V)
    (ht : SqT K H1 t (as.map V.ref)) (hp : PairsAt H1 as ps) (hl : ps.length ≤ 900) (hD : H1 D = none)
    (wp : ∀ x : Int × Int, wipe (((wipe σ [i, j]).set i (some (.int x.1))).set j (some (.int x.2))) [i, j] = wipe σ [i, j])
    (rd : ∀ (x : Int × Int) (H : Hp) (B : Bool → Hp → Prop), B (f x) H → tt (((wipe σ [i, j]).set i (some (.int x.1))).set j (some (.int x.2))) H B)
    (re : ∀ (x : Int × Int) (H : Hp) (Q : VK), Q (gv x) H → te (((wipe σ [i, j]).set i (some (.int x.1))).set j (some (.int x.2))) H Q)
    (hd : ∀ H, Same H1 H → H D = some (.lst ((ps.filter f).map gv)) → Qd H) :
    ∃ W : Nat → Nat → Hp → Prop, (∃ m, W 0 m (upd H1 D (.lst []))) ∧ ∀ n m H, W n m H →
      ((Itt K t).stop n H ∧ Qd H) ∨ ((Itt K t).go n H ∧ ∃ Nx : Hp → Prop, (∀ H', Nx H' → ∃ m', m' < m ∧ W (n + 1) m' H') ∧ ∀ x H', (Itt K t).yld n H x H' → gTup K 2 (gCons (gName i) (gCons (gName j) gNil)) x (wipe σ [i, j]) H' fun σ2 H2 => wipe σ2 [i, j] = wipe σ [i, j] ∧ tt σ2 H2 fun b H3 =>
        if b = true then te σ2 H3 fun y H4 => ∃ acc, H4 D = some (.lst acc) ∧ acc.length < sizeLine ∧ Nx (upd H4 D (.lst (acc ++ [y]))) else Nx H3) := by
  have hlen := (pairAll hp).1
  have sqt : ∀ {H : Hp}, Same H1 H → SqT K H t (as.map V.ref) := fun {H} s => by
    rcases ht with (e | ⟨o, e⟩) | e
    · exact .inl (.inl (s _ _ e))
    · exact .inl (.inr ⟨o, s _ _ e⟩)
    · exact .inr e
  refine lc_tup (xs := as.map V.ref) (fun n H => Same H1 H ∧ H D = some (.lst (((ps.take n).filter f).map gv))) ⟨same_upd (Same.refl _) hD, upd_same⟩ (fun n H _ z => sqt z.1) ?_ ?_
  · rintro n x H hn ⟨s1, hDn⟩
    obtain ⟨a, ha, rfl⟩ := refs_get hn
    obtain ⟨y, hy, hay⟩ := (pairAll hp).2 n a ha
    refine s_gtup (SqT.of (s1 _ _ hay)) rfl ?_
    refine s_gcons (s_gname (s_gcons (s_gname (s_gnil ?_))))
    refine ⟨wp y, rd y _ _ ?_⟩
    have ts : ps.take (n + 1) = ps.take n ++ [y] := take_succ_of hy
    have nlt : n < ps.length := (List.getElem?_eq_some_iff.mp hy).1
    refine s_if (fun c => ?_) (fun c => ?_)
    · refine re y _ _ ⟨_, hDn, ?_, ?_, ?_⟩
      · have := List.length_filter_le f (ps.take n)
        rw [List.length_take] at this
        rw [List.length_map]
        exact small1000 (by omega)
      · intro b o e
        rw [upd_ne (ne_of_none e hD)]
        exact s1 _ _ e
      · rw [upd_same, ts, List.filter_append, List.map_append]
        simp [c]
    · refine ⟨s1, ?_⟩
      rw [hDn, ts, List.filter_append, List.map_append]
      simp [c]
  · rintro H ⟨s1, hDn⟩
    rw [List.length_map, hlen, List.take_length] at hDn
    exact hd H s1 hDn
theorem c_cut_of (T : Txt K mg A) : C8.Cal P w K mg base 3 "cut_of" spCutOf [] := by
  obtain ⟨f, fd, D, B⟩ := T.d_cut_of
  refine C8.cal0 D B .nil sc_cut_of (fun vs H Q E h => ?_) (fun cdv A' outer s H vs Q E hr h => ?_)
  · obtain ⟨t, room, en, ap, ps, rfl, _⟩ := h
    rfl
  · obtain ⟨t, room, en, ap, ps, rfl, ⟨as, hF, hp⟩, hroom, hen, hap, hl, q⟩ := h
    have hu := hr.units
    have hu1 := hu_of hr
    have nd := sc_cut_of.nd
    refine ⟨_, (pss_cons (ps_expr (C8.pe_c (c_look_room T) hr (by decide) (by rfl) (pa_cons (pv 0) pa_nil)))
      (pss_cons (ps_expr (C8.pe_c (c_look_place T) hr (by decide) (by rfl) (pa_cons (pv 2) pa_nil)))
      (pss_cons (ps_if (pt_not (pt_val (C8.pe_c (c_is_upto T) hr (by decide) (by rfl) (pa_cons (pv 3) (pa_cons (pv 2) pa_nil))))) (pss_one ps_never) pss_nil)
      (pss_cons (ps_set (i := 4) nd rfl (Or.inl rfl) (pe_callB (k_sortedD K hu) (by rfl) T.b_sorted (by decide +kernel) (pa_cons (pe_lc (own := [("house", 5), ("place", 6)]) rfl nd (ki_tup K (pv 1)) (blkOk_by (N := ["room", "slots", "end", "applied", "broken", "house", "place", "left"]) (sc := C8.fnScope s_cut_of) (own := [("house", 5), ("place", 6)]) (by decide +kernel)) (fun _ _ _ _ _ => (kg_tup K (n := 2) rfl (pgs_cons (pg_name (i := 5) nd rfl (Or.inl rfl)) (pgs_cons (pg_name (i := 6) nd rfl (Or.inl rfl)) pgs_nil)))) (fun _ _ _ _ _ => pts_one (pt_cmpR (k_lt K hu) (pe_op (k_add K) (pv 6) (pv 0)) (pv 2) (nomark _))) (fun _ _ _ _ _ => (pv 5))) pa_nil)))
      (pss_cons (ps_setLc (i := 7) (own := [("house", 5), ("place", 6)]) rfl nd rfl rfl (sw_true rfl rfl rfl (by decide +kernel)) (ki_tup K (pv 1)) (blkOk_by (N := ["room", "slots", "end", "applied", "broken", "house", "place", "left"]) (sc := C8.fnScope s_cut_of) (own := [("house", 5), ("place", 6)]) (by decide +kernel)) (fun _ _ _ _ _ => (kg_tup K (n := 2) rfl (pgs_cons (pg_name (i := 5) nd rfl (Or.inl rfl)) (pgs_cons (pg_name (i := 6) nd rfl (Or.inl rfl)) pgs_nil)))) (fun _ _ _ _ _ => pts_one (pt_cmpR op_ge (pe_op (k_add K) (pv 6) (pv 0)) (pv 2) (nomark _))) (fun _ _ _ _ _ => (pv 6)))
      (pss_one (ps_ret (pe_tup (pa_cons (pe_callB (k_min K rfl) (by rfl) T.b_min (by decide +kernel) (pa_cons (pe_op (k_add K) (pv 7) (pe_lst (pa_cons (pv 3) pa_nil))) pa_nil)) (pa_cons (pe_callTy (k_tuple K) (by rfl) T.b_tuple (by decide +kernel) (pa_cons (pv 4) pa_nil)) pa_nil)))))))))), ?_⟩
    refine (start_of (σ := [some (.int room), some (.ref t), some (.int en), some (.int ap), none, none, none, none]) rfl ?_)
    walk_at "go"
    refine ⟨room, rfl, hroom, ?_⟩
    walk_at "go"
    refine ⟨en, rfl, hen, ?_⟩
    walk_at "go"
    refine ⟨ap, en, rfl, ?_⟩
    walk_at "go"
    refine s_ifF (by simp [hap]) ?_
    walk_at "go"
    refine s_itup2 hF.sq fun D1 hD1 => lc_pairs (fun p => decide (p.2 + room < en)) (fun p => .int p.1) hF.sq hp hl hD1 (fun _ => rfl) (fun x H B h => ?_) (fun x H Q h => ?_) fun H1 s1 h1 => ?_
    · walk_at "go"
      exact h
    · walk_at "go"
      exact h
    walk_at "go"
    have e1 : (ps.filter fun p => decide (p.2 + room < en)).map (fun p => V.int p.1) = (brokenOf room en ps).map V.int := by
      unfold brokenOf
      rw [List.map_map]
      rfl
    rw [e1] at h1
    refine s_sortDI (.inl (SqL.of h1)) fun br L1 hperm hup hL1 => ?_
    walk_at "go"
    have n1 : D1 ≠ L1 := ne_of_none h1 hL1
    have s2 : Same H (upd H1 L1 (.lst (br.map V.int))) := same_upd s1 hL1
    have hL0 : H L1 = none := s1.free hL1
    have hF2 : FzT (upd H1 L1 (.lst (br.map V.int))) t (as.map V.ref) := let ⟨o, h1, h2⟩ := hF; ⟨o, h1, s2 _ _ h2⟩
    refine s_itup2 hF2.sq fun D2 hD2 => lc_pairs (fun p => decide (en ≤ p.2 + room)) (fun p => .int p.2) hF2.sq (hp.same s2) hl hD2 (fun _ => rfl) (fun x H B h => ?_) (fun x H Q h => ?_) fun H2 s3 h2 => ?_
    · walk_at "go"
      exact h
    · walk_at "go"
      exact h
    walk_at "go"
    have e2 : (ps.filter fun p => decide (en ≤ p.2 + room)).map (fun p => V.int p.2) = (leftOf room en ps).map V.int := by
      unfold leftOf
      rw [List.map_map]
      rfl
    rw [e2] at h2
    refine ⟨by show 1 ≤ sizeLine; decide, fun L2 hL2 => ?_⟩
    have hll : (leftOf room en ps).length ≤ 900 := by
      unfold leftOf
      rw [List.length_map]
      have := List.length_filter_le (fun p : Int × Int => decide (en ≤ p.2 + room)) ps
      omega
    refine s_addL (xs := (leftOf room en ps).map V.int) (ys := [V.int ap]) (by walk_at "get") upd_same (by rw [List.length_map]; exact Nat.le_trans (Nat.add_le_add_right hll 1) (by decide)) fun L3 hL3 => ?_
    walk_at "go"
    have e3 : (leftOf room en ps).map V.int ++ [V.int ap] = (leftOf room en ps ++ [ap]).map V.int := by simp
    refine ⟨L3, _, rfl, SqL.of (by rw [e3]; exact upd_same), by simp, fun fl hm hle => ?_⟩
    walk_at "go"
    have hbr : upd (upd H2 L2 (.lst [V.int ap])) L3 (.lst ((leftOf room en ps).map V.int ++ [V.int ap])) L1 = some (.lst (br.map V.int)) := get_new hL3 (get_new hL2 (s3 _ _ upd_same))
    refine ⟨L1, _, rfl, .inl ⟨SqL.of hbr, fun q1 hq1 => ?_⟩⟩
    walk_at "go"
    refine ⟨by show 2 ≤ sizeLine; decide, fun p1 hp1 => ?_⟩
    have st : Same H (upd (upd (upd (upd H2 L2 (.lst [V.int ap])) L3 (.lst ((leftOf room en ps).map V.int ++ [V.int ap]))) q1 (.tup (br.map V.int))) p1 (.tup [.int fl, .ref q1])) := fun b o e =>
      get_new hp1 (get_new hq1 (get_new hL3 (get_new hL2 (s3 _ _ (s2 _ _ e)))))
    have hp0 : H p1 = none := by
      cases e : H p1 with
      | none => rfl
      | some u => have := get_new (u := .tup (br.map V.int)) hq1 (get_new (u := .lst ((leftOf room en ps).map V.int ++ [V.int ap])) hL3 (get_new (u := .lst [V.int ap]) hL2 (s3 _ _ (s2 _ _ e)))); rw [hp1] at this; cases this
    exact q p1 _ fl br st hp0 ⟨q1, upd_same, get_new hp1 upd_same⟩ ⟨hperm, hup, hm, hle⟩
/-! ### cut_for -/
def spCutFor (A : Adr) : Sp := fun vs H Q _ => ∃ (p d : Addr) (room en ap : Int) (ps : List (Int × Int)), vs = [.ref p, .int en, .int ap] ∧ SlotsAt A H p d room ps ∧ (1 ≤ room ∧ room ≤ 400) ∧ (0 ≤ en ∧ en ≤ 1000000) ∧ (0 ≤ ap ∧ ap ≤ en) ∧ ps.length ≤ 900 ∧
  ∀ t d' H' fl br, CutTold H' t fl br → CutOk room en ap (rising ps) fl br → SlotsAt A H' p d' room (ps.filter fun x => decide (en ≤ x.2 + room)) → (∀ b o, H b = some o → b ≠ p → H' b = some o) → Q (.ref t) H'
theorem filter_drop : ∀ (br : List Int) (ps : List (Int × Int)), (br.foldl (fun (l : List (Int × Int)) h => l.filter fun x => decide (x.1 ≠ h)) ps) = ps.filter fun x => decide (x.1 ∉ br) := by
  intro br
  induction br with
  | nil => intro ps; exact (List.filter_eq_self.mpr fun x _ => by simp).symm
  | cons h br ih =>
    intro ps
    rw [List.foldl_cons, ih, List.filter_filter]
    congr 1
    funext x
    by_cases c : x.1 = h <;> simp [c]
theorem c_Slots_cut_for (T : Txt K mg A) : C8.Met P w K mg base 4 A.Slots "cut_for" (spCutFor A) [] := by
  obtain ⟨f, fd, M, F, B⟩ := T.d_Slots_cut_for
  refine C8.met0 T.k_Slots M F B sc_Slots_cut_for (fun vs H Q E h => ?_) (fun cdv A' outer s H vs Q E hr h => ?_)
  · obtain ⟨p, d, room, en, ap, ps, rfl, _⟩ := h
    rfl
  · obtain ⟨p, d, room, en, ap, ps, rfl, S, hroom, hen, hap, hl, q⟩ := h
    have hu := hr.units
    have hu1 := hu_of hr
    have nd := sc_Slots_cut_for.nd
    obtain ⟨⟨dx, ob⟩, dc, nds, hs⟩ := id S
    refine ⟨_, (pss_cons (ps_asg (C8.pe_c (c_cut_of T) hr (by decide) (by rfl) (pa_cons (k_fld K (pv 0) rfl) (pa_cons (C8.pe_mt0 (c_Slots_held T) hr (by decide) (pv 0)) (pa_cons (pv 1) (pa_cons (pv 2) pa_nil))))) (kg_tup K (n := 2) rfl (pgs_cons (pg_name (i := 3) nd rfl (Or.inl rfl)) (pgs_cons (pg_name (i := 4) nd rfl (Or.inl rfl)) pgs_nil))))
      (pss_cons (ps_for PassesOwn.never rfl (ki_tup K (pv 4)) (pg_name (i := 5) nd rfl (Or.inl rfl)) (pss_one (ps_expr (C8.pe_mt (c_Slots_free T) hr (by decide) (pv 0) (pa_cons (pv 5) pa_nil)))))
      (pss_one (ps_ret (pe_tup (pa_cons (pv 3) (pa_cons (pv 4) pa_nil))))))), ?_⟩
    refine (start_of (σ := [some (.ref p), some (.int en), some (.int ap), none, none, none]) rfl ?_)
    walk_at "go"
    refine ⟨p, d, room, ps, rfl, S, fun t1 H1 s1 ht1 ht => ?_⟩
    walk_at "go"
    have hlr : (rising ps).length ≤ 900 := by rw [(rising_perm ps).length_eq]; exact hl
    refine ⟨t1, room, en, ap, rising ps, rfl, ht, hroom, hen, hap, hlr, fun t2 H2 fl br s2 ht2 hct hok => ?_⟩
    obtain ⟨q2, hq1, hq2⟩ := id hct
    walk_at "go"
    refine s_gtup (SqT.of hq1) rfl ?_
    walk_at "go"
    have S2 : SlotsAt A H2 p d room ps := ⟨⟨dx, s2 _ _ (s1 _ _ ob)⟩, s2 _ _ (s1 _ _ dc), nds, hs⟩
    have hbs : ∀ h ∈ br, 0 ≤ h ∧ h ≤ 7 := fun h hh => by
      have := hok.perm.mem_iff.mp hh
      unfold brokenOf at this
      obtain ⟨x, hx, rfl⟩ := List.mem_map.mp this
      exact (hs x ((rising_perm ps).mem_iff.mp (List.mem_filter.mp hx).1)).1
    refine s_itup2 (SqT.of hq2) (f_tup (xs := br.map V.int) (fun i σ H' => ∃ (d' : Addr) (v : Option V), σ = [some (.ref p), some (.int en), some (.int ap), some (.int fl), some (.ref q2), v] ∧
      SlotsAt A H' p d' room ((br.take i).foldl (fun (l : List (Int × Int)) h => l.filter fun x => decide (x.1 ≠ h)) ps) ∧ ∀ b o, H2 b = some o → b ≠ p → H' b = some o) ⟨d, none, rfl, S2, fun _ _ e _ => e⟩ (fun i σ H' _ ⟨d', v, _, S', fr⟩ => ?_) ?_ ?_)
    · have obp : H2 p = some _ := s2 _ _ (s1 _ _ ob)
      exact SqT.of (fr _ _ hq2 (ne_of hq2 obp (by intro z; cases z)))
    · rintro i x σ H' hi ⟨d', v, rfl, S', fr⟩
      obtain ⟨h, hh, rfl⟩ := map_get hi
      obtain ⟨⟨dx', ob'⟩, dc', nd', hs'⟩ := id S'
      walk_at "go"
      have hln : ((br.take i).foldl (fun (l : List (Int × Int)) h => l.filter fun x => decide (x.1 ≠ h)) ps).length ≤ 900 := by
        rw [filter_drop]
        exact Nat.le_trans (List.length_filter_le _ _) hl
      refine ⟨p, d', room, h, _, rfl, S', hbs h (List.mem_of_getElem? hh), hln, fun d3 H3 hd3 S3 fr3 => ?_⟩
      walk_at "go"
      refine ⟨d3, _, rfl, ?_, fun b o e nb => fr3 b o (fr b o e nb) nb⟩
      rw [take_succ_of hh, List.foldl_append]
      exact S3
    · rintro σ H' ⟨d', v, rfl, S', fr⟩
      rw [List.length_map, List.take_length, filter_drop] at S'
      walk_at "go"
      refine ⟨by show 2 ≤ sizeLine; decide, fun t3 ht3 => ?_⟩
      have obp : H2 p = some _ := s2 _ _ (s1 _ _ ob)
      have e1 : (ps.filter fun x => decide (x.1 ∉ br)) = ps.filter fun x => decide (en ≤ x.2 + room) := by
        refine List.filter_congr fun x hx => ?_
        have : x.1 ∈ br ↔ x.2 + room < en := by
          rw [hok.perm.mem_iff]
          unfold brokenOf
          constructor
          · intro hm
            obtain ⟨y, hy, e⟩ := List.mem_map.mp hm
            obtain ⟨hy1, hy2⟩ := List.mem_filter.mp hy
            have hy3 := (rising_perm ps).mem_iff.mp hy1
            have : y = x := by
              obtain ⟨i, hi⟩ := List.mem_iff_getElem?.mp hy3
              obtain ⟨j, hj⟩ := List.mem_iff_getElem?.mp hx
              have ei : (ps.map (·.1))[i]? = some x.1 := by rw [List.getElem?_map, hi, ← e]; rfl
              have ej : (ps.map (·.1))[j]? = some x.1 := by rw [List.getElem?_map, hj]; rfl
              have eij := (List.getElem?_inj (List.getElem?_eq_some_iff.mp ei).1 nds).mp (ei.trans ej.symm)
              subst eij
              rw [hi] at hj
              exact Option.some.inj hj
            subst this
            simpa using hy2
          · intro hlt
            exact List.mem_map.mpr ⟨x, List.mem_filter.mpr ⟨(rising_perm ps).mem_iff.mpr hx, by simpa using hlt⟩, rfl⟩
        by_cases c : x.2 + room < en
        · have c2 : x.1 ∈ br := this.mpr c
          have c3 : ¬ en ≤ x.2 + room := by omega
          simp [c2, c3]
        · have c2 : x.1 ∉ br := fun z => c (this.mp z)
          have c3 : en ≤ x.2 + room := by omega
          simp [c2, c3]
      rw [e1] at S'
      obtain ⟨⟨dx', ob'⟩, dc', nd', hs'⟩ := id S'
      refine q t3 d' _ fl br ⟨q2, upd_same, get_new ht3 (fr _ _ hq2 (ne_of hq2 obp (by intro z; cases z)))⟩ hok ⟨⟨dx', get_new ht3 ob'⟩, get_new ht3 dc', nd', hs'⟩ fun b o e nb => get_new ht3 (fr b o (s2 _ _ (s1 _ _ e)) nb)
end
end Toy

set_option Elab.async false
set_option linter.all false
set_option maxRecDepth 100000
set_option maxHeartbeats 4000000
namespace Toy
open PySem PySem.Spec PyProof.Rows L2 Lt
local macro_rules
  | `(tactic| walk_at "get") => `(tactic| first
    | assumption
    | exact upd_same
    | ((with_reducible refine' get_new ?g1 ?g2); (case g1 => assumption); (case g2 => walk_at "get"))
    | ((with_reducible refine' get_ne ?g1 ?g2); (case g1 => assumption); (case g2 => walk_at "get"))
    | ((with_reducible refine' get_dif ?g1 ?g2 ?g3); (case g1 => walk_at "get"); (case g2 => walk_at "get"); (case g3 => (intro z; cases z)))
    | (refine' (by assumption : Same _ _) _ _ ?g1; (case g1 => walk_at "get")))
local macro_rules
  | `(tactic| walk_at "cls") => `(tactic| first | assumption | (apply Txt.k_Slots; assumption) | (apply Txt.na_Slots_most; assumption) | (apply Txt.na_Slots_places; assumption))
local macro_rules
  | `(tactic| walk_at "sq") => `(tactic| first
    | assumption
    | exact SqL.of (by walk_at "get")
    | exact SqT.of (by walk_at "get")
    | exact FzT.sq (by assumption)
    | exact Same.seq (by assumption) (by assumption))
local macro_rules
  | `(tactic| walk_at "st") => `(tactic| first
    | with_reducible refine s_seq ?_
    | with_reducible refine s_cons ?_
    | with_reducible refine s_nil ?_
    | ((with_reducible refine' s_var ?g1 ?g2); (case g1 => rfl))
    | with_reducible refine s_c ?_
    | with_reducible refine s_op ?_
    | with_reducible refine s_addI ?_
    | with_reducible refine s_i0 ?_
    | with_reducible refine s_ret ?_
    | with_reducible refine s_retN ?_
    | with_reducible refine s_drop ?_
    | with_reducible refine s_next ?_
    | with_reducible refine s_ifs ?_
    | with_reducible refine s_asg ?_
    | with_reducible refine s_gname ?_
    | with_reducible refine s_gnil ?_
    | with_reducible refine s_gcons ?_
    | with_reducible refine s_gsub ?_
    | with_reducible refine s_un ?_
    | with_reducible refine s_cb ?_
    | with_reducible refine s_call ?_
    | with_reducible refine s_meth ?_
    | ((with_reducible refine' s_meth2 ?g1 ?g2 ?g3); (case g1 => walk_at "get"); (case g2 => rfl))
    | with_reducible refine s_test ?_
    | with_reducible refine s_tb ?_
    | with_reducible refine s_exbl ?_
    | with_reducible refine s_exint ?_
    | with_reducible refine s_and ?_
    | with_reducible refine s_or ?_
    | with_reducible refine s_not ?_
    | with_reducible refine s_andV ?_
    | with_reducible refine s_orV ?_
    | with_reducible refine s_notV ?_
    | with_reducible refine s_ifx ?_
    | with_reducible refine s_yes ?_
    | with_reducible refine s_tup ?_
    | with_reducible refine s_lst ?_
    | with_reducible refine s_fld ?_
    | ((with_reducible refine' s_fld2 ?g1 ?g2 ?g3 ?g4 ?g5); (case g1 => walk_at "get"); (case g2 => walk_at "cls"); (case g3 => walk_at "cls"); (case g4 => rfl))
    | with_reducible refine s_sfld ?_
    | with_reducible refine s_sl ?_
    | with_reducible refine s_nopart ?_
    | with_reducible refine s_part ?_
    | with_reducible refine s_for ?_
    | with_reducible refine s_ilist ?_
    | with_reducible refine s_itup ?_
    | with_reducible refine s_irng1 ?_
    | with_reducible refine s_bm ?_
    | with_reducible refine s_bm0 ?_
    | with_reducible refine s_dget ?_
    | with_reducible refine s_din ?_
    | with_reducible refine s_dnotin ?_
    | with_reducible refine s_dput ?_
    | with_reducible refine s_dget2 ?_
    | with_reducible refine s_dget1 ?_
    | with_reducible refine s_eqI ?_
    | with_reducible refine s_eqS ?_
    | with_reducible refine s_neI ?_
    | with_reducible refine s_neB ?_
    | with_reducible refine s_neS ?_
    | with_reducible refine s_ltI ?_
    | with_reducible refine s_isN ?_
    | with_reducible refine s_isNotN ?_
    | with_reducible refine s_chain ?_
    | with_reducible refine s_make ?_
    | with_reducible refine s_irng2 ?_
    | with_reducible refine s_intI ?_
    | with_reducible refine s_intB ?_
    | ((with_reducible refine' s_mod ?g1 ?g2); (case g1 => omega))
    | ((with_reducible refine' s_fdiv ?g1 ?g2); (case g1 => omega))
    | ((with_reducible refine' s_pow ?g1 ?g2); (case g1 => omega))
    | with_reducible refine s_dc ?_
    | with_reducible refine s_lc ?_
    | with_reducible refine s_iitems ?_
    | with_reducible refine s_ikeys ?_
    | ((with_reducible refine' s_sfld2 ?g1 ?g2 ?g3 ?g4 ?g5); (case g1 => walk_at "get"); (case g2 => walk_at "cls"); (case g3 => walk_at "cls"); (case g4 => exact len1000 rfl))
    | with_reducible refine s_ex2 ?_
    | with_reducible refine s_dnew ?_
    | ((with_reducible refine' s_ifT ?g1 ?g2); (case g1 => rfl))
    | ((with_reducible refine' s_ifF ?g1 ?g2); (case g1 => rfl))
    | with_reducible refine s_isi_non_int ?_
    | with_reducible refine s_isi_non_bool ?_
    | with_reducible refine s_isi_non_str ?_
    | with_reducible refine s_isi_non_tuple ?_
    | with_reducible refine s_isi_non_list ?_
    | with_reducible refine s_isi_bl_int ?_
    | with_reducible refine s_isi_bl_bool ?_
    | with_reducible refine s_isi_bl_str ?_
    | with_reducible refine s_isi_bl_tuple ?_
    | with_reducible refine s_isi_bl_list ?_
    | with_reducible refine s_isi_int_int ?_
    | with_reducible refine s_isi_int_bool ?_
    | with_reducible refine s_isi_int_str ?_
    | with_reducible refine s_isi_int_tuple ?_
    | with_reducible refine s_isi_int_list ?_
    | with_reducible refine s_isi_str_int ?_
    | with_reducible refine s_isi_str_bool ?_
    | with_reducible refine s_isi_str_str ?_
    | with_reducible refine s_isi_str_tuple ?_
    | with_reducible refine s_isi_str_list ?_
    | ((with_reducible refine' s_isi_tup_int ?g1 ?g2); (case g1 => walk_at "get"))
    | ((with_reducible refine' s_isi_tup_bool ?g1 ?g2); (case g1 => walk_at "get"))
    | ((with_reducible refine' s_isi_tup_str ?g1 ?g2); (case g1 => walk_at "get"))
    | ((with_reducible refine' s_isi_tup_tuple ?g1 ?g2); (case g1 => walk_at "get"))
    | ((with_reducible refine' s_isi_tup_list ?g1 ?g2); (case g1 => walk_at "get"))
    | ((with_reducible refine' s_isi_lst_int ?g1 ?g2); (case g1 => walk_at "get"))
    | ((with_reducible refine' s_isi_lst_bool ?g1 ?g2); (case g1 => walk_at "get"))
    | ((with_reducible refine' s_isi_lst_str ?g1 ?g2); (case g1 => walk_at "get"))
    | ((with_reducible refine' s_isi_lst_tuple ?g1 ?g2); (case g1 => walk_at "get"))
    | ((with_reducible refine' s_isi_lst_list ?g1 ?g2); (case g1 => walk_at "get"))
    | ((with_reducible refine' s_isi_dK_int ?g1 ?g2); (case g1 => walk_at "get"))
    | ((with_reducible refine' s_isi_dK_bool ?g1 ?g2); (case g1 => walk_at "get"))
    | ((with_reducible refine' s_isi_dK_str ?g1 ?g2); (case g1 => walk_at "get"))
    | ((with_reducible refine' s_isi_dK_tuple ?g1 ?g2); (case g1 => walk_at "get"))
    | ((with_reducible refine' s_isi_dK_list ?g1 ?g2); (case g1 => walk_at "get")))
local macro_rules
  | `(tactic| walk_at "go") => `(tactic| (repeat walk_at "st"))

section
variable {P : Program} {w : World} {K : PySem.W.Frag} {mg : Str → Option Value} {base : Heap} {A : Adr}
structure DeckAt (H : Hp) (q c r : Addr) (cells rests : List Int) (count : Int) : Prop where
  dk : H q = some (.lst [.ref c, .int count, .ref r])
  ce : H c = some (.lst (cells.map V.int))
  re : H r = some (.lst (rests.map V.int))
  qc : q ≠ c
  qr : q ≠ r
  cr : c ≠ r
  len : rests.length = cells.length
  pos : 0 < cells.length
def spDeck (K : PySem.W.Frag) : Sp := fun vs H Q _ => ∃ (a : Addr) (ns : List Int), vs = [.ref a] ∧ SqL K H a (ns.map V.int) ∧ ns.length ≤ 63 ∧
  ∀ q c r cells rests H', Same H H' → H q = none → H r = none → DeckAt H' q c r cells rests 0 → Q (.ref q) H'
theorem cut_63 {ns : List Int} (h : ns.length ≤ 63) : cutV (ns.map V.int) none (some 63) = ns.map V.int := by
  unfold cutV
  rw [show HT.sIx (ns.map V.int).length 0 none = 0 from rfl]
  have e : HT.sIx (ns.map V.int).length (ns.map V.int).length (some 63) = (ns.map V.int).length := by
    show (if (63 : Int) < 0 then ((63 : Int) + ((ns.map V.int).length : Int)).toNat else min (63 : Int).toNat (ns.map V.int).length) = _
    rw [if_neg (by decide), List.length_map]
    show min 63 ns.length = ns.length
    omega
  rw [e, List.drop_zero, Nat.sub_zero, List.take_length]
theorem c__law_deck (T : Txt K mg A) : C8.Cal P w K mg base 1 "_law_deck" (spDeck K) [] := by
  obtain ⟨f, fd, D, B⟩ := T.d__law_deck
  refine C8.cal0 D B .nil sc__law_deck (fun vs H Q E h => ?_) (fun cdv A' outer s H vs Q E hr h => ?_)
  · obtain ⟨a, ns, rfl, _⟩ := h
    rfl
  · obtain ⟨a, ns, rfl, hS, hl, q⟩ := h
    have hu := hr.units
    have hu1 := hu_of hr
    have nd := sc__law_deck.nd
    refine ⟨_, (pss_cons (ps_set (i := 1) nd rfl (Or.inl rfl) (pe_op (k_add K) (pe_callTy (k_list K) (by rfl) T.b_list (by decide +kernel) (pa_cons (pe_slice (k_sll K) (pv 0) po_none (po_some pe_int)) pa_nil)) (pe_op (k_mul K) (pe_lst (pa_cons pe_int pa_nil)) (pe_callTy k_int (by rfl) T.b_int (by decide +kernel) (pa_cons (pe_cmpR (k_eq K hu) (pe_callB (k_len K) (by rfl) T.b_len (by decide +kernel) (pa_cons (pv 0) pa_nil)) pe_int (nomark _)) pa_nil)))))
      (pss_one (ps_ret (pe_lst (pa_cons (pv 1) (pa_cons pe_int (pa_cons (pe_lc (own := [("_law_cell", 2)]) rfl nd (ki_list K (pv 1)) (blkOk_by (N := ["_law_script", "_law_cells", "_law_cell"]) (sc := C8.fnScope s__law_deck) (own := [("_law_cell", 2)]) (by decide +kernel)) (fun _ _ _ _ _ => (pg_name (i := 2) nd rfl (Or.inl rfl))) (fun _ _ _ _ _ => pts_nil) (fun _ _ _ _ _ => (pe_op (k_mul K) (pv 2) (pe_callTy k_int (by rfl) T.b_int (by decide +kernel) (pa_cons (pe_cmpR op_ge (pv 2) (pe_op op_pow pe_int pe_int) (nomark _)) pa_nil))))) pa_nil))))))), ?_⟩
    refine (start_of (σ := [some (.ref a), none, none]) rfl ?_)
    walk_at "go"
    refine ⟨a, _, rfl, hS, fun p1 hp1 => ?_⟩
    rw [cut_63 hl]
    walk_at "go"
    refine ⟨p1, _, rfl, .inl (SqL.of upd_same), fun p2 hp2 => ?_⟩
    walk_at "go"
    refine ⟨by show 1 ≤ sizeLine; decide, fun p3 hp3 => ?_⟩
    walk_at "go"
    refine s_lenL (K := K) (xs := ns.map V.int) ((same_upd (same_upd (same_upd (Same.refl _) hp1) hp2) hp3).seq hS) ?_
    walk_at "go"
    refine s_mulL (k := if decide (((ns.map V.int).length : Int) = 0) = true then 1 else 0) upd_same (by split <;> decide) (by split <;> decide) (by show 1 * _ ≤ sizeLine; split <;> decide) fun p4 hp4 => ?_
    have e0 : (List.replicate (if decide (((ns.map V.int).length : Int) = 0) = true then (1 : Int) else 0).toNat [V.int 0]).flatten = (List.replicate (if ns.length = 0 then 1 else 0) (0 : Int)).map V.int := by
      rw [List.length_map]
      by_cases c : ns.length = 0 <;> simp [c]
    rw [e0]
    refine s_addL (xs := ns.map V.int) (get_new hp4 (get_new hp3 upd_same)) upd_same (by rw [List.length_map, List.length_map, List.length_replicate]; split <;> exact Nat.le_trans (Nat.add_le_add_right hl _) (by decide)) fun p5 hp5 => ?_
    rw [← List.map_append]
    generalize hcells : ns ++ List.replicate (if ns.length = 0 then 1 else 0) (0 : Int) = cells
    have hcl : 0 < cells.length ∧ cells.length ≤ 64 := by
      rw [← hcells, List.length_append, List.length_replicate]
      split <;> omega
    walk_at "go"
    have s5 : Same H (upd (upd (upd (upd (upd H p1 (.lst (ns.map V.int))) p2 (.lst (ns.map V.int))) p3 (.lst [.int 0])) p4 (.lst ((List.replicate (if ns.length = 0 then 1 else 0) (0 : Int)).map V.int))) p5 (.lst (cells.map V.int))) :=
      same_upd (same_upd (same_upd (same_upd (same_upd (Same.refl _) hp1) hp2) hp3) hp4) hp5
    generalize hH5 : upd (upd (upd (upd (upd H p1 (.lst (ns.map V.int))) p2 (.lst (ns.map V.int))) p3 (.lst [.int 0])) p4 (.lst ((List.replicate (if ns.length = 0 then 1 else 0) (0 : Int)).map V.int))) p5 (.lst (cells.map V.int)) = H5 at s5
    have h5 : H5 p5 = some (.lst (cells.map V.int)) := by rw [← hH5]; exact upd_same
    refine s_ilist2 (SqL.of h5) fun D1 hD1 => lc_ints (fun x => x * (if decide ((10 : Int) ^ (18 : Int).toNat ≤ x) = true then 1 else 0)) (SqL.of h5) (by omega) hD1 (fun _ => rfl) (fun x H Q h => ?_) fun H6 s6 h6 => ?_
    · walk_at "go"
      refine s_mulI (.inr (by split <;> decide)) h
    · walk_at "go"
      refine ⟨by show 3 ≤ sizeLine; decide, fun q1 hq1 => ?_⟩
      have s7 : Same H5 (upd H6 q1 (.lst [.ref p5, .int 0, .ref D1])) := same_upd s6 hq1
      have q0 : H5 q1 = none := s6.free hq1
      refine q q1 p5 D1 cells _ _ (s5.trans s7) (s5.free q0) (s5.free hD1) ⟨upd_same, s7 _ _ h5, get_new hq1 h6, ?_, ?_, ne_of_none h5 hD1, by rw [List.length_map], hcl.1⟩
      · exact (ne_of_none h5 q0).symm
      · exact (ne_of_none h6 hq1).symm
def spTake : Sp := fun vs H Q _ => ∃ (q c r : Addr) (cells rests : List Int) (count many : Int), vs = [.ref q, .int many] ∧ DeckAt H q c r cells rests count ∧ (0 ≤ count ∧ count ≤ 100000) ∧ (1 ≤ many ∧ many ≤ 1000000) ∧
  ∀ m rests' H', (0 ≤ m ∧ m < many) → DeckAt H' q c r cells rests' (count + 1) → (∀ b o, H b = some o → b ≠ q → b ≠ r → H' b = some o) → Q (.int m) H'
theorem c__law_take (T : Txt K mg A) : C8.Cal P w K mg base 1 "_law_take" spTake [] := by
  obtain ⟨f, fd, D, B⟩ := T.d__law_take
  refine C8.cal0 D B .nil sc__law_take (fun vs H Q E h => ?_) (fun cdv A' outer s H vs Q E hr h => ?_)
  · obtain ⟨q, c, r, cells, rests, count, many, rfl, _⟩ := h
    rfl
  · obtain ⟨q, c, r, cells, rests, count, many, rfl, ⟨hq, hc, hrr, qc, qr, cr, hlen, hpos⟩, hcount, hmany, k⟩ := h
    have hu := hr.units
    have hu1 := hu_of hr
    have nd := sc__law_take.nd
    refine ⟨_, (pss_cons (ps_asg (pv 0) (kg_lst K (n := 3) rfl (pgs_cons (pg_name (i := 2) nd rfl (Or.inl rfl)) (pgs_cons (pg_name (i := 3) nd rfl (Or.inl rfl)) (pgs_cons (pg_name (i := 4) nd rfl (Or.inl rfl)) pgs_nil)))))
      (pss_cons (ps_set (i := 5) nd rfl (Or.inl rfl) (pe_op op_mod (pv 3) (pe_callB (k_len K) (by rfl) T.b_len (by decide +kernel) (pa_cons (pv 2) pa_nil))))
      (pss_cons (ps_asg (pe_op (k_add K) (pv 3) pe_int) (pg_sub (pv 0) pe_int set_list))
      (pss_cons (ps_if (pt_cmpR op_gt (pe_ix (k_ix K) (pv 4) (pv 5) (fun _ _ => rfl)) pe_int (nomark _)) (pss_cons (ps_set (i := 6) nd rfl (Or.inl rfl) (pe_ix (k_ix K) (pv 4) (pv 5) (fun _ _ => rfl)))
      (pss_cons (ps_asg (pe_op op_fdivW (pv 6) (pv 1)) (pg_sub (pv 4) (pv 5) set_list))
      (pss_one (ps_ret (pe_op op_mod (pv 6) (pv 1)))))) pss_nil)
      (pss_cons (ps_set (i := 7) nd rfl (Or.inl rfl) (pe_op op_mod (pe_op (k_add K) (pe_op (k_mul K) (pe_op op_mod (pe_ix (k_ix K) (pv 2) (pv 5) (fun _ _ => rfl)) pe_int) pe_int) (pe_op (k_mul K) (pe_op (k_mul K) (pe_op (k_add K) (pv 3) pe_int) (pe_op (k_add K) (pv 3) pe_int)) pe_int)) pe_int))
      (pss_cons (ps_set (i := 7) nd rfl (Or.inl rfl) (pe_op op_mod (pe_op op_pow (pv 7) pe_int) pe_int))
      (pss_cons (ps_set (i := 7) nd rfl (Or.inl rfl) (pe_op op_mod (pe_op op_pow (pe_op (k_add K) (pe_op (k_add K) (pv 7) (pe_op (k_mul K) pe_int (pv 3))) pe_int) pe_int) pe_int))
      (pss_one (ps_ret (pe_op op_mod (pe_op op_fdivW (pv 7) pe_int) (pv 1))))))))))), ?_⟩
    refine (start_of (σ := [some (.ref q), some (.int many), none, none, none, none, none, none]) rfl ?_)
    walk_at "go"
    refine s_glst (SqL.of hq) rfl ?_
    walk_at "go"
    refine s_lenL (K := K) (SqL.of hc) ?_
    rw [List.length_map]
    walk_at "go"
    refine s_setL hq (ixN_ok (by decide) (by show (1 : Int) < 3; decide)) ?_
    have hpl : 0 ≤ count % (cells.length : Int) ∧ count % (cells.length : Int) < cells.length := ⟨Int.emod_nonneg _ (by omega), Int.emod_lt_of_pos _ (by omega)⟩
    generalize hple : count % (cells.length : Int) = pl at hpl ⊢
    obtain ⟨x, hx1, hx2⟩ := atI_ok (xs := rests) (i := pl) hpl.1 (by omega)
    obtain ⟨y, hy1, hy2⟩ := atI_ok (xs := cells) (i := pl) hpl.1 hpl.2
    have h1c : upd H q (.lst ([V.ref c, .int count, .ref r].set 1 (.int (count + 1)))) c = some (.lst (cells.map V.int)) := by rw [upd_ne (Ne.symm qc)]; exact hc
    have h1r : upd H q (.lst ([V.ref c, .int count, .ref r].set 1 (.int (count + 1)))) r = some (.lst (rests.map V.int)) := by rw [upd_ne (Ne.symm qr)]; exact hrr
    walk_at "go"
    refine s_ixL (SqL.of h1r) (atI_map hx2) ?_
    walk_at "go"
    refine s_ifD (fun hx => ?_) (fun hx => ?_)
    · walk_at "go"
      refine s_ixL (SqL.of h1r) (atI_map hx2) ?_
      walk_at "go"
      refine s_setL h1r (ixN_ok hpl.1 (by rw [List.length_map]; omega)) ?_
      walk_at "go"
      refine k (x % many) (rests.set pl.toNat (x / many)) _ ⟨Int.emod_nonneg _ (by omega), Int.emod_lt_of_pos _ (by omega)⟩ ⟨by rw [upd_ne qr]; exact upd_same, by rw [upd_ne cr]; exact h1c, ?_, qc, qr, cr, by rw [List.length_set]; exact hlen, hpos⟩ fun b o e nq nr => by rw [upd_ne nr, upd_ne nq]; exact e
      rw [upd_same, List.map_set]
    · walk_at "go"
      refine s_ixL (SqL.of h1c) (atI_map hy2) ?_
      walk_at "go"
      have b1 : 0 ≤ y % 2147483629 ∧ y % 2147483629 < 2147483629 := ⟨Int.emod_nonneg _ (by decide), Int.emod_lt_of_pos _ (by decide)⟩
      generalize y % 2147483629 = y1 at b1 ⊢
      refine s_mulI (.inr (by decide)) ?_
      walk_at "go"
      refine s_mulI (.inr ⟨by omega, by omega⟩) ?_
      walk_at "go"
      refine s_mulI (.inr (by decide)) ?_
      walk_at "go"
      generalize (y1 * 48271 + (count + 11) * (count + 11) * 7919) % 2147483647 = z0
      have b2 : 0 ≤ z0 ^ Int.toNat 3 % 2147483629 ∧ z0 ^ Int.toNat 3 % 2147483629 < 2147483629 := ⟨Int.emod_nonneg _ (by decide), Int.emod_lt_of_pos _ (by decide)⟩
      generalize z0 ^ Int.toNat 3 % 2147483629 = z1 at b2 ⊢
      refine s_mulI (.inl (by decide)) ?_
      walk_at "go"
      refine k _ rests _ ⟨Int.emod_nonneg _ (by omega), Int.emod_lt_of_pos _ (by omega)⟩ ⟨upd_same, h1c, h1r, qc, qr, cr, hlen, hpos⟩ fun b o e nq nr => by rw [upd_ne nq]; exact e
/-! ### the law's own looks -/
def spWhole : Sp := fun vs H Q _ => ∃ n : Int, vs = [.int n] ∧ Q (.bl true) H
theorem c__law_whole (T : Txt K mg A) : C8.Cal P w K mg base 1 "_law_whole" spWhole [] := by
  obtain ⟨f, fd, D, B⟩ := T.d__law_whole
  refine C8.cal0 D B .nil sc__law_whole (fun vs H Q E h => ?_) (fun cdv A' outer s H vs Q E hr h => ?_)
  · obtain ⟨n, rfl, _⟩ := h
    rfl
  · obtain ⟨n, rfl, q⟩ := h
    have hu := hr.units
    have nd := sc__law_whole.nd
    refine ⟨_, (pss_one (ps_ret (pe_and (pe_callB (k_isi K) (by rfl) T.b_isinstance (by decide +kernel) (pa_cons (pv 0) (pa_cons (pe_bltn (v := .ty "int") (by rfl) T.b_int (by decide +kernel) rfl) pa_nil))) (pe_one (pe_not (pe_callB (k_isi K) (by rfl) T.b_isinstance (by decide +kernel) (pa_cons (pv 0) (pa_cons (pe_bltn (v := .ty "bool") (by rfl) T.b_bool (by decide +kernel) rfl) pa_nil)))))))), ?_⟩
    refine (start_of (σ := [some (.int n)]) rfl ?_)
    walk_at "go"
    exact q
/-- a cut that is right: a tuple is told, not None; the floor is the least; the slots left are those that stood not further than the room behind the end -/
def spCutRight (A : Adr) : Sp := fun vs H Q _ => ∃ (p d : Addr) (room en ap : Int) (ps : List (Int × Int)), vs = [.ref p, .int room, .int en, .int ap] ∧ SlotsAt A H p d room ps ∧ (1 ≤ room ∧ room ≤ 400) ∧ (0 ≤ en ∧ en ≤ 1000000) ∧ (0 ≤ ap ∧ ap ≤ en) ∧ ps.length ≤ 900 ∧
  ∀ t d' H' fl br, CutTold H' t fl br → (∀ x ∈ ps, en ≤ x.2 + room → fl ≤ x.2) → SlotsAt A H' p d' room (ps.filter fun x => decide (en ≤ x.2 + room)) → (∀ b o, H b = some o → b ≠ p → H' b = some o) → Q (.ref t) H'
theorem c__law_cut_right (T : Txt K mg A) : C8.Cal P w K mg base 5 "_law_cut_right" (spCutRight A) [] := by
  obtain ⟨f, fd, D, B⟩ := T.d__law_cut_right
  refine C8.cal0 D B .nil sc__law_cut_right (fun vs H Q E h => ?_) (fun cdv A' outer s H vs Q E hr h => ?_)
  · obtain ⟨p, d, room, en, ap, ps, rfl, _⟩ := h
    rfl
  · obtain ⟨p, d, room, en, ap, ps, rfl, S, hroom, hen, hap, hl, k⟩ := h
    have hu := hr.units
    have hu1 := hu_of hr
    have nd := sc__law_cut_right.nd
    obtain ⟨⟨dx, ob⟩, dc, nds, hs⟩ := id S
    refine ⟨_, (pss_cons (ps_set (i := 4) nd rfl (Or.inl rfl) (pe_callTy (k_dictT K rfl) (by rfl) T.b_dict (by decide +kernel) (pa_cons (C8.pe_mt0 (c_Slots_held T) hr (by decide) (pv 0)) pa_nil)))
      (pss_cons (ps_set (i := 5) nd rfl (Or.inl rfl) (C8.pe_mt (c_Slots_cut_for T) hr (by decide) (pv 0) (pa_cons (pv 2) (pa_cons (pv 3) pa_nil))))
      (pss_cons (ps_if (PW.pt (pw_or (pt_not (pt_val (pe_callB (k_isi K) (by rfl) T.b_isinstance (by decide +kernel) (pa_cons (pv 5) (pa_cons (pe_bltn (v := .ty "tuple") (by rfl) T.b_tuple (by decide +kernel) rfl) pa_nil))))) (pw_or (pt_cmpR (k_ne K hu) (pe_callB (k_len K) (by rfl) T.b_len (by decide +kernel) (pa_cons (pv 5) pa_nil)) pe_int (nomark _)) (pw_or (pt_not (pt_val (C8.pe_c (c__law_whole T) hr (by decide) (by rfl) (pa_cons (pe_ix (k_ix K) (pv 5) pe_int (fun _ _ => rfl)) pa_nil)))) (pw_or1 (pt_not (pt_val (pe_callB (k_isi K) (by rfl) T.b_isinstance (by decide +kernel) (pa_cons (pe_ix (k_ix K) (pv 5) pe_int (fun _ _ => rfl)) (pa_cons (pe_bltn (v := .ty "tuple") (by rfl) T.b_tuple (by decide +kernel) rfl) pa_nil)))))))))) (pss_one (ps_ret pe_non)) pss_nil)
      (pss_cons (ps_asg (pv 5) (kg_tup K (n := 2) rfl (pgs_cons (pg_name (i := 6) nd rfl (Or.inl rfl)) (pgs_cons (pg_name (i := 7) nd rfl (Or.inl rfl)) pgs_nil))))
      (pss_cons (ps_set (i := 8) nd rfl (Or.inr rfl) (pe_callTy (k_dictT K rfl) (by rfl) T.b_dict (by decide +kernel) (pa_cons (C8.pe_mt0 (c_Slots_held T) hr (by decide) (pv 0)) pa_nil)))
      (pss_cons (ps_if (PW.pt (pw_or (pt_cmpR (k_ne K hu) (pe_callB (k_sortedD K hu) (by rfl) T.b_sorted (by decide +kernel) (pa_cons (pe_op (k_add K) (pe_callTy (k_list K) (by rfl) T.b_list (by decide +kernel) (pa_cons (pv 7) pa_nil)) (pe_callTy (k_listD rfl) (by rfl) T.b_list (by decide +kernel) (pa_cons (pv 8) pa_nil))) pa_nil)) (pe_callB (k_sortedD K hu) (by rfl) T.b_sorted (by decide +kernel) (pa_cons (pe_callTy (k_listD rfl) (by rfl) T.b_list (by decide +kernel) (pa_cons (pv 4) pa_nil)) pa_nil)) (nomark _)) (pw_or1 (pt_cmpR (k_ne K hu) (pe_callTy (k_list K) (by rfl) T.b_list (by decide +kernel) (pa_cons (pv 7) pa_nil)) (pe_callB (k_sortedD K hu) (by rfl) T.b_sorted (by decide +kernel) (pa_cons (pv 7) pa_nil)) (nomark _))))) (pss_one (ps_ret pe_non)) pss_nil)
      (pss_cons (ps_lock (ps_for PassesOwn.never rfl (pi_keys (pv 4)) (pg_name (i := 9) nd rfl (Or.inl rfl)) (pss_one (ps_if (PW.pt (pw_or (pt_cmpR (k_ne K hu) (pe_cmpR (k_in K) (pv 9) (pv 7) (by rfl)) (pe_cmpR (k_lt K hu) (pe_op (k_add K) (pe_dget hu1 (pv 4) (pv 9) (fun _ _ => rfl)) (pv 1)) (pv 2) (nomark _)) (nomark _)) (pw_or1 (PW.pt (pw_and (pt_cmp (pc_din hu1 (pv 9) (pv 8))) (pw_and1 (pt_cmpR (k_ne K hu) (pe_dget hu1 (pv 8) (pv 9) (fun _ _ => rfl)) (pe_dget hu1 (pv 4) (pv 9) (fun _ _ => rfl)) (nomark _)))))))) (pss_one (ps_ret pe_non)) pss_nil))))
      (pss_cons (ps_set (i := 10) nd rfl (Or.inl rfl) (pe_op (k_add K) (pe_lst (pa_cons (pv 3) pa_nil)) (pe_lock (by exact (pe_lc (own := [("_law_one", 9)]) rfl nd (pi_keys (pv 8)) (blkOk_by (N := ["_law_slots", "_law_room", "_law_end", "_law_applied", "_law_ahead", "_law_told", "_law_floor", "_law_broken", "_law_left", "_law_one", "_law_bounds"]) (sc := C8.fnScope s__law_cut_right) (own := [("_law_one", 9)]) (by decide +kernel)) (fun _ _ _ _ _ => (pg_name (i := 9) nd rfl (Or.inl rfl))) (fun _ _ _ _ _ => pts_nil) (fun _ _ _ _ _ => (pe_dget hu1 (pv 8) (pv 9) (fun _ _ => rfl))))))))
      (pss_cons (ps_if (pt_cmpR (k_ne K hu) (pv 6) (pe_callB (k_min K rfl) (by rfl) T.b_min (by decide +kernel) (pa_cons (pv 10) pa_nil)) (nomark _)) (pss_one (ps_ret pe_non)) pss_nil)
      (pss_cons (ps_if (PW.pt (pw_or (pt_cmpR (k_ne K hu) (C8.pe_mt (c_Slots_cut_for T) hr (by decide) (pv 0) (pa_cons (pv 2) (pa_cons (pv 3) pa_nil))) (pe_tup (pa_cons (pv 6) (pa_cons (pe_tup pa_nil) pa_nil))) (nomark _)) (pw_or1 (pt_cmpR (k_ne K hu) (pe_callTy (k_dictT K rfl) (by rfl) T.b_dict (by decide +kernel) (pa_cons (C8.pe_mt0 (c_Slots_held T) hr (by decide) (pv 0)) pa_nil)) (pv 8) (nomark _))))) (pss_one (ps_ret pe_non)) pss_nil)
      (pss_one (ps_ret (pv 5))))))))))))), ?_⟩
    refine (start_of (σ := [some (.ref p), some (.int room), some (.int en), some (.int ap), none, none, none, none, none, none, none]) rfl ?_)
    walk_at "go"
    refine ⟨p, d, room, ps, rfl, S, fun t1 H1 s1 ht1 ⟨as1, hf1, hp1⟩ => ?_⟩
    walk_at "go"
    have npt : p ≠ t1 := ne_of_none ob ht1
    refine s_dictT hf1 hp1 (((rising_perm ps).map (·.1)).nodup_iff.mpr nds) fun D1 hD1 => ?_
    walk_at "go"
    have sa : Same H (upd H1 D1 (.dK (kvI (rising ps)))) := same_upd s1 hD1
    have npD : p ≠ D1 := ne_of_none ob (s1.free hD1)
    have Sa : SlotsAt A (upd H1 D1 (.dK (kvI (rising ps)))) p d room ps := ⟨⟨dx, sa _ _ ob⟩, sa _ _ dc, nds, hs⟩
    have ob1 : upd H1 D1 (.dK (kvI (rising ps))) p = some (.ins A.Slots dx (sfs d room)) := sa _ _ ob
    walk_at "go"
    refine ⟨p, d, room, en, ap, ps, rfl, Sa, hroom, hen, hap, hl, fun t2 d2 H2 fl br hct hok S2 fr2 => ?_⟩
    obtain ⟨q2, ht2, hq2⟩ := id hct
    have h2D : H2 D1 = some (.dK (kvI (rising ps))) := fr2 _ _ upd_same npD.symm
    walk_at "go"
    refine s_lenT (K := K) (SqT.of ht2) ?_
    walk_at "go"
    refine s_ixT (SqT.of ht2) (v := .int fl) rfl ?_
    walk_at "go"
    refine ⟨fl, rfl, ?_⟩
    walk_at "go"
    refine s_ixT (SqT.of ht2) (v := .ref q2) rfl ?_
    walk_at "go"
    refine s_gtup (SqT.of ht2) rfl ?_
    walk_at "go"
    obtain ⟨⟨dx2, ob2⟩, dc2, nds2, hs2⟩ := id S2
    walk_at "go"
    refine ⟨p, d2, room, _, rfl, S2, fun t3 H3 s3 ht3 ⟨as3, hf3, hp3⟩ => ?_⟩
    walk_at "go"
    generalize hps1 : (ps.filter fun x => decide (en ≤ x.2 + room)) = ps1 at S2 dc2 nds2 hs2 hp3 ⊢
    have nd1 : ((rising ps).map (·.1)).Nodup := ((rising_perm ps).map (·.1)).nodup_iff.mpr nds
    have nd3 : ((rising ps1).map (·.1)).Nodup := ((rising_perm ps1).map (·.1)).nodup_iff.mpr nds2
    refine s_dictT hf3 hp3 nd3 fun D3 hD3 => ?_
    walk_at "go"
    -- heap: H4 = H3 with left's dict
    have s4 : Same H2 (upd H3 D3 (.dK (kvI (rising ps1)))) := same_upd s3 hD3
    have h4L : upd H3 D3 (.dK (kvI (rising ps1))) D3 = some (.dK (kvI (rising ps1))) := upd_same
    have h4D := s4 _ _ h2D
    have h4q := s4 _ _ hq2
    have h4t := s4 _ _ ht2
    have h4p := s4 _ _ ob2
    have h4d := s4 _ _ dc2
    have lss : (rising ps).length ≤ 900 := by rw [(rising_perm ps).length_eq]; exact hl
    have lps1 : ps1.length ≤ 900 := by rw [← hps1]; exact Nat.le_trans (List.length_filter_le _ _) hl
    have lss1 : (rising ps1).length ≤ 900 := by rw [(rising_perm ps1).length_eq]; exact lps1
    have lbr : br.length ≤ 900 := by
      rw [hok.perm.length_eq]
      unfold brokenOf
      rw [List.length_map]
      exact Nat.le_trans (List.length_filter_le _ _) lss
    have nDD : D1 ≠ D3 := ne_of_none h2D (s3.free hD3)
    generalize upd H3 D3 (.dK (kvI (rising ps1))) = H4 at s4 h4L h4D h4q h4t h4p h4d ⊢
    refine s_listS (.inr (SqT.of h4q)) fun p5 hp5 => ?_
    walk_at "go"
    refine s_listD (get_new hp5 h4L) fun p6 hp6 => ?_
    walk_at "go"
    refine s_addL (get_new hp6 upd_same) upd_same (by rw [List.length_map, List.length_map, List.length_map]; exact Nat.le_trans (Nat.add_le_add lbr lss1) (by decide)) fun p7 hp7 => ?_
    rw [← List.map_append]
    walk_at "go"
    refine s_sortDI (.inl (SqL.of upd_same)) fun m1 p8 pm1 um1 hp8 => ?_
    walk_at "go"
    refine s_listD (get_new hp8 (get_new hp7 (get_new hp6 (get_new hp5 h4D)))) fun p9 hp9 => ?_
    walk_at "go"
    refine s_sortDI (.inl (SqL.of upd_same)) fun m2 p10 pm2 um2 hp10 => ?_
    walk_at "go"
    have em : m1 = m2 := by
      refine sorted_eq (pm1.trans (List.Perm.trans ?_ pm2.symm)) um1 um2
      -- the broken and the left are all
      have a1 : br.Perm ((ps.filter fun x => decide (x.2 + room < en)).map (·.1)) := hok.perm.trans ((List.Perm.filter _ (rising_perm ps)).map _)
      have a2 : ((rising ps1).map (·.1)).Perm ((ps.filter fun x => decide (en ≤ x.2 + room)).map (·.1)) := by rw [hps1]; exact (rising_perm ps1).map _
      have a3 : (ps.filter fun x => decide (en ≤ x.2 + room)) = ps.filter fun x => !decide (x.2 + room < en) := List.filter_congr fun x _ => by
        by_cases c : x.2 + room < en
        · have : ¬ en ≤ x.2 + room := by omega
          simp [c, this]
        · have : en ≤ x.2 + room := by omega
          simp [c, this]
      rw [a3] at a2
      refine (a1.append a2).trans ?_
      rw [← List.map_append]
      exact ((List.filter_append_perm _ _).trans (rising_perm ps).symm).map _
    subst em
    refine s_neSame (SqL.of (get_new hp10 (get_new hp9 upd_same))) (SqL.of upd_same) ?_
    walk_at "go"
    -- the same heap from here on: H5
    have s5 : Same H4 (upd (upd (upd (upd (upd (upd H4 p5 (.lst (br.map V.int))) p6 (.lst (((rising ps1).map (·.1)).map V.int))) p7 (.lst ((br ++ (rising ps1).map (·.1)).map V.int))) p8 (.lst (m1.map V.int))) p9 (.lst (((rising ps).map (·.1)).map V.int))) p10 (.lst (m1.map V.int))) :=
      same_upd (same_upd (same_upd (same_upd (same_upd (same_upd (Same.refl _) hp5) hp6) hp7) hp8) hp9) hp10
    generalize (upd (upd (upd (upd (upd (upd H4 p5 (.lst (br.map V.int))) p6 (.lst (((rising ps1).map (·.1)).map V.int))) p7 (.lst ((br ++ (rising ps1).map (·.1)).map V.int))) p8 (.lst (m1.map V.int))) p9 (.lst (((rising ps).map (·.1)).map V.int))) p10 (.lst (m1.map V.int))) = H5 at s5 ⊢
    refine s_listS (.inr (SqT.of (s5 _ _ h4q))) fun p11 hp11 => ?_
    walk_at "go"
    refine s_sortDI (.inr (SqT.of (get_new hp11 (s5 _ _ h4q)))) fun m3 p12 pm3 um3 hp12 => ?_
    walk_at "go"
    have em : m3 = br := sorted_eq pm3 um3 hok.up
    subst em
    refine s_neSame (SqL.of (get_new hp12 upd_same)) (SqL.of upd_same) ?_
    walk_at "go"
    have s6 : Same H4 (upd (upd H5 p11 (.lst (m3.map V.int))) p12 (.lst (m3.map V.int))) := same_upd (same_upd s5 hp11) hp12
    generalize (upd (upd H5 p11 (.lst (m3.map V.int))) p12 (.lst (m3.map V.int))) = H6 at s6 ⊢
    have h6D := s6 _ _ h4D
    have h6L := s6 _ _ h4L
    have h6q := s6 _ _ h4q
    have h6t := s6 _ _ h4t
    have h6p := s6 _ _ h4p
    refine s_lock h6D trivial fun od => ?_
    walk_at "go"
    have hqD : q2 ≠ D1 := ne_of h6q h6D (by intro z; cases z)
    have hLD : D3 ≠ D1 := Ne.symm nDD
    refine ⟨D1, od, rfl, .inl ⟨_, upd_same, f_keys (fun i σ H' => H' = upd H6 D1 (.frz od (.dK (kvI (rising ps)))) ∧ ∃ v : Option V, σ = [some (.ref p), some (.int room), some (.int en), some (.int ap), some (.ref D1), some (.ref t2), some (.int fl), some (.ref q2), some (.ref D3), v, none])
      ⟨rfl, none, rfl⟩ (fun i σ H' _ z => by rw [z.1]; exact upd_same) ?_ ?_⟩⟩
    · rintro i ky v σ H' hi ⟨rfl, v0, rfl⟩
      obtain ⟨x, hx, e⟩ : ∃ x : Int × Int, (rising ps)[i]? = some x ∧ (ky, v) = ((Sum.inl x.1 : Key), V.int x.2) := by
        unfold kvI at hi
        rw [List.getElem?_map] at hi
        cases e : (rising ps)[i]? with
        | none => rw [e] at hi; cases hi
        | some x => rw [e] at hi; exact ⟨x, rfl, (Option.some.inj hi).symm⟩
      cases e
      have hxm : x ∈ rising ps := List.mem_of_getElem? hx
      have hxp : x ∈ ps := (rising_perm ps).mem_iff.mp hxm
      have hxb : x.1 ∈ m3 ↔ x.2 + room < en := by
        rw [hok.perm.mem_iff]
        unfold brokenOf
        constructor
        · intro hm
          obtain ⟨y, hy, e⟩ := List.mem_map.mp hm
          obtain ⟨hy1, hy2⟩ := List.mem_filter.mp hy
          have e1 := lookI_of nd1 hy1
          have e2 := lookI_of nd1 hxm
          rw [e, e2] at e1
          have e3 : x.2 = y.2 := Option.some.inj e1
          rw [e3]
          simpa using hy2
        · intro hlt
          exact List.mem_map.mpr ⟨x, List.mem_filter.mpr ⟨hxm, by simpa using hlt⟩, rfl⟩
      show gName 9 (V.int x.1) _ _ _
      walk_at "go"
      refine s_inD (.inr (SqT.of (by rw [upd_ne hqD]; exact h6q))) rfl (flat_ints _) ?_
      rw [inV_ints]
      walk_at "go"
      refine ⟨D1, _, rfl, .inl ⟨_, Sum.inl x.1, .inr ⟨od, upd_same⟩, rfl, by rw [kvI_val, lookI_of nd1 hxm]; rfl⟩, ?_⟩
      walk_at "go"
      refine s_ifF (by rw [Bool.not_eq_false', decide_eq_true_eq]; exact decide_eq_decide.mpr hxb) ?_
      walk_at "go"
      have h7L : upd H6 D1 (.frz od (.dK (kvI (rising ps)))) D3 = some (.dK (kvI (rising ps1))) := by rw [upd_ne hLD]; exact h6L
      refine ⟨D3, _, rfl, DGet.k (k := Sum.inl x.1) h7L, ?_⟩
      rw [kvI_val]
      cases hlk : lookI (rising ps1) x.1 with
      | none =>
        walk_at "go"
        exact ⟨rfl, _, rfl⟩
      | some y =>
        walk_at "go"
        refine ⟨D3, _, rfl, .inl ⟨_, Sum.inl x.1, .inl h7L, rfl, by rw [kvI_val, hlk]; rfl⟩, ?_⟩
        walk_at "go"
        refine ⟨D1, _, rfl, .inl ⟨_, Sum.inl x.1, .inr ⟨od, upd_same⟩, rfl, by rw [kvI_val, lookI_of nd1 hxm]; rfl⟩, ?_⟩
        walk_at "go"
        have hy : (x.1, y) ∈ ps1 := (rising_perm ps1).mem_iff.mp (lookI_mem hlk)
        have hy2 : y = x.2 := by
          rw [← hps1] at hy
          have e1 := lookI_of nds (List.mem_filter.mp hy).1
          have e2 := lookI_of nds hxp
          rw [show ((x.1, y) : Int × Int).1 = x.1 from rfl, e2] at e1
          exact (Option.some.inj e1).symm
        refine s_ifF (by simp [hy2]) ?_
        exact ⟨rfl, _, rfl⟩
    · rintro σ H' ⟨rfl, v0, rfl⟩
      refine ⟨upd_same, ?_⟩
      rw [upd_back h6D]
      walk_at "go"
      refine ⟨by show 1 ≤ sizeLine; decide, fun p13 hp13 => ?_⟩
      have h8L : upd H6 p13 (.lst [V.int ap]) D3 = some (.dK (kvI (rising ps1))) := get_new hp13 h6L
      refine s_lockE h8L trivial fun od3 => ?_
      walk_at "go"
      refine ⟨D3, od3, rfl, .inl ⟨_, upd_same, fun D5 hD5 => lc_keys (fun x => x.2) upd_same lss1 hD5 (fun _ => rfl) (fun x H Q hx sx h => ?_) fun H7 s7 h7 => ?_⟩⟩
      · walk_at "go"
        exact ⟨D3, _, rfl, .inl ⟨_, Sum.inl x.1, .inr ⟨od3, sx _ _ upd_same⟩, rfl, by rw [kvI_val, lookI_of nd3 hx]; rfl⟩, h⟩
      refine ⟨s7 _ _ upd_same, ?_⟩
      have s8 : Same (upd H6 p13 (.lst [V.int ap])) (upd H7 D3 (.dK (kvI (rising ps1)))) := same_back h8L s7
      have n53 : D5 ≠ D3 := fun z => by rw [z, upd_same] at hD5; cases hD5
      have h8m : upd H7 D3 (.dK (kvI (rising ps1))) D5 = some (.lst (((rising ps1).map fun x => x.2).map V.int)) := by rw [upd_ne n53]; exact h7
      generalize upd H7 D3 (.dK (kvI (rising ps1))) = H8 at s8 h8m ⊢
      refine s_addL (s8 _ _ upd_same) h8m (by rw [List.length_map, List.length_map]; exact Nat.le_trans (Nat.add_le_add_left lss1 1) (by decide)) fun p14 hp14 => ?_
      walk_at "go"
      have e3 : [V.int ap] ++ ((rising ps1).map fun x => x.2).map V.int = (ap :: (rising ps1).map fun x => x.2).map V.int := rfl
      rw [e3]
      -- the least of the bounds is the floor
      have bounds : ∀ y : Int, y ∈ (ap :: (rising ps1).map fun x => x.2) ↔ y ∈ leftOf room en (rising ps) ++ [ap] := by
        intro y
        have a : y ∈ ((rising ps1).map fun x => x.2) ↔ y ∈ leftOf room en (rising ps) := by
          unfold leftOf
          rw [((rising_perm ps1).map fun x => x.2).mem_iff, ((List.Perm.filter _ (rising_perm ps)).map _).mem_iff, hps1]
        rw [List.mem_cons, List.mem_append, a]
        simp [or_comm]
      refine ⟨p14, _, rfl, SqL.of upd_same, by simp, fun m hm hml => ?_⟩
      have efl : fl = m := Int.le_antisymm (hok.least m ((bounds m).mp hm)) (hml fl ((bounds fl).mpr hok.mem))
      subst efl
      walk_at "go"
      refine s_ifF (by simp) ?_
      walk_at "go"
      have s9 : Same H4 (upd H8 p14 (.lst ((ap :: (rising ps1).map fun x => x.2).map V.int))) := same_upd (s6.trans ((same_upd (Same.refl _) hp13).trans s8)) hp14
      generalize (upd H8 p14 (.lst ((ap :: (rising ps1).map fun x => x.2).map V.int))) = H9 at s9 ⊢
      have S9 : SlotsAt A H9 p d2 room ps1 := ⟨⟨dx2, s9 _ _ h4p⟩, s9 _ _ h4d, nds2, hs2⟩
      have h9p := s9 _ _ h4p
      walk_at "go"
      refine ⟨p, d2, room, en, ap, ps1, rfl, S9, hroom, hen, hap, lps1, fun t5 d5 H10 fl5 br5 hct5 hok5 S10 fr10 => ?_⟩
      obtain ⟨q5, ht5, hq5⟩ := id hct5
      -- nothing more is broken, the floor is the same
      have eself : (ps1.filter fun x => decide (en ≤ x.2 + room)) = ps1 := by
        rw [← hps1, List.filter_filter]
        exact List.filter_congr fun x _ => by simp
      have ebr : br5 = [] := by
        have e0 : brokenOf room en (rising ps1) = [] := by
          unfold brokenOf
          rw [List.map_eq_nil_iff, List.filter_eq_nil_iff]
          intro x hx
          have hx1 := (rising_perm ps1).mem_iff.mp hx
          rw [← hps1] at hx1
          have := (List.mem_filter.mp hx1).2
          simp at this ⊢
          omega
        exact List.perm_nil.mp (by rw [← e0]; exact hok5.perm)
      subst ebr
      have bounds5 : ∀ y : Int, y ∈ leftOf room en (rising ps1) ++ [ap] ↔ y ∈ leftOf room en (rising ps) ++ [ap] := by
        intro y
        have a : y ∈ leftOf room en (rising ps1) ↔ y ∈ leftOf room en (rising ps) := by
          unfold leftOf
          rw [((List.Perm.filter _ (rising_perm ps1)).map _).mem_iff, ((List.Perm.filter _ (rising_perm ps)).map _).mem_iff, eself, hps1]
        rw [List.mem_append, List.mem_append, a]
      have efl : fl5 = fl := Int.le_antisymm (hok5.least fl ((bounds5 fl).mpr hok.mem)) (hok.least fl5 ((bounds5 fl5).mp hok5.mem))
      subst efl
      rw [eself] at S10
      walk_at "go"
      refine ⟨by decide, fun p15 hp15 => ?_⟩
      walk_at "go"
      refine ⟨by show 2 ≤ sizeLine; decide, fun p16 hp16 => ?_⟩
      have hd1 : ∀ {Hx : Hp} {a b : Addr} {n : Int}, Hx a = some (.tup [.int n, .ref b]) → Hx b = some (.tup []) → Dp K Hx (.ref a) (.tuple [.int n, .tuple []]) := fun h1 h2 => .tup (SqT.of h1) (.cons (.int _) (.cons (.tup (SqT.of h2) .nil) .nil))
      have shp : ∀ n : Int, SeqAt.shaped (.tuple [.int n, .tuple []]) = true := fun n => by
        unfold SeqAt.shaped
        rw [Bool.and_eq_true]
        exact ⟨rfl, by simp [PyData.depth, PyData.depthAll]⟩
      refine s_neD (hd1 (get_new hp16 (get_new hp15 ht5)) (get_new hp16 (get_new hp15 hq5))) (hd1 upd_same (get_new hp16 upd_same)) (shp _) (shp _) ?_
      rw [SeqAt.eqv_refl _ (SeqAt.canLay_of_shaped (shp _))]
      walk_at "go"
      have sx : Same H10 (upd (upd H10 p15 (.tup [])) p16 (.tup [.int fl5, .ref p15])) := same_upd (same_upd (Same.refl _) hp15) hp16
      generalize upd (upd H10 p15 (.tup [])) p16 (.tup [.int fl5, .ref p15]) = H11 at sx ⊢
      obtain ⟨⟨dx10, ob10⟩, dc10, nds10, hs10⟩ := id S10
      have h11p := sx _ _ ob10
      walk_at "go"
      refine ⟨p, d5, room, ps1, rfl, ⟨⟨dx10, sx _ _ ob10⟩, sx _ _ dc10, nds10, hs10⟩, fun t6 H12 s12 ht6 ⟨as6, hf6, hp6⟩ => ?_⟩
      walk_at "go"
      refine s_dictT hf6 hp6 nd3 fun D6 hD6 => ?_
      walk_at "go"
      have npD3 : D3 ≠ p := ne_of h4L h4p (by intro z; cases z)
      have nqp : q2 ≠ p := ne_of h4q h4p (by intro z; cases z)
      have ntp : t2 ≠ p := ne_of h4t h4p (by intro z; cases z)
      have sfin : ∀ b o, H9 b = some o → b ≠ p → upd H12 D6 (.dK (kvI (rising ps1))) b = some o := fun b o e nb => get_new hD6 (s12 _ _ (sx _ _ (fr10 _ _ e nb)))
      refine s_neDict upd_same (sfin _ _ (s9 _ _ h4L) npD3) nd3 ?_
      walk_at "go"
      refine k t2 d5 _ fl5 m3 ⟨q2, sfin _ _ (s9 _ _ h4t) ntp, sfin _ _ (s9 _ _ h4q) nqp⟩ (fun x hx hle => hok.least x.2 (List.mem_append.mpr (.inl ?_))) ?_ fun b o e nb => sfin _ _ (s9 _ _ (s4 _ _ (fr2 _ _ (sa _ _ e) nb))) nb
      · unfold leftOf
        exact List.mem_map.mpr ⟨x, List.mem_filter.mpr ⟨(rising_perm ps).mem_iff.mpr hx, by simpa using hle⟩, rfl⟩
      · rw [hps1]
        exact ⟨⟨dx10, get_new hD6 (s12 _ _ (sx _ _ ob10))⟩, get_new hD6 (s12 _ _ (sx _ _ dc10)), nds10, hs10⟩
end
end Toy

set_option Elab.async false
set_option linter.all false
set_option maxRecDepth 100000
set_option maxHeartbeats 4000000
namespace Toy
open PySem PySem.Spec PyProof.Rows L2 Lt
local macro_rules
  | `(tactic| walk_at "get") => `(tactic| first
    | assumption
    | exact upd_same
    | ((with_reducible refine' get_new ?g1 ?g2); (case g1 => assumption); (case g2 => walk_at "get"))
    | ((with_reducible refine' get_ne ?g1 ?g2); (case g1 => assumption); (case g2 => walk_at "get"))
    | ((with_reducible refine' get_dif ?g1 ?g2 ?g3); (case g1 => walk_at "get"); (case g2 => walk_at "get"); (case g3 => (intro z; cases z)))
    | (refine' (by assumption : Same _ _) _ _ ?g1; (case g1 => walk_at "get")))
local macro_rules
  | `(tactic| walk_at "cls") => `(tactic| first | assumption | (apply Txt.k_Slots; assumption) | (apply Txt.na_Slots_most; assumption) | (apply Txt.na_Slots_places; assumption))
local macro_rules
  | `(tactic| walk_at "sq") => `(tactic| first
    | assumption
    | exact SqL.of (by walk_at "get")
    | exact SqT.of (by walk_at "get")
    | exact FzT.sq (by assumption)
    | exact Same.seq (by assumption) (by assumption))
local macro_rules
  | `(tactic| walk_at "st") => `(tactic| first
    | with_reducible refine s_seq ?_
    | with_reducible refine s_cons ?_
    | with_reducible refine s_nil ?_
    | ((with_reducible refine' s_var ?g1 ?g2); (case g1 => rfl))
    | with_reducible refine s_c ?_
    | with_reducible refine s_op ?_
    | with_reducible refine s_addI ?_
    | with_reducible refine s_i0 ?_
    | with_reducible refine s_ret ?_
    | with_reducible refine s_retN ?_
    | with_reducible refine s_drop ?_
    | with_reducible refine s_next ?_
    | with_reducible refine s_ifs ?_
    | with_reducible refine s_asg ?_
    | with_reducible refine s_gname ?_
    | with_reducible refine s_gnil ?_
    | with_reducible refine s_gcons ?_
    | with_reducible refine s_gsub ?_
    | with_reducible refine s_un ?_
    | with_reducible refine s_cb ?_
    | with_reducible refine s_call ?_
    | with_reducible refine s_meth ?_
    | ((with_reducible refine' s_meth2 ?g1 ?g2 ?g3); (case g1 => walk_at "get"); (case g2 => rfl))
    | with_reducible refine s_test ?_
    | with_reducible refine s_tb ?_
    | with_reducible refine s_exbl ?_
    | with_reducible refine s_exint ?_
    | with_reducible refine s_and ?_
    | with_reducible refine s_or ?_
    | with_reducible refine s_not ?_
    | with_reducible refine s_andV ?_
    | with_reducible refine s_orV ?_
    | with_reducible refine s_notV ?_
    | with_reducible refine s_ifx ?_
    | with_reducible refine s_yes ?_
    | with_reducible refine s_tup ?_
    | with_reducible refine s_lst ?_
    | with_reducible refine s_fld ?_
    | ((with_reducible refine' s_fld2 ?g1 ?g2 ?g3 ?g4 ?g5); (case g1 => walk_at "get"); (case g2 => walk_at "cls"); (case g3 => walk_at "cls"); (case g4 => rfl))
    | with_reducible refine s_sfld ?_
    | with_reducible refine s_sl ?_
    | with_reducible refine s_nopart ?_
    | with_reducible refine s_part ?_
    | with_reducible refine s_for ?_
    | with_reducible refine s_ilist ?_
    | with_reducible refine s_itup ?_
    | with_reducible refine s_irng1 ?_
    | with_reducible refine s_bm ?_
    | with_reducible refine s_bm0 ?_
    | with_reducible refine s_dget ?_
    | with_reducible refine s_din ?_
    | with_reducible refine s_dnotin ?_
    | with_reducible refine s_dput ?_
    | with_reducible refine s_dget2 ?_
    | with_reducible refine s_dget1 ?_
    | with_reducible refine s_eqI ?_
    | with_reducible refine s_eqS ?_
    | with_reducible refine s_neI ?_
    | with_reducible refine s_neB ?_
    | with_reducible refine s_neS ?_
    | with_reducible refine s_ltI ?_
    | with_reducible refine s_isN ?_
    | with_reducible refine s_isNotN ?_
    | with_reducible refine s_chain ?_
    | with_reducible refine s_make ?_
    | with_reducible refine s_irng2 ?_
    | with_reducible refine s_intI ?_
    | with_reducible refine s_intB ?_
    | ((with_reducible refine' s_mod ?g1 ?g2); (case g1 => omega))
    | ((with_reducible refine' s_fdiv ?g1 ?g2); (case g1 => omega))
    | ((with_reducible refine' s_pow ?g1 ?g2); (case g1 => omega))
    | with_reducible refine s_dc ?_
    | with_reducible refine s_lc ?_
    | with_reducible refine s_iitems ?_
    | with_reducible refine s_ikeys ?_
    | ((with_reducible refine' s_sfld2 ?g1 ?g2 ?g3 ?g4 ?g5); (case g1 => walk_at "get"); (case g2 => walk_at "cls"); (case g3 => walk_at "cls"); (case g4 => exact len1000 rfl))
    | with_reducible refine s_ex2 ?_
    | with_reducible refine s_dnew ?_
    | ((with_reducible refine' s_ifT ?g1 ?g2); (case g1 => rfl))
    | ((with_reducible refine' s_ifF ?g1 ?g2); (case g1 => rfl))
    | with_reducible refine s_isi_non_int ?_
    | with_reducible refine s_isi_non_bool ?_
    | with_reducible refine s_isi_non_str ?_
    | with_reducible refine s_isi_non_tuple ?_
    | with_reducible refine s_isi_non_list ?_
    | with_reducible refine s_isi_bl_int ?_
    | with_reducible refine s_isi_bl_bool ?_
    | with_reducible refine s_isi_bl_str ?_
    | with_reducible refine s_isi_bl_tuple ?_
    | with_reducible refine s_isi_bl_list ?_
    | with_reducible refine s_isi_int_int ?_
    | with_reducible refine s_isi_int_bool ?_
    | with_reducible refine s_isi_int_str ?_
    | with_reducible refine s_isi_int_tuple ?_
    | with_reducible refine s_isi_int_list ?_
    | with_reducible refine s_isi_str_int ?_
    | with_reducible refine s_isi_str_bool ?_
    | with_reducible refine s_isi_str_str ?_
    | with_reducible refine s_isi_str_tuple ?_
    | with_reducible refine s_isi_str_list ?_
    | ((with_reducible refine' s_isi_tup_int ?g1 ?g2); (case g1 => walk_at "get"))
    | ((with_reducible refine' s_isi_tup_bool ?g1 ?g2); (case g1 => walk_at "get"))
    | ((with_reducible refine' s_isi_tup_str ?g1 ?g2); (case g1 => walk_at "get"))
    | ((with_reducible refine' s_isi_tup_tuple ?g1 ?g2); (case g1 => walk_at "get"))
    | ((with_reducible refine' s_isi_tup_list ?g1 ?g2); (case g1 => walk_at "get"))
    | ((with_reducible refine' s_isi_lst_int ?g1 ?g2); (case g1 => walk_at "get"))
    | ((with_reducible refine' s_isi_lst_bool ?g1 ?g2); (case g1 => walk_at "get"))
    | ((with_reducible refine' s_isi_lst_str ?g1 ?g2); (case g1 => walk_at "get"))
    | ((with_reducible refine' s_isi_lst_tuple ?g1 ?g2); (case g1 => walk_at "get"))
    | ((with_reducible refine' s_isi_lst_list ?g1 ?g2); (case g1 => walk_at "get"))
    | ((with_reducible refine' s_isi_dK_int ?g1 ?g2); (case g1 => walk_at "get"))
    | ((with_reducible refine' s_isi_dK_bool ?g1 ?g2); (case g1 => walk_at "get"))
    | ((with_reducible refine' s_isi_dK_str ?g1 ?g2); (case g1 => walk_at "get"))
    | ((with_reducible refine' s_isi_dK_tuple ?g1 ?g2); (case g1 => walk_at "get"))
    | ((with_reducible refine' s_isi_dK_list ?g1 ?g2); (case g1 => walk_at "get")))
local macro_rules
  | `(tactic| walk_at "go") => `(tactic| (repeat walk_at "st"))

section
variable {P : Program} {w : World} {K : PySem.W.Frag} {mg : Str → Option Value} {base : Heap} {A : Adr}
def spLaw (K : PySem.W.Frag) : Sp := fun vs H Q _ => ∃ (a : Addr) (ns : List Int), vs = [.ref a] ∧ SqL K H a (ns.map V.int) ∧ ns.length ≤ 63 ∧ ∀ H', Q (.bl true) H'
theorem putI_len (ps : List (Int × Int)) (k v : Int) : (putI ps k v).length ≤ ps.length + 1 := by
  unfold putI
  split
  · rw [List.length_map]; omega
  · rw [List.length_append]; simp
theorem lookI_put (ps : List (Int × Int)) (k v : Int) : lookI (putI ps k v) k = some v := by
  have h := kvI_val (putI ps k v) k
  rw [← kvI_put, valV_put, if_pos rfl] at h
  cases e : lookI (putI ps k v) k with
  | none => rw [e] at h; cases h
  | some y =>
    rw [e] at h
    have : V.int v = V.int y := Option.some.inj h
    injection this with this
    rw [this]
theorem s_mid {p : Prop} [Decidable p] {t : TS} {n b c : L2.St → Hp → Prop} {Q : VK} {σ : L2.St} {H : Hp} (R : L2.St → Hp → Prop) (h1 : p → ∀ N : L2.St → Hp → Prop, (∀ σ H, R σ H → N σ H) → t ⟨N, Q, b, c⟩ σ H) (h2 : ¬ p → R σ H) (h : ∀ σ H, R σ H → n σ H) :
    if decide p = true then t ⟨n, Q, b, c⟩ σ H else tNext ⟨n, Q, b, c⟩ σ H := by
  by_cases c : p
  · rw [if_pos (decide_eq_true c)]
    exact h1 c n h
  · rw [if_neg (by simp [c])]
    exact h _ _ (h2 c)
theorem SlotsAt.mono {H H' : Hp} {p d : Addr} {room : Int} {ps : List (Int × Int)} (h : ∀ b o, H b = some o → (∀ xs, o ≠ .lst xs) → H' b = some o) (S : SlotsAt A H p d room ps) : SlotsAt A H' p d room ps := by
  obtain ⟨⟨dx, ob⟩, dc, nds, hs⟩ := S
  exact ⟨⟨dx, h _ _ ob (fun xs z => by cases z)⟩, h _ _ dc (fun xs z => by cases z), nds, hs⟩
theorem DeckAt.nl {H H' : Hp} {q c r : Addr} {cells rests : List Int} {count : Int} (D : DeckAt H q c r cells rests count) (h : ∀ b o, H b = some o → b ≠ q → b ≠ r → H' b = some o) : ∀ b o, H b = some o → (∀ xs, o ≠ .lst xs) → H' b = some o := by
  intro b o e z
  refine h b o e ?_ ?_
  · rintro rfl
    rw [D.dk] at e
    exact z _ (Option.some.inj e).symm
  · rintro rfl
    rw [D.re] at e
    exact z _ (Option.some.inj e).symm
/-- the state between two turns -/
structure St33 (A : Adr) (H : Hp) (q c r hl p d : Addr) (cells rests hs : List Int) (room many count en ap : Int) (ps : List (Int × Int)) (i m : Nat) : Prop where
  dk : DeckAt H q c r cells rests count
  cnt : 0 ≤ count ∧ count ≤ m
  ht : H hl = some (.lst (hs.map V.int))
  nq : hl ≠ q
  nc : hl ≠ c
  nr : hl ≠ r
  hn : (hs.length : Int) = many
  sl : SlotsAt A H p d room ps
  rm : 1 ≤ room ∧ room ≤ 400
  mn : 1 ≤ many ∧ many ≤ 8
  hen : 0 ≤ en ∧ en ≤ 400
  hap : 0 ≤ ap ∧ ap ≤ en
  hb : ∀ h ∈ hs, 0 ≤ h ∧ h ≤ en
  rel : ∀ x ∈ ps, x.1 < many ∧ hs[x.1.toNat]? = some x.2
  pl : ps.length ≤ i
theorem St33.up {H : Hp} {q c r hl p d : Addr} {cells rests hs : List Int} {room many count en ap : Int} {ps : List (Int × Int)} {i : Nat} (X : St33 A H q c r hl p d cells rests hs room many count en ap ps i (24 + 10 * i)) : St33 A H q c r hl p d cells rests hs room many count en ap ps (i + 1) (25 + 10 * i) :=
  ⟨X.dk, ⟨X.cnt.1, by have := X.cnt.2; omega⟩, X.ht, X.nq, X.nc, X.nr, X.hn, X.sl, X.rm, X.mn, X.hen, X.hap, X.hb, X.rel, Nat.le_succ_of_le X.pl⟩
theorem c_law (T : Txt K mg A) {f : Addr} {fd : FuncData} (F : C8.Fun K "law" "law" s_law f fd) : FnOk P w K mg base C8.CX0 7 f fd ["_law_script"] (spLaw K) := by
  refine C8.fn0 F sc_law (fun vs H Q E h => ?_) (fun cdv A' outer s H vs Q E hr h => ?_)
  · obtain ⟨a, ns, rfl, _⟩ := h
    rfl
  · obtain ⟨a, ns, rfl, hS, hl, k⟩ := h
    have hu := hr.units
    have hu1 := hu_of hr
    have nd := sc_law.nd
    refine ⟨_, (pss_cons (ps_set (i := 1) nd rfl (Or.inl rfl) (C8.pe_c (c__law_deck T) hr (by decide) (by rfl) (pa_cons (pv 0) pa_nil)))
      (pss_cons (ps_set (i := 2) nd rfl (Or.inl rfl) (pe_op (k_add K) pe_int (C8.pe_c (c__law_take T) hr (by decide) (by rfl) (pa_cons (pv 1) (pa_cons pe_int pa_nil)))))
      (pss_cons (ps_set (i := 3) nd rfl (Or.inl rfl) (pe_op (k_add K) pe_int (C8.pe_c (c__law_take T) hr (by decide) (by rfl) (pa_cons (pv 1) (pa_cons pe_int pa_nil)))))
      (pss_cons (ps_set (i := 4) nd rfl (Or.inl rfl) (C8.pe_mk (c_Slots_init T) hr (by decide) (by rfl) (pa_cons (pv 2) pa_nil)))
      (pss_cons (ps_setLc (i := 5) (own := [("_law_one", 6)]) rfl nd rfl rfl (sw_true rfl rfl rfl (by decide +kernel)) (pi_range1 (by rfl) T.b_range (pa_cons (pv 3) pa_nil)) (blkOk_by (N := ["_law_script", "_law_deck_here", "_law_room", "_law_many", "_law_slots", "_law_has", "_law_one", "_law_end", "_law_applied", "_law_turn", "_law_told", "_law_other", "_law_place"]) (sc := C8.fnScope s_law) (own := [("_law_one", 6)]) (by decide +kernel)) (fun _ _ _ _ _ => (pg_name (i := 6) nd rfl (Or.inl rfl))) (fun _ _ _ _ _ => pts_nil) (fun _ _ _ _ _ => pe_int))
      (pss_cons (ps_set (i := 7) nd rfl (Or.inl rfl) pe_int)
      (pss_cons (ps_set (i := 8) nd rfl (Or.inl rfl) pe_int)
      (pss_cons (ps_for PassesOwn.never rfl (pi_range1 (by rfl) T.b_range (pa_cons (pe_op (k_add K) pe_int (C8.pe_c (c__law_take T) hr (by decide) (by rfl) (pa_cons (pv 1) (pa_cons pe_int pa_nil)))) pa_nil)) (pg_name (i := 9) nd rfl (Or.inl rfl)) (pss_cons (ps_set (i := 7) nd rfl (Or.inl rfl) (pe_callB (call_min2 rfl) (by rfl) T.b_min (by decide +kernel) (pa_cons pe_int (pa_cons (pe_op (k_add K) (pv 7) (C8.pe_c (c__law_take T) hr (by decide) (by rfl) (pa_cons (pv 1) (pa_cons pe_int pa_nil)))) pa_nil))))
      (pss_cons (ps_set (i := 8) nd rfl (Or.inl rfl) (pe_op (k_add K) (pv 8) (C8.pe_c (c__law_take T) hr (by decide) (by rfl) (pa_cons (pv 1) (pa_cons (pe_op (k_add K) (pe_op op_sub (pv 7) (pv 8)) pe_int) pa_nil)))))
      (pss_cons (ps_set (i := 6) nd rfl (Or.inl rfl) (C8.pe_c (c__law_take T) hr (by decide) (by rfl) (pa_cons (pv 1) (pa_cons (pv 3) pa_nil))))
      (pss_cons (ps_if (pt_cmpR op_gt (C8.pe_c (c__law_take T) hr (by decide) (by rfl) (pa_cons (pv 1) (pa_cons pe_int pa_nil))) pe_int (nomark _)) (pss_cons (ps_asg (pe_op (k_add K) (pe_ix (k_ix K) (pv 5) (pv 6) (fun _ _ => rfl)) (C8.pe_c (c__law_take T) hr (by decide) (by rfl) (pa_cons (pv 1) (pa_cons (pe_op (k_add K) (pe_op op_sub (pv 7) (pe_ix (k_ix K) (pv 5) (pv 6) (fun _ _ => rfl))) pe_int) pa_nil)))) (pg_sub (pv 5) (pv 6) set_list))
      (pss_cons (ps_expr (C8.pe_mt (c_Slots_hold T) hr (by decide) (pv 4) (pa_cons (pv 6) (pa_cons (pe_ix (k_ix K) (pv 5) (pv 6) (fun _ _ => rfl)) pa_nil))))
      (pss_one (ps_if (pt_cmpR (k_ne K hu) (pe_dget1 hu1 (pe_callTy (k_dictT K rfl) (by rfl) T.b_dict (by decide +kernel) (pa_cons (C8.pe_mt0 (c_Slots_held T) hr (by decide) (pv 4)) pa_nil)) (pv 6) ⟨rfl, rfl, rfl, rfl⟩) (pe_ix (k_ix K) (pv 5) (pv 6) (fun _ _ => rfl)) (nomark _)) (pss_one (ps_ret pe_bl)) pss_nil)))) pss_nil)
      (pss_one (ps_if (pt_cmpR (k_eq K hu) (C8.pe_c (c__law_take T) hr (by decide) (by rfl) (pa_cons (pv 1) (pa_cons pe_int pa_nil))) pe_int (nomark _)) (pss_cons (ps_set (i := 10) nd rfl (Or.inl rfl) (C8.pe_c (c__law_cut_right T) hr (by decide) (by rfl) (pa_cons (pv 4) (pa_cons (pv 2) (pa_cons (pv 7) (pa_cons (pv 8) pa_nil))))))
      (pss_cons (ps_if (pt_cmpR op_is3 (pv 10) pe_non (nomark _)) (pss_one (ps_ret pe_bl)) pss_nil)
      (pss_one (ps_for PassesOwn.never rfl (ki_tup K (C8.pe_mt0 (c_Slots_held T) hr (by decide) (pv 4))) (kg_tup K (n := 2) rfl (pgs_cons (pg_name (i := 11) nd rfl (Or.inl rfl)) (pgs_cons (pg_name (i := 12) nd rfl (Or.inl rfl)) pgs_nil))) (pss_one (ps_if (PW.pt (pw_or (pt_cmpR (k_ne K hu) (pv 12) (pe_ix (k_ix K) (pv 5) (pv 11) (fun _ _ => rfl)) (nomark _)) (pw_or1 (pt_cmpR op_gt (pe_ix (k_ix K) (pv 10) pe_int (fun _ _ => rfl)) (pv 12) (nomark _))))) (pss_one (ps_ret pe_bl)) pss_nil)))))) pss_nil)))))))
      (pss_one (ps_ret (pe_cmpR op_isnot3 (C8.pe_c (c__law_cut_right T) hr (by decide) (by rfl) (pa_cons (pv 4) (pa_cons (pv 2) (pa_cons (pv 7) (pa_cons (pv 8) pa_nil))))) pe_non (nomark _)))))))))))), ?_⟩
    refine (start_of (σ := [some (.ref a), none, none, none, none, none, none, none, none, none, none, none, none]) rfl ?_)
    walk_at "go"
    refine ⟨a, ns, rfl, hS, hl, fun q c r cells rests H1 s1 hq0 hr0 D1 => ?_⟩
    walk_at "go"
    refine ⟨q, c, r, cells, rests, 0, 40, rfl, D1, by omega, by omega, fun m1 rests1 H2 hm1 D2 fr2 => ?_⟩
    walk_at "go"
    refine ⟨q, c, r, cells, rests1, _, 8, rfl, D2, by omega, by omega, fun m2 rests2 H3 hm2 D3 fr3 => ?_⟩
    walk_at "go"
    intro p dx hp hdx ndx
    have h4p : upd (upd H3 dx (.own p)) p (.ins A.Slots dx []) p = some (.ins A.Slots dx []) := upd_same
    refine ⟨p, dx, 1 + m1, rfl, h4p, by omega, fun d H4 hd S4 fr4 => ⟨rfl, ?_⟩⟩
    have s4 : Same H3 H4 := fun b o e => fr4 _ _ (get_new (by rw [upd_ne ndx.symm]; exact hp) (get_new hdx e)) (ne_of_none e hp)
    have D4 : DeckAt H4 q c r cells rests2 (0 + 1 + 1) := ⟨s4 _ _ D3.dk, s4 _ _ D3.ce, s4 _ _ D3.re, D3.qc, D3.qr, D3.cr, D3.len, D3.pos⟩
    walk_at "go"
    refine s_rng1 (by omega) (by omega) fun hl1 hhl => lc_rng (fun _ => 0) (by omega) hhl (fun _ => rfl) (fun x H Q h => ?_) fun H5 s5 h5 => ?_
    · walk_at "go"
      exact h
    walk_at "go"
    refine ⟨q, c, r, cells, rests2, _, 24, rfl, ⟨s5 _ _ D4.dk, s5 _ _ D4.ce, s5 _ _ D4.re, D4.qc, D4.qr, D4.cr, D4.len, D4.pos⟩, by omega, by omega, fun m3 rests3 H6 hm3 D6 fr6 => ?_⟩
    have nq1 : hl1 ≠ q := (ne_of_none D4.dk hhl).symm
    have nc1 : hl1 ≠ c := (ne_of_none D4.ce hhl).symm
    have nr1 : hl1 ≠ r := (ne_of_none D4.re hhl).symm
    have h6l := fr6 _ _ h5 nq1 nr1
    have S6 : SlotsAt A H6 p d (1 + m1) [] := by
      obtain ⟨⟨dx', ob⟩, dc, nds, hs⟩ := id S4
      exact ⟨⟨dx', fr6 _ _ (s5 _ _ ob) (ne_of (s5 _ _ ob) (s5 _ _ D4.dk) (by intro z; cases z)) (ne_of (s5 _ _ ob) (s5 _ _ D4.re) (by intro z; cases z))⟩,
        fr6 _ _ (s5 _ _ dc) (ne_of (s5 _ _ dc) (s5 _ _ D4.dk) (by intro z; cases z)) (ne_of (s5 _ _ dc) (s5 _ _ D4.re) (by intro z; cases z)), nds, hs⟩
    walk_at "go"
    refine s_rng1 (by omega) (by omega) (f_range (fun i σ H' => ∃ (d : Addr) (rests hs : List Int) (count en ap : Int) (ps : List (Int × Int)) (v6 v9 v10 v11 v12 : Option V),
      σ = [some (.ref a), some (.ref q), some (.int (1 + m1)), some (.int (1 + m2)), some (.ref p), some (.ref hl1), v6, some (.int en), some (.int ap), v9, v10, v11, v12] ∧ St33 A H' q c r hl1 p d cells rests hs (1 + m1) (1 + m2) count en ap ps i (20 + 10 * i))
      ⟨d, rests3, _, _, 0, 0, [], none, none, none, none, none, rfl, ⟨D6, by omega, h6l, nq1, nc1, nr1, ?_, S6, by omega, by omega, by omega, by omega, ?_, by simp, by simp⟩⟩ ?_ ?_)
    · rw [List.length_map, List.length_range]; omega
    · intro h hh
      obtain ⟨x, _, rfl⟩ := List.mem_map.mp hh
      omega
    · rintro i σ H7 hi ⟨d, rests, hs, count, en, ap, ps, v6, v9, v10, v11, v12, rfl, X⟩
      obtain ⟨hD, hcnt, hht, hnq, hnc, hnr, hhn, hsl, hrm, hmn, hen, hap, hhb, hrel, hpl⟩ := id X
      have hi2 : i < 28 := by omega
      walk_at "go"
      refine ⟨q, c, r, cells, rests, count, 10, rfl, hD, by omega, by omega, fun k1 rests1 H8 hk1 D8 fr8 => ?_⟩
      walk_at "go"
      rw [ite_min]
      have he1 : en ≤ min 400 (en + k1) ∧ min 400 (en + k1) ≤ 400 := by omega
      generalize min 400 (en + k1) = en1 at he1 ⊢
      refine ⟨q, c, r, cells, rests1, _, _, rfl, D8, by omega, by omega, fun k2 rests2 H9 hk2 D9 fr9 => ?_⟩
      walk_at "go"
      have ha1 : 0 ≤ ap + k2 ∧ ap + k2 ≤ en1 := by omega
      generalize ap + k2 = ap1 at ha1 ⊢
      refine ⟨q, c, r, cells, rests2, _, _, rfl, D9, by omega, by omega, fun k3 rests3 H10 hk3 D10 fr10 => ?_⟩
      walk_at "go"
      refine ⟨q, c, r, cells, rests3, _, 4, rfl, D10, by omega, by omega, fun k4 rests4 H11 hk4 D11 fr11 => ?_⟩
      walk_at "go"
      have fr : ∀ b o, H7 b = some o → b ≠ q → b ≠ r → H11 b = some o := fun b o e n1 n2 => fr11 _ _ (fr10 _ _ (fr9 _ _ (fr8 _ _ e n1 n2) n1 n2) n1 n2) n1 n2
      have X11 : St33 A H11 q c r hl1 p d cells rests4 hs (1 + m1) (1 + m2) (count + 1 + 1 + 1 + 1) en1 ap1 ps i (24 + 10 * i) := by
        obtain ⟨⟨dx', ob⟩, dc, nds, hss⟩ := id hsl
        refine ⟨D11, by omega, fr _ _ hht hnq hnr, hnq, hnc, hnr, hhn, ⟨⟨dx', fr _ _ ob (ne_of ob hD.dk (by intro z; cases z)) (ne_of ob hD.re (by intro z; cases z))⟩,
          fr _ _ dc (ne_of dc hD.dk (by intro z; cases z)) (ne_of dc hD.re (by intro z; cases z)), nds, hss⟩, hrm, hmn, by omega, ha1, fun h hh => by have := hhb h hh; omega, hrel, hpl⟩
      clear hk1 hk2 hk4 hcnt
      refine s_mid (fun σ H' => ∃ (d : Addr) (rests hs : List Int) (count en ap : Int) (ps : List (Int × Int)) (v6 v9 v10 v11 v12 : Option V),
        σ = [some (.ref a), some (.ref q), some (.int (1 + m1)), some (.int (1 + m2)), some (.ref p), some (.ref hl1), v6, some (.int en), some (.int ap), v9, v10, v11, v12] ∧ St33 A H' q c r hl1 p d cells rests hs (1 + m1) (1 + m2) count en ap ps (i + 1) (25 + 10 * i)) (fun _ N hN => ?_) (fun _ => ?_) ?_
      · obtain ⟨hD, hcnt, hht, hnq, hnc, hnr, hhn, hsl, hrm, hmn, hen, hap, hhb, hrel, hpl⟩ := id X11
        walk_at "go"
        have hk3' : k3.toNat < hs.length := by omega
        obtain ⟨y, hy1, hy2⟩ := atI_ok (xs := hs) (i := k3) hk3.1 (by omega)
        have hyb := hhb y (List.mem_of_getElem? hy1)
        refine s_ixL (SqL.of hht) (atI_map hy2) ?_
        walk_at "go"
        refine s_ixL (SqL.of hht) (atI_map hy2) ?_
        walk_at "go"
        refine ⟨q, c, r, cells, rests4, _, _, rfl, hD, by omega, by omega, fun u rests5 H12 hu5 D12 fr12 => ?_⟩
        walk_at "go"
        have h12l := fr12 _ _ hht hnq hnr
        refine s_setL h12l (ixN_ok hk3.1 (by rw [List.length_map]; omega)) ?_
        rw [← List.map_set]
        have S12 := SlotsAt.mono (hD.nl fr12) hsl
        have S13 : SlotsAt A (upd H12 hl1 (.lst ((hs.set k3.toNat (y + u)).map V.int))) p d (1 + m1) ps := S12.mono fun b o e z => by
          rw [upd_ne (fun hb => by subst hb; rw [h12l] at e; exact z _ (Option.some.inj e).symm)]
          exact e
        have h13l : upd H12 hl1 (.lst ((hs.set k3.toNat (y + u)).map V.int)) hl1 = some (.lst ((hs.set k3.toNat (y + u)).map V.int)) := upd_same
        have D13 : DeckAt (upd H12 hl1 (.lst ((hs.set k3.toNat (y + u)).map V.int))) q c r cells rests5 (count + 1 + 1 + 1 + 1 + 1) := by
          exact ⟨by rw [upd_ne hnq.symm]; exact D12.dk, by rw [upd_ne hnc.symm]; exact D12.ce, by rw [upd_ne hnr.symm]; exact D12.re, D12.qc, D12.qr, D12.cr, D12.len, D12.pos⟩
        generalize upd H12 hl1 (.lst ((hs.set k3.toNat (y + u)).map V.int)) = H13 at S13 D13 h13l ⊢
        obtain ⟨⟨dx13, ob13⟩, dc13, nd13, hs13⟩ := id S13
        have hy3 : (hs.set k3.toNat (y + u))[k3.toNat]? = some (y + u) := List.getElem?_set_self hk3'
        have hy4 : atI (hs.set k3.toNat (y + u)) k3 = some (y + u) := by
          obtain ⟨y', e1, e2⟩ := atI_ok (xs := hs.set k3.toNat (y + u)) (i := k3) hk3.1 (by rw [List.length_set]; omega)
          rw [hy3] at e1
          rw [e2, ← Option.some.inj e1]
        walk_at "go"
        refine s_ixL (SqL.of h13l) (atI_map hy4) ?_
        walk_at "go"
        refine ⟨p, d, 1 + m1, k3, y + u, ps, rfl, S13, by omega, by omega, by omega, fun H14 S14 fr14 => ?_⟩
        have hmax : max (y + u) ((lookI ps k3).getD 0) = y + u := by
          cases e : lookI ps k3 with
          | none => show max (y + u) 0 = y + u; omega
          | some z =>
            have := (hrel _ (lookI_mem e)).2
            rw [show ((k3, z) : Int × Int).1 = k3 from rfl, hy1] at this
            have : y = z := Option.some.inj this
            show max (y + u) z = y + u
            omega
        rw [hmax] at S14
        obtain ⟨⟨dx14, ob14⟩, dc14, nd14, hs14⟩ := id S14
        walk_at "go"
        refine ⟨p, d, 1 + m1, _, rfl, S14, fun t1 H15 s15 ht1 ⟨as1, hf1, hp1⟩ => ?_⟩
        walk_at "go"
        have ndr := ((rising_perm (putI ps k3 (y + u))).map (·.1)).nodup_iff.mpr nd14
        refine s_dictT hf1 hp1 ndr fun D1 hD1 => ?_
        walk_at "go"
        refine ⟨D1, rfl, (.inl ⟨_, .inl upd_same⟩), ?_⟩
        walk_at "go"
        refine ⟨_, DGet.k (k := Sum.inl k3) upd_same, ?_⟩
        rw [kvI_val, lookI_of ndr ((rising_perm _).mem_iff.mpr (lookI_mem (lookI_put ps k3 (y + u))))]
        have s16 : Same H14 (upd H15 D1 (.dK (kvI (rising (putI ps k3 (y + u)))))) := same_upd s15 hD1
        generalize upd H15 D1 (.dK (kvI (rising (putI ps k3 (y + u))))) = H16 at s16 ⊢
        have fr16 : ∀ b o, H13 b = some o → (∀ ks, o ≠ .dK ks) → H16 b = some o := fun b o e z => s16 _ _ (fr14 _ _ e (by
          rintro rfl
          rw [dc13] at e
          exact z _ (Option.some.inj e).symm))
        have h16l := fr16 _ _ h13l (fun ks z => by cases z)
        walk_at "go"
        refine s_ixL (SqL.of h16l) (atI_map hy4) ?_
        show rNe3 K (V.int (y + u)) (V.int (y + u)) _ _
        walk_at "go"
        refine s_ifF (by simp) ?_
        walk_at "go"
        refine hN _ _ ⟨d, rests5, hs.set k3.toNat (y + u), _, en1, ap1, putI ps k3 (y + u), _, _, _, _, _, rfl, ⟨⟨fr16 _ _ D13.dk (fun ks z => by cases z), fr16 _ _ D13.ce (fun ks z => by cases z), fr16 _ _ D13.re (fun ks z => by cases z), D13.qc, D13.qr, D13.cr, D13.len, D13.pos⟩, by omega, h16l, hnq, hnc, hnr, by rw [List.length_set]; exact hhn, ?_, hrm, hmn, hen, hap, ?_, ?_, Nat.le_trans (putI_len _ _ _) (by omega)⟩⟩
        · obtain ⟨⟨dx', ob⟩, dc, nds, hss⟩ := S14
          exact ⟨⟨dx', s16 _ _ ob⟩, s16 _ _ dc, nds, hss⟩
        · intro h hh
          rcases List.mem_or_eq_of_mem_set hh with m | rfl
          · exact hhb h m
          · omega
        · intro x hx
          rcases putI_mem hx with rfl | ⟨m, ne⟩
          · exact ⟨by show k3 < 1 + m2; omega, hy3⟩
          · have := hrel x m
            have hx0 := (hsl.hs x m).1
            refine ⟨this.1, ?_⟩
            rw [List.getElem?_set_ne (by omega)]
            exact this.2
      · exact ⟨d, rests4, hs, _, en1, ap1, ps, _, _, _, _, _, rfl, X11.up⟩
      · rintro σ H18 ⟨d, rests, hs, count, en, ap, ps, v6, v9, v10, v11, v12, rfl, X⟩
        obtain ⟨hD, hcnt, hht, hnq, hnc, hnr, hhn, hsl, hrm, hmn, hen, hap, hhb, hrel, hpl⟩ := id X
        walk_at "go"
        refine ⟨q, c, r, cells, rests, count, 3, rfl, hD, by omega, by omega, fun k5 rests5 H19 hk5 D19 fr19 => ?_⟩
        walk_at "go"
        have S19 := SlotsAt.mono (hD.nl fr19) hsl
        have h19l := fr19 _ _ hht hnq hnr
        refine s_ifD (fun _ => ?_) (fun _ => ?_)
        · obtain ⟨⟨dx19, ob19⟩, dc19, nd19, hs19⟩ := id S19
          walk_at "go"
          refine ⟨p, d, 1 + m1, en, ap, ps, rfl, S19, hrm, by omega, hap, by omega, fun t d' H20 fl br hct hfl S20 fr20 => ?_⟩
          walk_at "go"
          obtain ⟨⟨dx20, ob20⟩, dc20, nd20, hs20⟩ := id S20
          walk_at "go"
          refine ⟨p, d', 1 + m1, _, rfl, S20, fun t1 H21 s21 ht1 ⟨as1, hf1, hp1⟩ => ?_⟩
          obtain ⟨bq, htq, hbq⟩ := hct
          have htq := s21 _ _ htq
          have fr21 : ∀ b o, H19 b = some o → b ≠ p → H21 b = some o := fun b o e z => s21 _ _ (fr20 _ _ e z)
          have h21l := fr21 _ _ h19l (ne_of h19l ob19 (by intro z; cases z))
          have D21 : DeckAt H21 q c r cells rests5 (count + 1) := ⟨fr21 _ _ D19.dk (ne_of D19.dk ob19 (by intro z; cases z)), fr21 _ _ D19.ce (ne_of D19.ce ob19 (by intro z; cases z)), fr21 _ _ D19.re (ne_of D19.re ob19 (by intro z; cases z)), D19.qc, D19.qr, D19.cr, D19.len, D19.pos⟩
          have S21 : SlotsAt A H21 p d' (1 + m1) (ps.filter fun x => decide (en ≤ x.2 + (1 + m1))) := ⟨⟨dx20, s21 _ _ ob20⟩, s21 _ _ dc20, nd20, hs20⟩
          refine s_itup2 hf1.sq (f_tup (fun j σ H' => H' = H21 ∧ ∃ v11 v12, σ = [some (.ref a), some (.ref q), some (.int (1 + m1)), some (.int (1 + m2)), some (.ref p), some (.ref hl1), v6, some (.int en), some (.int ap), v9, some (.ref t), v11, v12]) ⟨rfl, _, _, rfl⟩ (fun j σ H' _ z => by rw [z.1]; exact hf1.sq) ?_ ?_)
          · rintro j v σ H' hj ⟨rfl, v11', v12', rfl⟩
            rw [List.getElem?_map] at hj
            cases ej : as1[j]? with
            | none => rw [ej] at hj; cases hj
            | some w1 =>
              rw [ej] at hj
              cases Option.some.inj hj
              obtain ⟨x, hx, hw⟩ := (pairAll hp1).2 _ _ ej
              have hxm : x ∈ ps.filter fun x => decide (en ≤ x.2 + (1 + m1)) := (rising_perm _).mem_iff.mp (List.mem_of_getElem? hx)
              obtain ⟨hx1, hx2⟩ := List.mem_filter.mp hxm
              have hx3 := hrel x hx1
              have hx0 := (hsl.hs x hx1).1
              have hx4 : atI hs x.1 = some x.2 := by
                obtain ⟨y', e1, e2⟩ := atI_ok (xs := hs) (i := x.1) hx0.1 (by omega)
                rw [hx3.2] at e1
                rw [e2, ← Option.some.inj e1]
              have hx5 := hfl x hx1 (by simpa using hx2)
              refine s_gtup (SqT.of hw) rfl ?_
              walk_at "go"
              refine s_ixL (SqL.of h21l) (atI_map hx4) ?_
              walk_at "go"
              refine s_ifF (by simp) ?_
              walk_at "go"
              refine s_ixT (SqT.of htq) (v := .int fl) rfl ?_
              walk_at "go"
              refine s_ifF (decide_eq_false (by omega)) ?_
              exact ⟨rfl, _, _, rfl⟩
          · rintro σ H' ⟨rfl, v11', v12', rfl⟩
            refine ⟨d', rests5, hs, _, en, ap, _, _, _, _, _, _, rfl, ⟨D21, by omega, h21l, hnq, hnc, hnr, hhn, S21, hrm, hmn, hen, hap, hhb, fun x hx => hrel x (List.mem_filter.mp hx).1, Nat.le_trans (List.length_filter_le _ _) hpl⟩⟩
        · walk_at "go"
          exact ⟨d, rests5, hs, _, en, ap, ps, _, _, _, _, _, rfl, ⟨D19, by omega, h19l, hnq, hnc, hnr, hhn, S19, hrm, hmn, hen, hap, hhb, hrel, hpl⟩⟩
    · rintro σ H7 ⟨d, rests, hs, count, en, ap, ps, v6, v9, v10, v11, v12, rfl, X⟩
      obtain ⟨⟨dx7, ob7⟩, dc7, nd7, hs7⟩ := id X.sl
      walk_at "go"
      refine ⟨p, d, 1 + m1, en, ap, ps, rfl, X.sl, X.rm, ⟨X.hen.1, by have := X.hen; omega⟩, X.hap, by have := X.pl; omega, fun t d' H20 fl br hct hfl S20 fr20 => ?_⟩
      walk_at "go"
      exact k _
end
theorem all_mk {l : PySem.W.OpenLaw} {w : World} {K : PySem.W.Frag} {h : Heap} {mg : Str → Option Value} {fa : Addr} (X : K.In h) (G : h.Ns mainGlobals mg) (hfa : mg "law" = some (.ref fa))
    {C_Slots : Addr}
    {u_LAST_PLACE : Value}
    {u_HOUSES : Value}
    {u_ROOMS : Value}
    {f_is_upto : Addr} {od_is_upto an_is_upto : Option Addr} {sl_is_upto : Array (Option Value)} {oc_is_upto kV_is_upto dc_is_upto pm_is_upto cd_is_upto ct_is_upto : Value}
    {f_look_place : Addr} {od_look_place an_look_place : Option Addr} {sl_look_place : Array (Option Value)} {oc_look_place kV_look_place dc_look_place pm_look_place cd_look_place ct_look_place : Value}
    {f_look_house : Addr} {od_look_house an_look_house : Option Addr} {sl_look_house : Array (Option Value)} {oc_look_house kV_look_house dc_look_house pm_look_house cd_look_house ct_look_house : Value}
    {f_look_room : Addr} {od_look_room an_look_room : Option Addr} {sl_look_room : Array (Option Value)} {oc_look_room kV_look_room dc_look_room pm_look_room cd_look_room ct_look_room : Value}
    {f_cut_of : Addr} {od_cut_of an_cut_of : Option Addr} {sl_cut_of : Array (Option Value)} {oc_cut_of kV_cut_of dc_cut_of pm_cut_of cd_cut_of ct_cut_of : Value}
    {f_Slots_init : Addr} {od_Slots_init an_Slots_init : Option Addr} {sl_Slots_init : Array (Option Value)} {oc_Slots_init kV_Slots_init dc_Slots_init pm_Slots_init cd_Slots_init ct_Slots_init : Value}
    {f_Slots_hold : Addr} {od_Slots_hold an_Slots_hold : Option Addr} {sl_Slots_hold : Array (Option Value)} {oc_Slots_hold kV_Slots_hold dc_Slots_hold pm_Slots_hold cd_Slots_hold ct_Slots_hold : Value}
    {f_Slots_free : Addr} {od_Slots_free an_Slots_free : Option Addr} {sl_Slots_free : Array (Option Value)} {oc_Slots_free kV_Slots_free dc_Slots_free pm_Slots_free cd_Slots_free ct_Slots_free : Value}
    {f_Slots_held : Addr} {od_Slots_held an_Slots_held : Option Addr} {sl_Slots_held : Array (Option Value)} {oc_Slots_held kV_Slots_held dc_Slots_held pm_Slots_held cd_Slots_held ct_Slots_held : Value}
    {f_Slots_cut_for : Addr} {od_Slots_cut_for an_Slots_cut_for : Option Addr} {sl_Slots_cut_for : Array (Option Value)} {oc_Slots_cut_for kV_Slots_cut_for dc_Slots_cut_for pm_Slots_cut_for cd_Slots_cut_for ct_Slots_cut_for : Value}
    {f__law_deck : Addr} {od__law_deck an__law_deck : Option Addr} {sl__law_deck : Array (Option Value)} {oc__law_deck kV__law_deck dc__law_deck pm__law_deck cd__law_deck ct__law_deck : Value}
    {f__law_take : Addr} {od__law_take an__law_take : Option Addr} {sl__law_take : Array (Option Value)} {oc__law_take kV__law_take dc__law_take pm__law_take cd__law_take ct__law_take : Value}
    {f__law_whole : Addr} {od__law_whole an__law_whole : Option Addr} {sl__law_whole : Array (Option Value)} {oc__law_whole kV__law_whole dc__law_whole pm__law_whole cd__law_whole ct__law_whole : Value}
    {f__law_cut_right : Addr} {od__law_cut_right an__law_cut_right : Option Addr} {sl__law_cut_right : Array (Option Value)} {oc__law_cut_right kV__law_cut_right dc__law_cut_right pm__law_cut_right cd__law_cut_right ct__law_cut_right : Value}
    {f_law : Addr} {od_law an_law : Option Addr} {sl_law : Array (Option Value)} {oc_law kV_law dc_law pm_law cd_law ct_law : Value}
    (z_bool : PySem.W.nsIn K mainGlobals "bool" = some none)
    (z_dict : PySem.W.nsIn K mainGlobals "dict" = some none)
    (z_int : PySem.W.nsIn K mainGlobals "int" = some none)
    (z_isinstance : PySem.W.nsIn K mainGlobals "isinstance" = some none)
    (z_len : PySem.W.nsIn K mainGlobals "len" = some none)
    (z_list : PySem.W.nsIn K mainGlobals "list" = some none)
    (z_max : PySem.W.nsIn K mainGlobals "max" = some none)
    (z_min : PySem.W.nsIn K mainGlobals "min" = some none)
    (z_range : PySem.W.nsIn K mainGlobals "range" = some none)
    (z_sorted : PySem.W.nsIn K mainGlobals "sorted" = some none)
    (z_tuple : PySem.W.nsIn K mainGlobals "tuple" = some none)
    (g_LAST_PLACE : PySem.W.nsIn K mainGlobals "LAST_PLACE" = some (some u_LAST_PLACE))
    (r_LAST_PLACE : RelV (.int 1000000) u_LAST_PLACE)
    (g_HOUSES : PySem.W.nsIn K mainGlobals "HOUSES" = some (some u_HOUSES))
    (r_HOUSES : RelV (.int 8) u_HOUSES)
    (g_ROOMS : PySem.W.nsIn K mainGlobals "ROOMS" = some (some u_ROOMS))
    (r_ROOMS : RelV (.int 400) u_ROOMS)
    (ac_Slots : PySem.W.nsIn K mainGlobals "Slots" = some (some (.ref C_Slots)))
    (pg_Slots : PySem.W.plainGet K C_Slots Str.empty = true)
    (hd_Slots : PySem.W.hasDictIn K C_Slots = true)
    (po_Slots : PySem.W.plainOver K C_Slots = true)
    (sa_Slots : PySem.W.findIn K (.ref C_Slots) "__setattr__" = some (some (.builtin "object.__setattr__")))
    (na_Slots_most : PySem.W.findIn K (.ref C_Slots) "most" = some none)
    (na_Slots_places : PySem.W.findIn K (.ref C_Slots) "places" = some none)
    (a_is_upto : PySem.W.nsIn K mainGlobals "is_upto" = some (some (.ref f_is_upto)))
    (l_is_upto : K.lookup f_is_upto = some ⟨oc_is_upto, od_is_upto, .func (PySem.W.fnOf "is_upto" "is_upto" (C8.fnArgs s_is_upto) (C8.fnBody s_is_upto) (C8.fnScope s_is_upto) .none kV_is_upto dc_is_upto pm_is_upto an_is_upto cd_is_upto ct_is_upto), sl_is_upto⟩)
    (q_is_upto : PySem.W.codeIn K cd_is_upto "is_upto" = true)
    (k_is_upto : PySem.W.keepIn K (.ref f_is_upto) = true)
    (a_look_place : PySem.W.nsIn K mainGlobals "look_place" = some (some (.ref f_look_place)))
    (l_look_place : K.lookup f_look_place = some ⟨oc_look_place, od_look_place, .func (PySem.W.fnOf "look_place" "look_place" (C8.fnArgs s_look_place) (C8.fnBody s_look_place) (C8.fnScope s_look_place) .none kV_look_place dc_look_place pm_look_place an_look_place cd_look_place ct_look_place), sl_look_place⟩)
    (q_look_place : PySem.W.codeIn K cd_look_place "look_place" = true)
    (k_look_place : PySem.W.keepIn K (.ref f_look_place) = true)
    (a_look_house : PySem.W.nsIn K mainGlobals "look_house" = some (some (.ref f_look_house)))
    (l_look_house : K.lookup f_look_house = some ⟨oc_look_house, od_look_house, .func (PySem.W.fnOf "look_house" "look_house" (C8.fnArgs s_look_house) (C8.fnBody s_look_house) (C8.fnScope s_look_house) .none kV_look_house dc_look_house pm_look_house an_look_house cd_look_house ct_look_house), sl_look_house⟩)
    (q_look_house : PySem.W.codeIn K cd_look_house "look_house" = true)
    (k_look_house : PySem.W.keepIn K (.ref f_look_house) = true)
    (a_look_room : PySem.W.nsIn K mainGlobals "look_room" = some (some (.ref f_look_room)))
    (l_look_room : K.lookup f_look_room = some ⟨oc_look_room, od_look_room, .func (PySem.W.fnOf "look_room" "look_room" (C8.fnArgs s_look_room) (C8.fnBody s_look_room) (C8.fnScope s_look_room) .none kV_look_room dc_look_room pm_look_room an_look_room cd_look_room ct_look_room), sl_look_room⟩)
    (q_look_room : PySem.W.codeIn K cd_look_room "look_room" = true)
    (k_look_room : PySem.W.keepIn K (.ref f_look_room) = true)
    (a_cut_of : PySem.W.nsIn K mainGlobals "cut_of" = some (some (.ref f_cut_of)))
    (l_cut_of : K.lookup f_cut_of = some ⟨oc_cut_of, od_cut_of, .func (PySem.W.fnOf "cut_of" "cut_of" (C8.fnArgs s_cut_of) (C8.fnBody s_cut_of) (C8.fnScope s_cut_of) .none kV_cut_of dc_cut_of pm_cut_of an_cut_of cd_cut_of ct_cut_of), sl_cut_of⟩)
    (q_cut_of : PySem.W.codeIn K cd_cut_of "cut_of" = true)
    (k_cut_of : PySem.W.keepIn K (.ref f_cut_of) = true)
    (a_Slots_init : PySem.W.findIn K (.ref C_Slots) "__init__" = some (some (.ref f_Slots_init)))
    (i_Slots_init : PySem.W.isFn K (.ref f_Slots_init) = true)
    (mk_Slots : PySem.W.makesIn K C_Slots = true)
    (kc_Slots : PySem.W.keepIn K (.ref C_Slots) = true)
    (l_Slots_init : K.lookup f_Slots_init = some ⟨oc_Slots_init, od_Slots_init, .func (PySem.W.fnOf "__init__" "Slots.__init__" (C8.fnArgs s_Slots_init) (C8.fnBody s_Slots_init) (C8.fnScope s_Slots_init) .none kV_Slots_init dc_Slots_init pm_Slots_init an_Slots_init cd_Slots_init ct_Slots_init), sl_Slots_init⟩)
    (q_Slots_init : PySem.W.codeIn K cd_Slots_init "Slots.__init__" = true)
    (k_Slots_init : PySem.W.keepIn K (.ref f_Slots_init) = true)
    (a_Slots_hold : PySem.W.findIn K (.ref C_Slots) "hold" = some (some (.ref f_Slots_hold)))
    (i_Slots_hold : PySem.W.isFn K (.ref f_Slots_hold) = true)
    (l_Slots_hold : K.lookup f_Slots_hold = some ⟨oc_Slots_hold, od_Slots_hold, .func (PySem.W.fnOf "hold" "Slots.hold" (C8.fnArgs s_Slots_hold) (C8.fnBody s_Slots_hold) (C8.fnScope s_Slots_hold) .none kV_Slots_hold dc_Slots_hold pm_Slots_hold an_Slots_hold cd_Slots_hold ct_Slots_hold), sl_Slots_hold⟩)
    (q_Slots_hold : PySem.W.codeIn K cd_Slots_hold "Slots.hold" = true)
    (k_Slots_hold : PySem.W.keepIn K (.ref f_Slots_hold) = true)
    (a_Slots_free : PySem.W.findIn K (.ref C_Slots) "free" = some (some (.ref f_Slots_free)))
    (i_Slots_free : PySem.W.isFn K (.ref f_Slots_free) = true)
    (l_Slots_free : K.lookup f_Slots_free = some ⟨oc_Slots_free, od_Slots_free, .func (PySem.W.fnOf "free" "Slots.free" (C8.fnArgs s_Slots_free) (C8.fnBody s_Slots_free) (C8.fnScope s_Slots_free) .none kV_Slots_free dc_Slots_free pm_Slots_free an_Slots_free cd_Slots_free ct_Slots_free), sl_Slots_free⟩)
    (q_Slots_free : PySem.W.codeIn K cd_Slots_free "Slots.free" = true)
    (k_Slots_free : PySem.W.keepIn K (.ref f_Slots_free) = true)
    (a_Slots_held : PySem.W.findIn K (.ref C_Slots) "held" = some (some (.ref f_Slots_held)))
    (i_Slots_held : PySem.W.isFn K (.ref f_Slots_held) = true)
    (l_Slots_held : K.lookup f_Slots_held = some ⟨oc_Slots_held, od_Slots_held, .func (PySem.W.fnOf "held" "Slots.held" (C8.fnArgs s_Slots_held) (C8.fnBody s_Slots_held) (C8.fnScope s_Slots_held) .none kV_Slots_held dc_Slots_held pm_Slots_held an_Slots_held cd_Slots_held ct_Slots_held), sl_Slots_held⟩)
    (q_Slots_held : PySem.W.codeIn K cd_Slots_held "Slots.held" = true)
    (k_Slots_held : PySem.W.keepIn K (.ref f_Slots_held) = true)
    (a_Slots_cut_for : PySem.W.findIn K (.ref C_Slots) "cut_for" = some (some (.ref f_Slots_cut_for)))
    (i_Slots_cut_for : PySem.W.isFn K (.ref f_Slots_cut_for) = true)
    (l_Slots_cut_for : K.lookup f_Slots_cut_for = some ⟨oc_Slots_cut_for, od_Slots_cut_for, .func (PySem.W.fnOf "cut_for" "Slots.cut_for" (C8.fnArgs s_Slots_cut_for) (C8.fnBody s_Slots_cut_for) (C8.fnScope s_Slots_cut_for) .none kV_Slots_cut_for dc_Slots_cut_for pm_Slots_cut_for an_Slots_cut_for cd_Slots_cut_for ct_Slots_cut_for), sl_Slots_cut_for⟩)
    (q_Slots_cut_for : PySem.W.codeIn K cd_Slots_cut_for "Slots.cut_for" = true)
    (k_Slots_cut_for : PySem.W.keepIn K (.ref f_Slots_cut_for) = true)
    (a__law_deck : PySem.W.nsIn K mainGlobals "_law_deck" = some (some (.ref f__law_deck)))
    (l__law_deck : K.lookup f__law_deck = some ⟨oc__law_deck, od__law_deck, .func (PySem.W.fnOf "_law_deck" "_law_deck" (C8.fnArgs s__law_deck) (C8.fnBody s__law_deck) (C8.fnScope s__law_deck) .none kV__law_deck dc__law_deck pm__law_deck an__law_deck cd__law_deck ct__law_deck), sl__law_deck⟩)
    (q__law_deck : PySem.W.codeIn K cd__law_deck "_law_deck" = true)
    (k__law_deck : PySem.W.keepIn K (.ref f__law_deck) = true)
    (a__law_take : PySem.W.nsIn K mainGlobals "_law_take" = some (some (.ref f__law_take)))
    (l__law_take : K.lookup f__law_take = some ⟨oc__law_take, od__law_take, .func (PySem.W.fnOf "_law_take" "_law_take" (C8.fnArgs s__law_take) (C8.fnBody s__law_take) (C8.fnScope s__law_take) .none kV__law_take dc__law_take pm__law_take an__law_take cd__law_take ct__law_take), sl__law_take⟩)
    (q__law_take : PySem.W.codeIn K cd__law_take "_law_take" = true)
    (k__law_take : PySem.W.keepIn K (.ref f__law_take) = true)
    (a__law_whole : PySem.W.nsIn K mainGlobals "_law_whole" = some (some (.ref f__law_whole)))
    (l__law_whole : K.lookup f__law_whole = some ⟨oc__law_whole, od__law_whole, .func (PySem.W.fnOf "_law_whole" "_law_whole" (C8.fnArgs s__law_whole) (C8.fnBody s__law_whole) (C8.fnScope s__law_whole) .none kV__law_whole dc__law_whole pm__law_whole an__law_whole cd__law_whole ct__law_whole), sl__law_whole⟩)
    (q__law_whole : PySem.W.codeIn K cd__law_whole "_law_whole" = true)
    (k__law_whole : PySem.W.keepIn K (.ref f__law_whole) = true)
    (a__law_cut_right : PySem.W.nsIn K mainGlobals "_law_cut_right" = some (some (.ref f__law_cut_right)))
    (l__law_cut_right : K.lookup f__law_cut_right = some ⟨oc__law_cut_right, od__law_cut_right, .func (PySem.W.fnOf "_law_cut_right" "_law_cut_right" (C8.fnArgs s__law_cut_right) (C8.fnBody s__law_cut_right) (C8.fnScope s__law_cut_right) .none kV__law_cut_right dc__law_cut_right pm__law_cut_right an__law_cut_right cd__law_cut_right ct__law_cut_right), sl__law_cut_right⟩)
    (q__law_cut_right : PySem.W.codeIn K cd__law_cut_right "_law_cut_right" = true)
    (k__law_cut_right : PySem.W.keepIn K (.ref f__law_cut_right) = true)
    (a_law : PySem.W.nsIn K mainGlobals "law" = some (some (.ref f_law)))
    (l_law : K.lookup f_law = some ⟨oc_law, od_law, .func (PySem.W.fnOf "law" "law" (C8.fnArgs s_law) (C8.fnBody s_law) (C8.fnScope s_law) .none kV_law dc_law pm_law an_law cd_law ct_law), sl_law⟩)
    (q_law : PySem.W.codeIn K cd_law "law" = true)
    (k_law : PySem.W.keepIn K (.ref f_law) = true)
    : ∃ fd : FuncData, (∀ (s : Shared) (v : Value), BindsTo s fd ⟨[v], []⟩ [("_law_script", v)]) ∧ ∀ base : Heap, K.In base → base.Ns mainGlobals mg → FnOk l.prog w K mg base C8.CX0 7 fa fd ["_law_script"] (spLaw K) := by
  have e := hfa.symm.trans (PySem.W.mg_of X G a_law)
  cases e
  have T : Txt K mg ⟨C_Slots⟩ :=
    { b_bool := PySem.W.mg_none_of X G z_bool,
      b_dict := PySem.W.mg_none_of X G z_dict,
      b_int := PySem.W.mg_none_of X G z_int,
      b_isinstance := PySem.W.mg_none_of X G z_isinstance,
      b_len := PySem.W.mg_none_of X G z_len,
      b_list := PySem.W.mg_none_of X G z_list,
      b_max := PySem.W.mg_none_of X G z_max,
      b_min := PySem.W.mg_none_of X G z_min,
      b_range := PySem.W.mg_none_of X G z_range,
      b_sorted := PySem.W.mg_none_of X G z_sorted,
      b_tuple := PySem.W.mg_none_of X G z_tuple,
      g_LAST_PLACE := ⟨_, PySem.W.mg_of X G g_LAST_PLACE, r_LAST_PLACE⟩,
      g_HOUSES := ⟨_, PySem.W.mg_of X G g_HOUSES, r_HOUSES⟩,
      g_ROOMS := ⟨_, PySem.W.mg_of X G g_ROOMS, r_ROOMS⟩,
      k_Slots := ⟨pg_Slots, hd_Slots, po_Slots, sa_Slots⟩,
      mgc_Slots := PySem.W.mg_of X G ac_Slots,
      na_Slots_most := na_Slots_most,
      na_Slots_places := na_Slots_places,
      d_is_upto := ⟨_, _, ⟨⟨⟨_, _, _, _, _, _, _, _, _, _, rfl, l_is_upto, q_is_upto⟩⟩, PySem.W.mg_of X G a_is_upto, k_is_upto⟩, C8.Fun.binds (st := s_is_upto) (x := "is_upto") (qual := "is_upto") ⟨⟨_, _, _, _, _, _, _, _, _, _, rfl, l_is_upto, q_is_upto⟩⟩ rfl (ps := ["thing", "most"]) (fun _ _ _ _ _ _ us hl => match us, hl with | [_, _], _ => rfl)⟩,
      d_look_place := ⟨_, _, ⟨⟨⟨_, _, _, _, _, _, _, _, _, _, rfl, l_look_place, q_look_place⟩⟩, PySem.W.mg_of X G a_look_place, k_look_place⟩, C8.Fun.binds (st := s_look_place) (x := "look_place") (qual := "look_place") ⟨⟨_, _, _, _, _, _, _, _, _, _, rfl, l_look_place, q_look_place⟩⟩ rfl (ps := ["thing"]) (fun _ _ _ _ _ _ us hl => match us, hl with | [_], _ => rfl)⟩,
      d_look_house := ⟨_, _, ⟨⟨⟨_, _, _, _, _, _, _, _, _, _, rfl, l_look_house, q_look_house⟩⟩, PySem.W.mg_of X G a_look_house, k_look_house⟩, C8.Fun.binds (st := s_look_house) (x := "look_house") (qual := "look_house") ⟨⟨_, _, _, _, _, _, _, _, _, _, rfl, l_look_house, q_look_house⟩⟩ rfl (ps := ["thing"]) (fun _ _ _ _ _ _ us hl => match us, hl with | [_], _ => rfl)⟩,
      d_look_room := ⟨_, _, ⟨⟨⟨_, _, _, _, _, _, _, _, _, _, rfl, l_look_room, q_look_room⟩⟩, PySem.W.mg_of X G a_look_room, k_look_room⟩, C8.Fun.binds (st := s_look_room) (x := "look_room") (qual := "look_room") ⟨⟨_, _, _, _, _, _, _, _, _, _, rfl, l_look_room, q_look_room⟩⟩ rfl (ps := ["thing"]) (fun _ _ _ _ _ _ us hl => match us, hl with | [_], _ => rfl)⟩,
      d_cut_of := ⟨_, _, ⟨⟨⟨_, _, _, _, _, _, _, _, _, _, rfl, l_cut_of, q_cut_of⟩⟩, PySem.W.mg_of X G a_cut_of, k_cut_of⟩, C8.Fun.binds (st := s_cut_of) (x := "cut_of") (qual := "cut_of") ⟨⟨_, _, _, _, _, _, _, _, _, _, rfl, l_cut_of, q_cut_of⟩⟩ rfl (ps := ["room", "slots", "end", "applied"]) (fun _ _ _ _ _ _ us hl => match us, hl with | [_, _, _, _], _ => rfl)⟩,
      d_Slots_init := ⟨_, _, ⟨mk_Slots, a_Slots_init, i_Slots_init, kc_Slots⟩, ⟨⟨_, _, _, _, _, _, _, _, _, _, rfl, l_Slots_init, q_Slots_init⟩⟩, C8.Fun.binds (st := s_Slots_init) (x := "__init__") (qual := "Slots.__init__") ⟨⟨_, _, _, _, _, _, _, _, _, _, rfl, l_Slots_init, q_Slots_init⟩⟩ rfl (ps := ["self", "room"]) (fun _ _ _ _ _ _ us hl => match us, hl with | [_, _], _ => rfl)⟩,
      d_Slots_hold := ⟨_, _, ⟨a_Slots_hold, i_Slots_hold, k_Slots_hold⟩, ⟨⟨_, _, _, _, _, _, _, _, _, _, rfl, l_Slots_hold, q_Slots_hold⟩⟩, C8.Fun.binds (st := s_Slots_hold) (x := "hold") (qual := "Slots.hold") ⟨⟨_, _, _, _, _, _, _, _, _, _, rfl, l_Slots_hold, q_Slots_hold⟩⟩ rfl (ps := ["self", "house", "place"]) (fun _ _ _ _ _ _ us hl => match us, hl with | [_, _, _], _ => rfl)⟩,
      d_Slots_free := ⟨_, _, ⟨a_Slots_free, i_Slots_free, k_Slots_free⟩, ⟨⟨_, _, _, _, _, _, _, _, _, _, rfl, l_Slots_free, q_Slots_free⟩⟩, C8.Fun.binds (st := s_Slots_free) (x := "free") (qual := "Slots.free") ⟨⟨_, _, _, _, _, _, _, _, _, _, rfl, l_Slots_free, q_Slots_free⟩⟩ rfl (ps := ["self", "house"]) (fun _ _ _ _ _ _ us hl => match us, hl with | [_, _], _ => rfl)⟩,
      d_Slots_held := ⟨_, _, ⟨a_Slots_held, i_Slots_held, k_Slots_held⟩, ⟨⟨_, _, _, _, _, _, _, _, _, _, rfl, l_Slots_held, q_Slots_held⟩⟩, C8.Fun.binds (st := s_Slots_held) (x := "held") (qual := "Slots.held") ⟨⟨_, _, _, _, _, _, _, _, _, _, rfl, l_Slots_held, q_Slots_held⟩⟩ rfl (ps := ["self"]) (fun _ _ _ _ _ _ us hl => match us, hl with | [_], _ => rfl)⟩,
      d_Slots_cut_for := ⟨_, _, ⟨a_Slots_cut_for, i_Slots_cut_for, k_Slots_cut_for⟩, ⟨⟨_, _, _, _, _, _, _, _, _, _, rfl, l_Slots_cut_for, q_Slots_cut_for⟩⟩, C8.Fun.binds (st := s_Slots_cut_for) (x := "cut_for") (qual := "Slots.cut_for") ⟨⟨_, _, _, _, _, _, _, _, _, _, rfl, l_Slots_cut_for, q_Slots_cut_for⟩⟩ rfl (ps := ["self", "end", "applied"]) (fun _ _ _ _ _ _ us hl => match us, hl with | [_, _, _], _ => rfl)⟩,
      d__law_deck := ⟨_, _, ⟨⟨⟨_, _, _, _, _, _, _, _, _, _, rfl, l__law_deck, q__law_deck⟩⟩, PySem.W.mg_of X G a__law_deck, k__law_deck⟩, C8.Fun.binds (st := s__law_deck) (x := "_law_deck") (qual := "_law_deck") ⟨⟨_, _, _, _, _, _, _, _, _, _, rfl, l__law_deck, q__law_deck⟩⟩ rfl (ps := ["_law_script"]) (fun _ _ _ _ _ _ us hl => match us, hl with | [_], _ => rfl)⟩,
      d__law_take := ⟨_, _, ⟨⟨⟨_, _, _, _, _, _, _, _, _, _, rfl, l__law_take, q__law_take⟩⟩, PySem.W.mg_of X G a__law_take, k__law_take⟩, C8.Fun.binds (st := s__law_take) (x := "_law_take") (qual := "_law_take") ⟨⟨_, _, _, _, _, _, _, _, _, _, rfl, l__law_take, q__law_take⟩⟩ rfl (ps := ["_law_deck_here", "_law_many"]) (fun _ _ _ _ _ _ us hl => match us, hl with | [_, _], _ => rfl)⟩,
      d__law_whole := ⟨_, _, ⟨⟨⟨_, _, _, _, _, _, _, _, _, _, rfl, l__law_whole, q__law_whole⟩⟩, PySem.W.mg_of X G a__law_whole, k__law_whole⟩, C8.Fun.binds (st := s__law_whole) (x := "_law_whole") (qual := "_law_whole") ⟨⟨_, _, _, _, _, _, _, _, _, _, rfl, l__law_whole, q__law_whole⟩⟩ rfl (ps := ["_law_thing"]) (fun _ _ _ _ _ _ us hl => match us, hl with | [_], _ => rfl)⟩,
      d__law_cut_right := ⟨_, _, ⟨⟨⟨_, _, _, _, _, _, _, _, _, _, rfl, l__law_cut_right, q__law_cut_right⟩⟩, PySem.W.mg_of X G a__law_cut_right, k__law_cut_right⟩, C8.Fun.binds (st := s__law_cut_right) (x := "_law_cut_right") (qual := "_law_cut_right") ⟨⟨_, _, _, _, _, _, _, _, _, _, rfl, l__law_cut_right, q__law_cut_right⟩⟩ rfl (ps := ["_law_slots", "_law_room", "_law_end", "_law_applied"]) (fun _ _ _ _ _ _ us hl => match us, hl with | [_, _, _, _], _ => rfl)⟩ }
  have F : C8.Fun K "law" "law" s_law fa _ := ⟨⟨_, _, _, _, _, _, _, _, _, _, rfl, l_law, q_law⟩⟩
  exact ⟨_, fun s v => .of_eq rfl, fun base _ _ => c_law T F⟩
/-- the head's walk, from the law's own fact -/
theorem walk {l : PySem.W.OpenLaw} {q : Program} {loose : List Str} {XP : (Str → Option Value) → Heap → Prop} {YP : World → Heap → Prop} {d : DefRec} {KK : Params → PySem.W.Frag}
    (hn : l.most = some 63) (hdf : d.params.defaults = []) (hY : ∀ (w : World) (h : Heap), YP w h → (KK w.params).In h)
    (hF : ∀ (w : World) (mg : Str → Option Value) (fa : Addr) (h : Heap), (KK w.params).In h → h.Ns mainGlobals mg → mg d.name = some (.ref fa) → ∃ fd : FuncData, (∀ (s : Shared) (u : Value), BindsTo s fd ⟨[u], []⟩ [("_law_script", u)]) ∧
      ∀ base : Heap, (KK w.params).In base → base.Ns mainGlobals mg → FnOk l.prog w (KK w.params) mg base C8.CX0 7 fa fd ["_law_script"] (spLaw (KK w.params))) : PySem.W.WalkO q loose XP YP l.row.toRowW d [] (fun f vs => PySem.call f vs) :=
  L2.walk_of (n := 63) (k := 7) (x := "_law_script") (CX := fun _ => C8.CX0) (sp := fun w => spLaw (KK w.params)) hn (by decide) hdf ⟨rfl, by decide, by decide⟩ hY hF (fun _ _ a ns hl _ hS => ⟨a, ns, rfl, hS, hl, fun _ => rfl⟩) fun _ _ _ _ _ z => z
end Toy
open PySem PySem.W PyProof.Rows
set_option maxRecDepth 100000 in
set_option maxHeartbeats 0 in
theorem PySem.Challenge.cw_laterline_k33_whole_slots_keep_rows_holds : PySem.Challenge.rw_laterline_k33_whole_slots_keep_rows.Holds := by
  w_on; o_law; k_head; (case hw => w_witness2)
  k_fill
  refine Toy.walk (l := PySem.Challenge.rw_laterline_k33_whole_slots_keep_rows) rfl rfl (fun w h Y => PySem.W.kIn_of Y) ?F
  case F =>
    intro w mg fa h KX G hmg
    refine' Toy.all_mk KX G hmg ?z_bool ?z_dict ?z_int ?z_isinstance ?z_len ?z_list ?z_max ?z_min ?z_range ?z_sorted ?z_tuple ?g_LAST_PLACE ?r_LAST_PLACE ?g_HOUSES ?r_HOUSES ?g_ROOMS ?r_ROOMS ?ac_Slots ?pg_Slots ?hd_Slots ?po_Slots ?sa_Slots ?na_Slots_most ?na_Slots_places ?a_is_upto ?l_is_upto ?q_is_upto ?k_is_upto ?a_look_place ?l_look_place ?q_look_place ?k_look_place ?a_look_house ?l_look_house ?q_look_house ?k_look_house ?a_look_room ?l_look_room ?q_look_room ?k_look_room ?a_cut_of ?l_cut_of ?q_cut_of ?k_cut_of ?a_Slots_init ?i_Slots_init ?mk_Slots ?kc_Slots ?l_Slots_init ?q_Slots_init ?k_Slots_init ?a_Slots_hold ?i_Slots_hold ?l_Slots_hold ?q_Slots_hold ?k_Slots_hold ?a_Slots_free ?i_Slots_free ?l_Slots_free ?q_Slots_free ?k_Slots_free ?a_Slots_held ?i_Slots_held ?l_Slots_held ?q_Slots_held ?k_Slots_held ?a_Slots_cut_for ?i_Slots_cut_for ?l_Slots_cut_for ?q_Slots_cut_for ?k_Slots_cut_for ?a__law_deck ?l__law_deck ?q__law_deck ?k__law_deck ?a__law_take ?l__law_take ?q__law_take ?k__law_take ?a__law_whole ?l__law_whole ?q__law_whole ?k__law_whole ?a__law_cut_right ?l__law_cut_right ?q__law_cut_right ?k__law_cut_right ?a_law ?l_law ?q_law ?k_law
    (case z_bool => k_is)
    (case z_dict => k_is)
    (case z_int => k_is)
    (case z_isinstance => k_is)
    (case z_len => k_is)
    (case z_list => k_is)
    (case z_max => k_is)
    (case z_min => k_is)
    (case z_range => k_is)
    (case z_sorted => k_is)
    (case z_tuple => k_is)
    (case g_LAST_PLACE => k_is)
    (case r_LAST_PLACE => exact ⟨_, rfl⟩)
    (case g_HOUSES => k_is)
    (case r_HOUSES => exact ⟨_, rfl⟩)
    (case g_ROOMS => k_is)
    (case r_ROOMS => exact ⟨_, rfl⟩)
    (case ac_Slots => k_is)
    (case pg_Slots => k_is)
    (case hd_Slots => k_is)
    (case po_Slots => k_is)
    (case sa_Slots => k_is)
    (case na_Slots_most => k_is)
    (case na_Slots_places => k_is)
    (case a_is_upto => k_is)
    (case l_is_upto => k_is)
    (case q_is_upto => k_is)
    (case k_is_upto => k_is)
    (case a_look_place => k_is)
    (case l_look_place => k_is)
    (case q_look_place => k_is)
    (case k_look_place => k_is)
    (case a_look_house => k_is)
    (case l_look_house => k_is)
    (case q_look_house => k_is)
    (case k_look_house => k_is)
    (case a_look_room => k_is)
    (case l_look_room => k_is)
    (case q_look_room => k_is)
    (case k_look_room => k_is)
    (case a_cut_of => k_is)
    (case l_cut_of => k_is)
    (case q_cut_of => k_is)
    (case k_cut_of => k_is)
    (case a_Slots_init => k_is)
    (case i_Slots_init => k_is)
    (case mk_Slots => k_is)
    (case kc_Slots => k_is)
    (case l_Slots_init => k_is)
    (case q_Slots_init => k_is)
    (case k_Slots_init => k_is)
    (case a_Slots_hold => k_is)
    (case i_Slots_hold => k_is)
    (case l_Slots_hold => k_is)
    (case q_Slots_hold => k_is)
    (case k_Slots_hold => k_is)
    (case a_Slots_free => k_is)
    (case i_Slots_free => k_is)
    (case l_Slots_free => k_is)
    (case q_Slots_free => k_is)
    (case k_Slots_free => k_is)
    (case a_Slots_held => k_is)
    (case i_Slots_held => k_is)
    (case l_Slots_held => k_is)
    (case q_Slots_held => k_is)
    (case k_Slots_held => k_is)
    (case a_Slots_cut_for => k_is)
    (case i_Slots_cut_for => k_is)
    (case l_Slots_cut_for => k_is)
    (case q_Slots_cut_for => k_is)
    (case k_Slots_cut_for => k_is)
    (case a__law_deck => k_is)
    (case l__law_deck => k_is)
    (case q__law_deck => k_is)
    (case k__law_deck => k_is)
    (case a__law_take => k_is)
    (case l__law_take => k_is)
    (case q__law_take => k_is)
    (case k__law_take => k_is)
    (case a__law_whole => k_is)
    (case l__law_whole => k_is)
    (case q__law_whole => k_is)
    (case k__law_whole => k_is)
    (case a__law_cut_right => k_is)
    (case l__law_cut_right => k_is)
    (case q__law_cut_right => k_is)
    (case k__law_cut_right => k_is)
    (case a_law => k_is)
    (case l_law => k_is)
    (case q_law => k_is)
    (case k_law => k_is)
