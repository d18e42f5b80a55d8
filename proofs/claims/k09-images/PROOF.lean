import PyProof.Rows.All
import Wide.All
import OpenK.AllK
import Wide.FinOn
import HandS.ForMost
import HandS.Deep
import HandS.Style
import HandS.IsInst
import HandS.Rev
import HandS.Wide
import HandS.ExcInit
import HandS.NestedK
import HandS.ExcField
import HandS.ExcInitHot
import HandS.SuiteRaise
import HandS.ExcIs
import HandS.Defaults
import HandS.TryOnly
import HandS.WordsExc
import HandS.ExcOwn
import KE.KExcSuper
import PySem.Challenge.RW_sidekeep_k09_images_of_sides
set_option Elab.async false
set_option maxRecDepth 100000
set_option maxHeartbeats 4000000
set_option linter.all false

namespace Sk
open PySem L2

/-! ### rules by values, joined over the kinds -/
section
variable {X : Cx}
def rAddU (K : PySem.W.Frag) : R2 := fun x y H Q => match x, y with
  | .int i, .int j => Q (.int (i + j)) H
  | .str i, .str j => i.length + j.length ≤ sizeLine ∧ Q (.str (i ++ j)) H
  | x, y => rCat x y H Q ∨ rCatT K x y H Q
theorem opAddU0 : OpR X (binaryOp .Add) (rAddU X.K) := by
  intro pins s σ H x y v u Q I rx ry h
  unfold rAddU at h
  split at h
  · exact op_add pins s σ H _ _ v u Q I rx ry ⟨_, _, rfl, rfl, h⟩
  · exact op_add_str pins s σ H _ _ v u Q I rx ry ⟨_, _, rfl, rfl, h.1, h.2⟩
  · rcases h with h | h
    · exact op_cat pins s σ H _ _ v u Q I rx ry h
    · exact op_catT pins s σ H _ _ v u Q I rx ry h
theorem opAddU {K : PySem.W.Frag} (hK : X.K = K := by rfl) : OpR X (binaryOp .Add) (rAddU K) := hK ▸ opAddU0
def rSubU : R2 := fun x y H Q => match x, y with
  | .int i, .int j => Q (.int (i - j)) H
  | _, _ => False
theorem opSubU : OpR X (binaryOp .Sub) rSubU := by
  intro pins s σ H x y v u Q I rx ry h
  unfold rSubU at h
  split at h
  · exact op_sub pins s σ H _ _ v u Q I rx ry ⟨_, _, rfl, rfl, h⟩
  · exact h.elim
def rMulU : R2 := fun x y H Q => match x, y with
  | .int i, .int j => CMul i j ∧ Q (.int (i * j)) H
  | x, y => rRep x y H Q
theorem opMultU : OpR X (binaryOp .Mult) rMulU := by
  intro pins s σ H x y v u Q I rx ry h
  unfold rMulU at h
  split at h
  · exact op_mul pins s σ H _ _ v u Q I rx ry ⟨_, _, rfl, rfl, h.1, h.2⟩
  · exact op_rep pins s σ H _ _ v u Q I rx ry h
def rModU : R2 := fun x y H Q => match x, y with
  | .int i, .int j => 0 < j ∧ Q (.int (i % j)) H
  | _, _ => False
theorem opModU : OpR X (binaryOp .Mod) rModU := by
  intro pins s σ H x y v u Q I rx ry h
  unfold rModU at h
  split at h
  · exact op_mod pins s σ H _ _ v u Q I rx ry ⟨_, _, rfl, rfl, h.1, h.2⟩
  · exact h.elim
def rDivU : R2 := fun x y H Q => match x, y with
  | .int i, .int j => (CDiv i j ∨ CDivW i j) ∧ Q (.int (i / j)) H
  | _, _ => False
theorem opFloorDivU : OpR X (binaryOp .FloorDiv) rDivU := by
  intro pins s σ H x y v u Q I rx ry h
  unfold rDivU at h
  split at h
  · obtain ⟨c | c, q⟩ := h
    · exact op_fdiv pins s σ H _ _ v u Q I rx ry ⟨_, _, rfl, rfl, c, q⟩
    · exact op_fdivW pins s σ H _ _ v u Q I rx ry ⟨_, _, rfl, rfl, c, q⟩
  · exact h.elim
def rPowU : R2 := fun x y H Q => match x, y with
  | .int i, .int j => CPow i j ∧ Q (.int (i ^ j.toNat)) H
  | _, _ => False
theorem opPowU : OpR X (binaryOp .Pow) rPowU := by
  intro pins s σ H x y v u Q I rx ry h
  unfold rPowU at h
  split at h
  · exact op_pow pins s σ H _ _ v u Q I rx ry ⟨_, _, rfl, rfl, h.1, h.2⟩
  · exact h.elim
/-- == of scalars, or of data at any depth -/
def rEqU (K : PySem.W.Frag) : R2 := fun x y H Q => match x, y with
  | .int i, .int j => Q (.bl (decide (i = j))) H
  | .str i, .str j => Q (.bl (decide (i = j))) H
  | .bl i, .bl j => Q (.bl (decide (i = j))) H
  | x, y => rEqD K x y H Q
theorem opEqU0 (hu : X.A.units + 64 < cLine) : OpR X (compareOp .Eq) (rEqU X.K) := by
  intro pins s σ H x y v u Q I rx ry h
  unfold rEqU at h
  split at h
  · exact op_eq pins s σ H _ _ v u Q I rx ry ⟨rfl, by simpa using h⟩
  · exact op_eq pins s σ H _ _ v u Q I rx ry ⟨rfl, by simpa using h⟩
  · exact op_eq pins s σ H _ _ v u Q I rx ry ⟨rfl, by simpa using h⟩
  · exact op_eqD hu pins s σ H _ _ v u Q I rx ry h
theorem opEqU {K : PySem.W.Frag} (hu : X.A.units + 64 < cLine) (hK : X.K = K := by rfl) : OpR X (compareOp .Eq) (rEqU K) := hK ▸ opEqU0 hu
def rNeU (K : PySem.W.Frag) : R2 := fun x y H Q => match x, y with
  | .int i, .int j => Q (.bl (!decide (i = j))) H
  | .str i, .str j => Q (.bl (!decide (i = j))) H
  | .bl i, .bl j => Q (.bl (!decide (i = j))) H
  | x, y => rNeD K x y H Q
theorem opNeU0 (hu : X.A.units + 64 < cLine) : OpR X (compareOp .NotEq) (rNeU X.K) := by
  intro pins s σ H x y v u Q I rx ry h
  unfold rNeU at h
  split at h
  · exact op_ne pins s σ H _ _ v u Q I rx ry ⟨rfl, by simpa using h⟩
  · exact op_ne pins s σ H _ _ v u Q I rx ry ⟨rfl, by simpa using h⟩
  · exact op_ne pins s σ H _ _ v u Q I rx ry ⟨rfl, by simpa using h⟩
  · exact op_neD hu pins s σ H _ _ v u Q I rx ry h
theorem opNeU {K : PySem.W.Frag} (hu : X.A.units + 64 < cLine) (hK : X.K = K := by rfl) : OpR X (compareOp .NotEq) (rNeU K) := hK ▸ opNeU0 hu
def rIsU : R2 := fun x y H Q => match y with
  | .non => Q (.bl (decide (x = .non))) H
  | .bl b => ∃ a, x = .bl a ∧ Q (.bl (decide (a = b))) H
  | _ => False
theorem opIsU : OpR X (compareOp .Is) rIsU := by
  intro pins s σ H x y v u Q I rx ry h
  unfold rIsU at h
  split at h
  · exact op_isN pins s σ H _ _ v u Q I rx ry ⟨rfl, h⟩
  · obtain ⟨a, rfl, q⟩ := h; exact op_isBl pins s σ H _ _ v u Q I rx ry ⟨_, _, rfl, rfl, q⟩
  · exact h.elim
def rNotU : R2 := fun x y H Q => match y with
  | .non => Q (.bl (!decide (x = .non))) H
  | .bl b => ∃ a, x = .bl a ∧ Q (.bl (!decide (a = b))) H
  | _ => False
theorem opNotU : OpR X (compareOp .IsNot) rNotU := by
  intro pins s σ H x y v u Q I rx ry h
  unfold rNotU at h
  split at h
  · exact op_notN pins s σ H _ _ v u Q I rx ry ⟨rfl, h⟩
  · obtain ⟨a, rfl, q⟩ := h; exact op_notBl pins s σ H _ _ v u Q I rx ry ⟨_, _, rfl, rfl, q⟩
  · exact h.elim
theorem opInF0 : OpR X (compareOp .In) (rIn X.K false) := op_in_seq
theorem opInF {K : PySem.W.Frag} (hK : X.K = K := by rfl) : OpR X (compareOp .In) (rIn K false) := hK ▸ opInF0
theorem opNinF0 : OpR X (compareOp .NotIn) (rIn X.K true) := op_notIn_seq
theorem opNinF {K : PySem.W.Frag} (hK : X.K = K := by rfl) : OpR X (compareOp .NotIn) (rIn K true) := hK ▸ opNinF0
theorem ps_never {st : Stmt} : PS X st (fun _ _ _ => False) := ⟨fun _ _ _ _ _ _ h => h.elim⟩
theorem pe_never {e : Expr} : PE X e (fun _ _ _ => False) := ⟨fun _ _ _ _ _ _ h => h.elim⟩
theorem hu65 {A : Around} {k : Nat} (hr : Room k A) : A.units + 65 < cLine := by have := hr.un; omega
theorem opInU0 (hu : X.A.units + 65 < cLine) : OpR X (compareOp .In) (rInD X.K) := op_inD hu
theorem opInU {K : PySem.W.Frag} (hu : X.A.units + 65 < cLine) (hK : X.K = K := by rfl) : OpR X (compareOp .In) (rInD K) := hK ▸ opInU0 hu
theorem opNinU0 (hu : X.A.units + 65 < cLine) : OpR X (compareOp .NotIn) (rNotInD X.K) := op_notInD hu
theorem opNinU {K : PySem.W.Frag} (hu : X.A.units + 65 < cLine) (hK : X.K = K := by rfl) : OpR X (compareOp .NotIn) (rNotInD K) := hK ▸ opNinU0 hu
theorem ixU0 : IxR X (rIx X.K) := ix_seq
theorem ixU {K : PySem.W.Frag} (hK : X.K = K := by rfl) : IxR X (rIx K) := hK ▸ ixU0
theorem callMaxU {K : PySem.W.Frag} (hc : X.calm = true) (hK : X.K = K := by rfl) : CallR X (.builtin "max") (rMax K) := hK ▸ cr_max hc
theorem pi_revK {K : PySem.W.Frag} {tg e : Expr} {te : TE} {p pos : Pos} (hg : Gl X "reversed") (hm : X.mg "reversed" = none) (he : PE X e te) (hs : starEach [e] X.env = (false, eval e X.env) :: starEach [] X.env := by rfl) (hK : X.K = K := by rfl) :
    PI X tg (.Call (.Name "reversed" p) [e] [] pos) (RT.iRevA K te) := hK ▸ RT.pi_revA hg hm he hs
def rSlU (K : PySem.W.Frag) : V → Option Int → Option Int → Hp → VK → Prop := fun x lo hi H Q => rSlL K x lo hi H Q ∨ rSlT K x lo hi H Q
theorem slU0 : SlR X (rSlU X.K) := sl_list.or sl_tup
theorem slU {K : PySem.W.Frag} (hK : X.K = K := by rfl) : SlR X (rSlU K) := hK ▸ slU0
def rLenU (K : PySem.W.Frag) : List V → Hp → VK → Prop := fun xs H Q => ∃ x n, xs = [x] ∧ LenV K x H n ∧ Q (.int n) H
theorem callLenU0 : CallR X (.builtin "len") (rLenU X.K) := call_len
theorem callLenU {K : PySem.W.Frag} (hK : X.K = K := by rfl) : CallR X (.builtin "len") (rLenU K) := hK ▸ callLenU0
def rListU (K : PySem.W.Frag) : List V → Hp → VK → Prop := fun xs H Q => ∃ p ys, xs = [.ref p] ∧ (SqL K H p ys ∨ SqT K H p ys) ∧ ∀ l, H l = none → Q (.ref l) (upd H l (.lst ys))
theorem callListU0 : CallR X (.type "list") (rListU X.K) := call_list_of
theorem callListU {K : PySem.W.Frag} (hK : X.K = K := by rfl) : CallR X (.type "list") (rListU K) := hK ▸ callListU0
def rTupU (K : PySem.W.Frag) : List V → Hp → VK → Prop := fun xs H Q => ∃ p ys, xs = [.ref p] ∧ ((SqL K H p ys ∧ ∀ l, H l = none → Q (.ref l) (upd H l (.tup ys))) ∨ (SqT K H p ys ∧ Q (.ref p) H))
theorem callTupU0 : CallR X (.type "tuple") (rTupU X.K) := call_tuple_of
theorem callTupU {K : PySem.W.Frag} (hK : X.K = K := by rfl) : CallR X (.type "tuple") (rTupU K) := hK ▸ callTupU0
def rInt1 : List V → Hp → VK → Prop := fun xs H Q => (∃ i, xs = [.int i] ∧ Q (.int i) H) ∨ ∃ k, xs = [.bl k] ∧ Q (.int (if k then 1 else 0)) H
theorem callIntU : CallR X (.type "int") rInt1 := call_int1
/-! the layer's rules with the written part K named (a comprehension's block has it by computing) -/
variable {e : Expr} {es : List Expr} {te : TE} {t : TA} {pos : Pos} {tg : Expr} {K : PySem.W.Frag}
theorem pe_fldK {f : Str} (he : PE X e te) (hb : attributeBase e f X.env (eval e X.env) = eval e X.env) (hK : X.K = K := by rfl) : PE X (.Attribute e f pos) (tFld K te f) := hK ▸ pe_fld he hb
def tTruK (K : PySem.W.Frag) (ta : TE) : TT := fun σ H Q => ta σ H fun x H' => ∃ k, TruV K x H' k ∧ Q k H'
theorem pt_truthK (ha : PE X e te) (he : ∀ whole, isTrue e X.env whole = (do let v ← whole; standAt e.pos; holding [v] (truthy v))) (hK : X.K = K := by rfl) : PT X e (tTruK K te) := hK ▸ pt_truth ha he
theorem pi_listK (hl : PE X e te) (hK : X.K = K := by rfl) : PI X tg e (iList K te) := hK ▸ pi_list hl
theorem pi_tupK (hl : PE X e te) (hK : X.K = K := by rfl) : PI X tg e (iTup K te) := hK ▸ pi_tup hl
theorem pg_tupK {k : Nat} {t : TGs} {n : Nat} (hc : X.calm = true) (h : PGs X es t)
    (hn : (assignEach es X.env).length = n := by rfl) (hst : (assignEach es X.env).findIdx? (·.1) = none := by rfl) (hK : X.K = K := by rfl) : PG X (.Tuple es k pos) (gTup K n t) := hK ▸ pg_tup hc h hn hst
end

/-! ### steps of a reading -/
section
variable {K : PySem.W.Frag} {σ : St} {H H1 : Hp} {Q : VK} {QB : Bool → Hp → Prop} {QA : List V → Hp → Prop} {D : Ends} {i : Nat} {v x y : V} {te ta tb : TE} {t u : TS} {c cd : TT} {tr : TA} {E : XK} {A B : Prop}
theorem g_var (h : σ[i]? = some (some v)) (q : Q v H) : tVar i σ H Q := ⟨v, h, q⟩
theorem g_c (q : Q v H) : tC v σ H Q := q
theorem g_op {r : R2} (q : ta σ H fun x H1 => tb σ H1 fun y H2 => r x y H2 Q) : tOp r ta tb σ H Q := q
theorem g_un {r : V → Hp → VK → Prop} (q : ta σ H fun x H1 => r x H1 Q) : tUn r ta σ H Q := q
theorem g_neg {n : Int} (q : Q (.int (-n)) H) : rU (fun i => .int (-i)) (.int n) H Q := ⟨n, rfl, q⟩
theorem g_add {a b : Int} (q : Q (.int (a + b)) H) : rAddU K (.int a) (.int b) H Q := q
theorem g_sub {a b : Int} (q : Q (.int (a - b)) H) : rSubU (.int a) (.int b) H Q := q
theorem g_mul {a b : Int} (h : CMul a b) (q : Q (.int (a * b)) H) : rMulU (.int a) (.int b) H Q := ⟨h, q⟩
theorem g_mod {a b : Int} (h : 0 < b) (q : Q (.int (a % b)) H) : rModU (.int a) (.int b) H Q := ⟨h, q⟩
theorem g_div {a b : Int} (h : CDiv a b ∨ CDivW a b) (q : Q (.int (a / b)) H) : rDivU (.int a) (.int b) H Q := ⟨h, q⟩
theorem g_pow {a b : Int} (h : CPow a b) (q : Q (.int (a ^ b.toNat)) H) : rPowU (.int a) (.int b) H Q := ⟨h, q⟩
theorem g_cmp {g : Int → Int → V} {a b : Int} (q : Q (g a b) H) : rI0 g (.int a) (.int b) H Q := ⟨a, b, rfl, rfl, q⟩
theorem g_eqI {a b : Int} (q : Q (.bl (decide (a = b))) H) : rEqU K (.int a) (.int b) H Q := q
theorem g_eqS {a b : Str} (q : Q (.bl (decide (a = b))) H) : rEqU K (.str a) (.str b) H Q := q
theorem g_eqB {a b : Bool} (q : Q (.bl (decide (a = b))) H) : rEqU K (.bl a) (.bl b) H Q := q
theorem g_neI {a b : Int} (q : Q (.bl (!decide (a = b))) H) : rNeU K (.int a) (.int b) H Q := q
theorem g_neS {a b : Str} (q : Q (.bl (!decide (a = b))) H) : rNeU K (.str a) (.str b) H Q := q
theorem g_isN (q : Q (.bl (decide (x = .non))) H) : rIsU x .non H Q := q
theorem g_notN (q : Q (.bl (!decide (x = .non))) H) : rNotU x .non H Q := q
theorem g_isB {a b : Bool} (q : Q (.bl (decide (a = b))) H) : rIsU (.bl a) (.bl b) H Q := ⟨a, rfl, q⟩
theorem g_notB {a b : Bool} (q : Q (.bl (!decide (a = b))) H) : rNotU (.bl a) (.bl b) H Q := ⟨a, rfl, q⟩
theorem g_rep {p : Addr} {xs : List V} {k : Int} (h : H p = some (.lst xs)) (h1 : -(2 ^ 63) ≤ k) (h2 : k < 2 ^ 63) (z : xs.length * k.toNat ≤ sizeLine) (q : ∀ p, H p = none → Q (.ref p) (upd H p (.lst (List.replicate k.toNat xs).flatten))) : rMulU (.ref p) (.int k) H Q := ⟨p, k, xs, rfl, rfl, h, h1, h2, z, q⟩
theorem g_cat {a b : Addr} {xs zs : List V} (h : H a = some (.lst xs)) (g : H b = some (.lst zs)) (z : xs.length + zs.length ≤ sizeLine) (q : ∀ p, H p = none → Q (.ref p) (upd H p (.lst (xs ++ zs)))) : rAddU K (.ref a) (.ref b) H Q := .inl ⟨a, b, xs, zs, rfl, rfl, h, g, z, q⟩
theorem g_ninF {p : Addr} {xs : List V} (h : SqL K H p xs ∨ SqT K H p xs) (f : flatV x = true) (fs : xs.all flatV = true) (q : Q (.bl (!inV x xs)) H) : rIn K true x (.ref p) H Q := ⟨p, xs, rfl, h, f, fs, q⟩
theorem g_inF {p : Addr} {xs : List V} (h : SqL K H p xs ∨ SqT K H p xs) (f : flatV x = true) (fs : xs.all flatV = true) (q : Q (.bl (inV x xs)) H) : rIn K false x (.ref p) H Q := ⟨p, xs, rfl, h, f, fs, q⟩
theorem g_tupL {p : Addr} {xs : List V} (h : SqL K H p xs) (q : ∀ l, H l = none → Q (.ref l) (upd H l (.tup xs))) : rTupU K [.ref p] H Q := ⟨p, xs, rfl, .inl ⟨h, q⟩⟩
theorem g_listT {p : Addr} {ys : List V} (h : SqT K H p ys) (q : ∀ l, H l = none → Q (.ref l) (upd H l (.lst ys))) : rListU K [.ref p] H Q := ⟨p, ys, rfl, .inr h, q⟩
theorem g_ixL {p : Addr} {xs : List V} {j : Int} (h : SqL K H p xs) (e : atI xs j = some v) (q : Q v H) : rIx K (.ref p) (.int j) H Q := .inl ⟨p, xs, j, v, rfl, rfl, h, e, q⟩
theorem g_ixT {p : Addr} {xs : List V} {j : Int} (h : SqT K H p xs) (e : atI xs j = some v) (q : Q v H) : rIx K (.ref p) (.int j) H Q := .inr (.inl ⟨p, xs, j, v, rfl, rfl, h, e, q⟩)
theorem g_lenL {p : Addr} {xs : List V} (h : SqL K H p xs) (q : Q (.int (xs.length : Int)) H) : rLenU K [.ref p] H Q := ⟨_, _, rfl, .inl ⟨xs, h, rfl⟩, q⟩
theorem g_lenT {p : Addr} {xs : List V} (h : SqT K H p xs) (q : Q (.int (xs.length : Int)) H) : rLenU K [.ref p] H Q := ⟨_, _, rfl, .inr ⟨xs, h, rfl⟩, q⟩
theorem g_int {n : Int} (q : Q (.int n) H) : rInt1 [.int n] H Q := .inl ⟨n, rfl, q⟩
theorem g_intB {k : Bool} (q : Q (.int (if k then 1 else 0)) H) : rInt1 [.bl k] H Q := .inr ⟨k, rfl, q⟩
theorem g_setL {p : Addr} {xs : List V} {k : Int} {j : Nat} {QH : Hp → Prop} (h : H p = some (.lst xs)) (e : ixN xs.length k = some j) (q : QH (upd H p (.lst (xs.set j v)))) : rSetL (.ref p) (.int k) v H QH := ⟨p, xs, k, j, rfl, rfl, h, e, q⟩
theorem g_nil (q : QA [] H) : tNil σ H QA := q
theorem g_cons (q : te σ H fun x H1 => tr σ H1 fun xs H2 => QA (x :: xs) H2) : tCons te tr σ H QA := q
theorem g_cb {r : List V → Hp → VK → Prop} (q : tr σ H fun vs H1 => r vs H1 Q) : tCB r tr σ H Q := q
theorem g_tup (q : tr σ H fun xs H1 => xs.length ≤ sizeLine ∧ ∀ p, H1 p = none → Q (.ref p) (upd H1 p (.tup xs))) : tTup tr σ H Q := q
theorem g_lst (q : tr σ H fun xs H1 => xs.length ≤ sizeLine ∧ ∀ p, H1 p = none → Q (.ref p) (upd H1 p (.lst xs))) : tLst tr σ H Q := q
theorem g_test (q : te σ H fun x H' => ∃ k, x = .bl k ∧ QB k H') : tTest te σ H QB := q
theorem g_tB (q : te σ H fun x H' => ∃ k, x = .bl k ∧ QB k H') : tB te σ H QB := q
theorem g_bl {k : Bool} {P : Bool → Prop} (q : P k) : ∃ k', V.bl k = .bl k' ∧ P k' := ⟨k, rfl, q⟩
theorem g_not (q : c σ H fun b H1 => QB (!b) H1) : tNot c σ H QB := q
theorem g_and (q : c σ H fun b H1 => if b = true then cd σ H1 QB else QB false H1) : tAnd c cd σ H QB := q
theorem g_or (q : c σ H fun b H1 => if b = true then QB true H1 else cd σ H1 QB) : tOr c cd σ H QB := q
theorem g_if (q : c σ H fun b H1 => if b = true then t D σ H1 else u D σ H1) : tIfS c t u D σ H := q
theorem g_andV {ta tb : TE} (q : ta σ H fun x H1 => ∃ c, x = .bl c ∧ if c = true then tb σ H1 Q else Q (.bl false) H1) : tAndV ta tb σ H Q := q
theorem g_orV {ta tb : TE} (q : ta σ H fun x H1 => ∃ c, x = .bl c ∧ if c = true then Q (.bl true) H1 else tb σ H1 Q) : tOrV ta tb σ H Q := q
theorem g_notV {ta : TE} (q : ta σ H fun x H1 => ∃ c, x = .bl c ∧ Q (.bl (!c)) H1) : tNotV ta σ H Q := q
theorem g_ife (q : c σ H fun b H1 => if b = true then ta σ H1 Q else tb σ H1 Q) : tIf c ta tb σ H Q := q
theorem g_ite {p : Prop} [Decidable p] (h1 : p → A) (h2 : ¬ p → B) : if decide p = true then A else B := by
  by_cases h : p
  · rw [if_pos (decide_eq_true h)]; exact h1 h
  · rw [if_neg (by simp [h])]; exact h2 h
theorem g_iteN {p : Prop} [Decidable p] (h1 : ¬ p → A) (h2 : p → B) : if (!decide p) = true then A else B := by
  by_cases h : p
  · rw [if_neg (by simp [h])]; exact h2 h
  · rw [if_pos (by simp [h])]; exact h1 h
theorem g_iteB {b : Bool} (h1 : b = true → A) (h2 : b = false → B) : if b = true then A else B := by
  cases b
  · rw [if_neg Bool.false_ne_true]; exact h2 rfl
  · rw [if_pos rfl]; exact h1 rfl
theorem g_iteT {b : Bool} (h : b = true) (q : A) : if b = true then A else B := by rw [if_pos h]; exact q
theorem g_iteF {b : Bool} (h : b = false) (q : B) : if b = true then A else B := by rw [if_neg (by rw [h]; exact Bool.false_ne_true)]; exact q
theorem g_seq (q : t { D with nx := u D } σ H) : tSeq t u D σ H := q
theorem g_next (q : D.nx σ H) : tNext D σ H := q
theorem g_ret (q : te σ H D.rt) : tRet te D σ H := q
theorem g_retN (q : D.rt .non H) : tRetN D σ H := q
theorem g_drop (q : te σ H fun _ H1 => D.nx σ H1) : tDrop te D σ H := q
theorem g_asg (q : te σ H fun x H1 => D.nx (σ.set i (some x)) H1) : tAsg te (gName i) D σ H := q
theorem g_asgS {to ti : TE} {ts : TSet} (q : te σ H fun x H1 => to σ H1 fun o H2 => ti σ H2 fun k H3 => ts o k x H3 fun H4 => D.nx σ H4) : tAsg te (gSub to ti ts) D σ H := q
theorem g_seqA (q : te σ H fun x H1 => u D (σ.set i (some x)) H1) : tSeq (tAsg te (gName i)) u D σ H := q
theorem g_seqS {to ti : TE} {ts : TSet} (q : te σ H fun x H1 => to σ H1 fun o H2 => ti σ H2 fun k H3 => ts o k x H3 fun H4 => u D σ H4) : tSeq (tAsg te (gSub to ti ts)) u D σ H := q
theorem g_seqD (q : te σ H fun _ H1 => u D σ H1) : tSeq (tDrop te) u D σ H := q
theorem g_seqI {w : TS} (q : c σ H fun b H1 => if b = true then t { D with nx := w D } σ H1 else u { D with nx := w D } σ H1) : tSeq (tIfS c t u) w D σ H := q
theorem g_joinI {p : Prop} [Decidable p] {v0 : V} (Rv : V → Prop) (h0 : σ[i]? = some (some v0)) (ht : p → ∀ Q : VK, (∀ x, Rv x → Q x H) → te σ H Q) (hf : ¬ p → Rv v0) (rest : ∀ x, Rv x → u D (σ.set i (some x)) H) :
    if decide p = true then tAsg te (gName i) { D with nx := u D } σ H else tNext { D with nx := u D } σ H := by
  refine g_ite (fun h => ht h _ fun x r => rest x r) (fun h => ?_)
  have e : σ.set i (some v0) = σ := by
    apply List.ext_getElem? 
    intro j
    by_cases hj : i = j
    · subst hj
      rw [h0]
      have hl : i < σ.length := (List.getElem?_eq_some_iff.mp h0).1
      simp [hl]
    · rw [List.getElem?_set_ne hj]
  have := rest v0 (hf h)
  rw [e] at this
  exact this
theorem g_truth (q : te σ H fun x H' => ∃ k, TruV K x H' k ∧ QB k H') : tTruK K te σ H QB := q
theorem g_call {sp : Sp} {dvs : List V} (q : tr σ H fun vs H1 => sp (vs ++ dvs) H1 Q E) : tCall sp dvs E tr σ H Q := q
/-- o.f, by values -/
def FldW (K : PySem.W.Frag) (x : V) (f : Str) (H : Hp) (Q : VK) : Prop := ∃ a C dx fs v, x = .ref a ∧ H a = some (.ins C dx fs) ∧ Cls K C ∧ NoAttr K C f ∧ fs.lookup f = some v ∧ Q v H
theorem g_fld {f : Str} (q : te σ H fun x H1 => FldW K x f H1 Q) : tFld K te f σ H Q := q
theorem g_fldW {a C dx : Addr} {fs : List (Str × V)} {f : Str} (h : H a = some (.ins C dx fs)) (c : Cls K C) (n : NoAttr K C f) (l : fs.lookup f = some v) (q : Q v H) : FldW K (.ref a) f H Q := ⟨a, C, dx, fs, v, rfl, h, c, n, l, q⟩
/-- o.f = y, by values -/
def SetW (K : PySem.W.Frag) (x y : V) (f : Str) (H : Hp) (QH : Hp → Prop) : Prop := ∃ a C dx fs, x = .ref a ∧ H a = some (.ins C dx fs) ∧ Cls K C ∧ NoAttr K C f ∧ fs.length < 1000 ∧ QH (upd H a (.ins C dx (putF f y fs)))
theorem g_sfld {f : Str} (q : ta σ H fun y H1 => te σ H1 fun x H2 => SetW K x y f H2 fun H3 => D.nx σ H3) : sFld K te ta f D σ H := q
theorem g_seqF {f : Str} (q : ta σ H fun y H1 => te σ H1 fun x H2 => SetW K x y f H2 fun H3 => u D σ H3) : tSeq (sFld K te ta f) u D σ H := q
theorem g_setW {a C dx : Addr} {fs : List (Str × V)} {f : Str} {QH : Hp → Prop} (h : H a = some (.ins C dx fs)) (c : Cls K C) (n : NoAttr K C f) (z : fs.length < 1000) (q : QH (upd H a (.ins C dx (putF f y fs)))) : SetW K (.ref a) y f H QH := ⟨a, C, dx, fs, rfl, h, c, n, z, q⟩
/-- a method of a list, of another built-in type -/
theorem g_bm {ty : String} {r : V → List V → Hp → VK → Prop} (q : te σ H fun x H1 => tyV K ty x H1 ∧ tr σ H1 fun xs H2 => r x xs H2 Q) : tBM K ty r te tr σ H Q := q
theorem g_bm0 {ty : String} {r : V → List V → Hp → VK → Prop} (q : te σ H fun x H1 => tyV K ty x H1 ∧ r x [] H1 Q) : tBM0 K ty r te σ H Q := q
theorem g_tyL {p : Addr} {xs : List V} {P : Prop} (h : H p = some (.lst xs)) (q : P) : tyV K "list" (.ref p) H ∧ P := ⟨.inl ⟨rfl, _, SqL.of h⟩, q⟩
theorem g_app {p : Addr} {xs : List V} (h : H p = some (.lst xs)) (z : xs.length < sizeLine) (q : Q .non (upd H p (.lst (xs ++ [v])))) : rAppend (.ref p) [v] H Q := ⟨p, xs, v, rfl, rfl, h, z, q⟩
def MW (C : Addr) (m : Str) (x : V) (H : Hp) (P : Prop) : Prop := ∃ a dx fs, x = .ref a ∧ H a = some (.ins C dx fs) ∧ fs.lookup m = none ∧ P
theorem g_meth {C : Addr} {m : Str} {sp : Sp} {dvs : List V} (q : te σ H fun x H1 => MW C m x H1 (tr σ H1 fun vs H2 => sp (x :: (vs ++ dvs)) H2 Q E)) : tMeth C m sp dvs E te tr σ H Q := q
theorem g_MW {C a dx : Addr} {fs : List (Str × V)} {m : Str} {P : Prop} (h : H a = some (.ins C dx fs)) (l : fs.lookup m = none) (q : P) : MW C m (.ref a) H P := ⟨a, dx, fs, rfl, h, l, q⟩
/-- C(..) -/
theorem g_make {C : Addr} {sp : Sp} {dvs : List V} (q : tr σ H fun vs H1 => ∀ x dx, H1 x = none → H1 dx = none → dx ≠ x →
  sp (.ref x :: (vs ++ dvs)) (upd (upd H1 dx (.own x)) x (.ins C dx [])) (fun v H2 => v = .non ∧ Q (.ref x) H2) E) : tMake C sp dvs E tr σ H Q := q
theorem g_sl {r : V → Option Int → Option Int → Hp → VK → Prop} {tl th : TO} (q : te σ H fun x H1 => tl σ H1 fun l H2 => th σ H2 fun u H3 => r x l u H3 Q) : tSl r te tl th σ H Q := q
def PartW (x : V) (H : Hp) (Q : Option Int → Hp → Prop) : Prop := ∃ i, x = .int i ∧ Q (some i) H
theorem g_part {QO : Option Int → Hp → Prop} (q : te σ H fun x H1 => PartW x H1 QO) : tPart te σ H QO := q
theorem g_partW {QO : Option Int → Hp → Prop} {n : Int} (q : QO (some n) H) : PartW (.int n) H QO := ⟨n, rfl, q⟩
theorem g_noPart {QO : Option Int → Hp → Prop} (q : QO none H) : tNoPart σ H QO := q
theorem g_slL {p : Addr} {xs : List V} {lo hi : Option Int} (h : SqL K H p xs) (q : ∀ p, H p = none → Q (.ref p) (upd H p (.lst (cutV xs lo hi)))) : rSlU K (.ref p) lo hi H Q := .inl ⟨p, xs, rfl, h, q⟩
/-! loops: what is walked, then the loop's own question -/
def ForW (J : It) (g : TG) (tb : TS) (D : Ends) (σ : St) (H1 : Hp) : Prop := ∃ W : Nat → Nat → St → Hp → Prop, (∃ m, W 0 m σ H1) ∧ ∀ i m σ H, W i m σ H →
  (J.stop i H ∧ D.nx σ H) ∨ (J.go i H ∧ ∃ N : St → Hp → Prop, (∀ σ' H', N σ' H' → ∃ m', m' < m ∧ W (i + 1) m' σ' H') ∧ ∀ x H', J.yld i H x H' → g x σ H' fun σ2 H2 => tb { D with nx := N, ct := N, bk := D.nx } σ2 H2)
theorem g_for {wi : TI} {g : TG} {tb : TS} (q : wi σ H fun J H1 => ForW J g tb D σ H1) : tFor wi g tb D σ H := q
theorem g_seqFor {wi : TI} {g : TG} {tb : TS} (q : wi σ H fun J H1 => ForW J g tb { D with nx := u D } σ H1) : tSeq (tFor wi g tb) u D σ H := q
def LcW (J : It) (g : TG) (tt : TT) (te : TE) (vs : List Nat) (σ : St) (Q : VK) (H1 : Hp) : Prop := ∀ D, H1 D = none → ∃ W : Nat → Nat → Hp → Prop, (∃ m, W 0 m (upd H1 D (.lst []))) ∧ ∀ i m H, W i m H →
  (J.stop i H ∧ Q (.ref D) H) ∨ (J.go i H ∧ ∃ Nx : Hp → Prop, (∀ H', Nx H' → ∃ m', m' < m ∧ W (i + 1) m' H') ∧ ∀ x H', J.yld i H x H' → g x (wipe σ vs) H' fun σ2 H2 => wipe σ2 vs = wipe σ vs ∧ tt σ2 H2 fun b H3 =>
    if b = true then te σ2 H3 fun y H4 => ∃ acc, H4 D = some (.lst acc) ∧ acc.length < sizeLine ∧ Nx (upd H4 D (.lst (acc ++ [y]))) else Nx H3)
theorem g_lc {wi : TI} {g : TG} {tt : TT} {vs : List Nat} (q : wi σ H fun J H1 => LcW J g tt te vs σ Q H1) : tLc wi g tt te vs σ H Q := q
def LsW (K : PySem.W.Frag) (x : V) (H : Hp) (R : It → Hp → Prop) : Prop := ∃ a, x = .ref a ∧ (∃ xs, SqL K H a xs) ∧ R (Itl K a) H
theorem g_iList {R : It → Hp → Prop} (q : te σ H fun x H1 => LsW K x H1 R) : iList K te σ H R := q
theorem g_LsW {R : It → Hp → Prop} {a : Addr} {xs : List V} (h : SqL K H a xs) (q : R (Itl K a) H) : LsW K (.ref a) H R := ⟨a, rfl, ⟨xs, h⟩, q⟩
def R1W (vs : List V) (H : Hp) (R : It → Hp → Prop) : Prop := ∃ j : Int, vs = [.int j] ∧ -(2 ^ 62) ≤ j ∧ j < 2 ^ 62 ∧ R (Itr 0 j.toNat) H
theorem g_iR1 {R : It → Hp → Prop} (q : tr σ H fun vs H1 => R1W vs H1 R) : iRng1 tr σ H R := q
theorem g_R1W {R : It → Hp → Prop} {n : Nat} {j : Int} (e : j = (n : Int)) (h : n ≤ 100000) (q : R (Itr 0 n) H) : R1W [.int j] H R := by subst e; exact ⟨n, rfl, by omega, by omega, q⟩
def R2W (vs : List V) (H : Hp) (R : It → Hp → Prop) : Prop := ∃ i j : Int, vs = [.int i, .int j] ∧ (-(2 ^ 62) ≤ i ∧ i < 2 ^ 62 ∧ -(2 ^ 62) ≤ j ∧ j < 2 ^ 62) ∧ R (Itr i (j - i).toNat) H
theorem g_iR2 {R : It → Hp → Prop} (q : tr σ H fun vs H1 => R2W vs H1 R) : iRng2 tr σ H R := q
def RvW (K : PySem.W.Frag) (v : V) (H : Hp) (R : It → Hp → Prop) : Prop := ∃ (a : Addr) (xs : List V), v = .ref a ∧ ((SqL K H a xs ∧ R (Itv K a xs.length) H) ∨ (SqT K H a xs ∧ R (RT.ItvT K a xs.length) H))
theorem g_iRev {te : TE} {R : It → Hp → Prop} (q : te σ H fun v H1 => RvW K v H1 R) : RT.iRevA K te σ H R := q
theorem g_ext {l b : Addr} {xs zs : List V} (h : H l = some (.lst xs)) (g : H b = some (.lst zs)) (z : xs.length + zs.length ≤ sizeLine) (q : Q .non (upd H l (.lst (xs ++ zs)))) : rExtend (.ref l) [.ref b] H Q := ⟨l, b, xs, zs, rfl, rfl, h, g, z, q⟩
theorem g_slT {p : Addr} {xs : List V} {lo hi : Option Int} (h : SqT K H p xs) (w : ¬ (HT.sIx xs.length 0 lo = 0 ∧ HT.sIx xs.length xs.length hi = xs.length)) (q : ∀ p, H p = none → Q (.ref p) (upd H p (.tup (cutV xs lo hi)))) : rSlU K (.ref p) lo hi H Q := .inr ⟨p, xs, rfl, h, w, q⟩
theorem g_max {a : Addr} {ns : List Int} (h : SqL K H a (ns.map V.int)) (z : 0 < ns.length) (q : ∀ m, m ∈ ns → (∀ y, y ∈ ns → y ≤ m) → Q (.int m) H) : rMax K [.ref a] H Q := ⟨a, ns, rfl, h, z, q⟩
theorem inV_ints (i : Int) : ∀ l : List Int, inV (.int i) (l.map V.int) = decide (i ∈ l)
  | [] => by simp [inV]
  | n :: r => by
    have h := inV_ints i r
    unfold inV at h ⊢
    rw [List.map_cons, List.any_cons, h]
    rw [show eqV (.int n) (.int i) = decide (i = n) by rw [eqV, Bool.eq_iff_iff, beq_iff_eq, decide_eq_true_iff]; exact eq_comm]
    by_cases e : i = n <;> by_cases f : i ∈ r <;> simp [e, f]
theorem flat_ints (l : List Int) : (l.map V.int).all flatV = true := by
  induction l with
  | nil => rfl
  | cons n r ih => rw [List.map_cons, List.all_cons, ih]; rfl
theorem g_gName {QG : St → Hp → Prop} (q : QG (σ.set i (some v)) H) : gName i v σ H QG := q
end
end Sk

namespace Sk
open PySem L2
/-! ### what is read for ever (R) within what is tracked (H) -/
structure Gr (M : List Addr) (R H R' H' : Hp) : Prop where
  rr : Same R R'
  rh : Same R' H'
  hh : ∀ a o, a ∉ M → H a = some o → H' a = some o
  fr : ∀ b o, H b = some o → R b = none → R' b = none
  th : ∀ b o, H b = some o → ∃ o', H' b = some o'
section
variable {M : List Addr} {R H R1 H1 R2 H2 : Hp} {p : Addr} {o : HO} {Q : VK} {K : PySem.W.Frag}
theorem Gr.refl (h : Same R H) : Gr M R H R H := ⟨Same.refl _, h, fun _ _ _ e => e, fun _ _ _ e => e, fun _ o e => ⟨o, e⟩⟩
theorem Gr.trans (a : Gr M R H R1 H1) (b : Gr M R1 H1 R2 H2) : Gr M R H R2 H2 :=
  ⟨a.rr.trans b.rr, b.rh, fun c o m e => b.hh c o m (a.hh c o m e), fun c o e n => let ⟨o', e'⟩ := a.th c o e; b.fr c o' e' (a.fr c o e n), fun c o e => let ⟨o', e'⟩ := a.th c o e; b.th c o' e'⟩
theorem Gr.mono {M' : List Addr} (a : Gr M R H R1 H1) (h : ∀ x ∈ M, x ∈ M') : Gr M' R H R1 H1 := ⟨a.rr, a.rh, fun c o m e => a.hh c o (fun z => m (h _ z)) e, a.fr, a.th⟩
theorem Gr.nil (a : Gr [] R H R1 H1) : Gr M R H R1 H1 := a.mono fun _ z => nomatch z
theorem Gr.same (a : Gr [] R H R1 H1) : Same H H1 := fun b o e => a.hh b o (by simp) e
theorem Gr.free (a : Gr M R H R1 H1) (h : H1 p = none) : H p = none := by
  cases e : H p with
  | none => rfl
  | some o => obtain ⟨o', e'⟩ := a.th p o e; rw [h] at e'; cases e'
/-- an object that changes is behind all changes still one that is not read for ever -/
theorem Gr.mut (h : Same R H) (n : R p = none) (e : H p = some o) {o' : HO} : Gr [p] R H R (upd H p o') := by
  refine ⟨Same.refl _, fun b u q => ?_, fun b u m q => ?_, fun _ _ _ q => q, fun b u q => ?_⟩
  · rw [upd_ne (ne_of_none q n)]; exact h b u q
  · rw [upd_ne (by simpa using m)]; exact q
  · by_cases hb : b = p
    · subst hb; exact ⟨o', upd_same⟩
    · exact ⟨u, by rw [upd_ne hb]; exact q⟩
theorem Same.free' (h : Same R H) (n : H p = none) : R p = none := h.free n
theorem Gr.newR (h : Same R H) (n : H p = none) : Gr M R H (upd R p o) (upd H p o) := by
  refine ⟨fun b u q => ?_, fun b u q => ?_, fun b u _ q => ?_, fun b u q m => ?_, fun b u q => ⟨u, ?_⟩⟩
  · rw [upd_ne (ne_of_none q (h.free n))]; exact q
  · by_cases hb : b = p
    · subst hb; rw [upd_same] at q ⊢; exact q
    · rw [upd_ne hb] at q ⊢; exact h b u q
  · rw [upd_ne (ne_of_none q n)]; exact q
  · rw [upd_ne (ne_of_none q n)]; exact m
  · rw [upd_ne (ne_of_none q n)]; exact q
theorem Gr.newM (h : Same R H) (n : H p = none) : Gr M R H R (upd H p o) := by
  refine ⟨Same.refl _, fun b u q => ?_, fun b u _ q => ?_, fun _ _ _ m => m, fun b u q => ⟨u, ?_⟩⟩
  · rw [upd_ne (ne_of_none (h b u q) n)]; exact h b u q
  · rw [upd_ne (ne_of_none q n)]; exact q
  · rw [upd_ne (ne_of_none q n)]; exact q
/-- not tracked (a word of its own, so that a search finds the heap) -/
def Free (H : Hp) (p : Addr) : Prop := H p = none
theorem Free.ne {a b : Addr} {o : HO} (n : Free H b) (h : H a = some o) : a ≠ b := ne_of_none h n
theorem Gr.frI (a : Gr M R H R1 H1) {b : Addr} {o : HO} (h : H b = some o) (n : R b = none) : R1 b = none := a.fr b o h n
theorem newR_ex {H1 : Hp} (h : Same R H) (n : H p = none) (q : upd H p o = H1) : ∃ R1, Free H p ∧ Gr [] R H R1 H1 ∧ R1 p = some o ∧ Same R1 H1 := by
  subst q
  exact ⟨upd R p o, n, .newR h n, upd_same, (Gr.newR (M := []) h n).rh⟩
/-- the same, R unchanged (kept apart so that a search along R does not run in a circle) -/
structure Mu (M : List Addr) (R H H1 : Hp) : Prop where
  g : Gr M R H R H1
theorem newM_ex {H1 : Hp} (h : Same R H) (n : H p = none) (q : upd H p o = H1) : Free H p ∧ Mu [] R H H1 ∧ R p = none ∧ H1 p = some o ∧ Same R H1 := by
  subst q
  exact ⟨n, ⟨.newM h n⟩, h.free n, upd_same, (Gr.newM (M := []) h n).rh⟩
theorem mut_ex {H1 : Hp} {o' : HO} (h : Same R H) (n : R p = none) (e : H p = some o) (q : upd H p o' = H1) : Mu [p] R H H1 ∧ H1 p = some o' ∧ Same R H1 := by
  subst q
  exact ⟨⟨.mut h n e⟩, upd_same, (Gr.mut h n e).rh⟩
theorem allocR (h : Same R H) (k : ∀ p R' H', Gr [] R H R' H' → R' p = some o → H p = none → Q (.ref p) H') : ∀ p, H p = none → Q (.ref p) (upd H p o) :=
  fun p n => k p (upd R p o) _ (.newR h n) upd_same n
theorem allocM (h : Same R H) (k : ∀ p H', Gr [] R H R H' → H p = none → R p = none → H' p = some o → Q (.ref p) H') : ∀ p, H p = none → Q (.ref p) (upd H p o) :=
  fun p n => k p _ (.newM h n) n (h.free n) upd_same
theorem Same.rd {H H' : Hp} (e : Same H H') {a : Addr} {u : HO} (h : Rd H a u) : Rd H' a u := by
  rcases h with h | ⟨o, h⟩
  · exact .inl (e _ _ h)
  · exact .inr ⟨o, e _ _ h⟩
theorem sqT_mono {H H' : Hp} {a : Addr} {xs : List V} (e : Same H H') (h : SqT K H a xs) : SqT K H' a xs := by
  rcases h with h | h
  · exact .inl (Same.rd e h)
  · exact .inr h
theorem sqL_mono {H H' : Hp} {a : Addr} {xs : List V} (e : Same H H') (h : SqL K H a xs) : SqL K H' a xs := e.seq h
mutual
theorem dp_mono {H H' : Hp} (e : Same H H') : ∀ {d : PyData} {v : V}, Dp K H v d → Dp K H' v d
  | .none, _, h => by cases h; exact .non
  | .bool b, _, h => by cases h; exact .bl b
  | .int i, _, h => by cases h; exact .int i
  | .str x, _, h => by cases h; exact .str x
  | .list ds, _, h => by cases h with | lst a b => exact .lst (sqL_mono e a) (dpAll_mono e b)
  | .tuple ds, _, h => by cases h with | tup a b => exact .tup (sqT_mono e a) (dpAll_mono e b)
  | .dict _, _, h => by cases h
theorem dpAll_mono {H H' : Hp} (e : Same H H') : ∀ {ds : List PyData} {vs : List V}, DpAll K H vs ds → DpAll K H' vs ds
  | [], _, h => by cases h; exact .nil
  | d :: ds, _, h => by cases h with | cons a b => exact .cons (dp_mono e a) (dpAll_mono e b)
end
theorem dpAll_len : ∀ {ds : List PyData} {vs : List V}, DpAll K H vs ds → vs.length = ds.length
  | [], _, h => by cases h; rfl
  | d :: ds, _, h => by cases h with | cons a b => simp [dpAll_len b]
theorem dpAll_get : ∀ {ds : List PyData} {vs : List V} {i : Nat} {d : PyData}, DpAll K H vs ds → ds[i]? = some d → ∃ v, vs[i]? = some v ∧ Dp K H v d
  | [], _, _, _, _, e => by simp at e
  | d :: ds, _, 0, d', h, e => by cases h with | cons a b => simp at e; subst e; exact ⟨_, rfl, a⟩
  | d :: ds, _, i + 1, d', h, e => by
    cases h with
    | cons a b =>
      obtain ⟨v, q, r⟩ := dpAll_get (i := i) b (by simpa using e)
      exact ⟨v, by simpa using q, r⟩
theorem dpAll_get' : ∀ {ds : List PyData} {vs : List V} {i : Nat} {v : V}, DpAll K H vs ds → vs[i]? = some v → ∃ d, ds[i]? = some d ∧ Dp K H v d
  | [], _, _, _, h, e => by cases h; simp at e
  | d :: ds, _, 0, v', h, e => by cases h with | cons a b => simp at e; subst e; exact ⟨_, rfl, a⟩
  | d :: ds, _, i + 1, v', h, e => by
    cases h with
    | cons a b =>
      obtain ⟨v, q, r⟩ := dpAll_get' (i := i) b (by simpa using e)
      exact ⟨v, by simpa using q, r⟩
theorem dpAll_app : ∀ {ds es : List PyData} {vs us : List V}, DpAll K H vs ds → DpAll K H us es → DpAll K H (vs ++ us) (ds ++ es)
  | [], _, _, _, h, g => by cases h; exact g
  | d :: ds, _, _, _, h, g => by cases h with | cons a b => exact .cons a (dpAll_app b g)
theorem dpAll_take : ∀ {ds : List PyData} {vs : List V} (n : Nat), DpAll K H vs ds → DpAll K H (vs.take n) (ds.take n)
  | _, _, 0, _ => by simpa using DpAll.nil
  | [], _, n + 1, h => by cases h; simpa using DpAll.nil
  | d :: ds, _, n + 1, h => by cases h with | cons a b => simpa using DpAll.cons a (dpAll_take n b)
theorem dpAll_drop : ∀ {ds : List PyData} {vs : List V} (n : Nat), DpAll K H vs ds → DpAll K H (vs.drop n) (ds.drop n)
  | _, _, 0, h => by simpa using h
  | [], _, n + 1, h => by cases h; simpa using DpAll.nil
  | d :: ds, _, n + 1, h => by cases h with | cons a b => simpa using dpAll_drop n b
theorem dpAll_set : ∀ {ds : List PyData} {vs : List V} (i : Nat) {v : V} {d : PyData}, DpAll K H vs ds → Dp K H v d → DpAll K H (vs.set i v) (ds.set i d)
  | [], _, i, _, _, h, _ => by cases h; simpa using DpAll.nil
  | d :: ds, _, 0, _, _, h, g => by cases h with | cons a b => simpa using DpAll.cons g b
  | d :: ds, _, i + 1, _, _, h, g => by cases h with | cons a b => simpa using DpAll.cons a (dpAll_set i b g)
theorem dpAll_ints : ∀ (ns : List Int), DpAll K H (ns.map V.int) (ns.map PyData.int)
  | [] => .nil
  | n :: ns => .cons (.int n) (dpAll_ints ns)
theorem dpAll_cut {ds : List PyData} {vs : List V} (h : DpAll K H vs ds) (lo hi : Option Int) :
    DpAll K H (cutV vs lo hi) ((ds.drop (HT.sIx ds.length 0 lo)).take (HT.sIx ds.length ds.length hi - HT.sIx ds.length 0 lo)) := by
  unfold cutV
  rw [dpAll_len h]
  exact dpAll_take _ (dpAll_drop _ h)
theorem dp_list {v : V} {ds : List PyData} (h : Dp K H v (.list ds)) : ∃ a vs, v = .ref a ∧ SqL K H a vs ∧ DpAll K H vs ds := by
  cases h with | lst a b => exact ⟨_, _, rfl, a, b⟩
theorem dp_tup {v : V} {ds : List PyData} (h : Dp K H v (.tuple ds)) : ∃ a vs, v = .ref a ∧ SqT K H a vs ∧ DpAll K H vs ds := by
  cases h with | tup a b => exact ⟨_, _, rfl, a, b⟩
theorem dp_int {v : V} {i : Int} (h : Dp K H v (.int i)) : v = .int i := by cases h; rfl
theorem dp_str {v : V} {i : Str} (h : Dp K H v (.str i)) : v = .str i := by cases h; rfl
theorem dp_non {v : V} (h : Dp K H v .none) : v = .non := by cases h; rfl
end
/-! ### equal data -/
mutual
/-- no bools, no dicts -/
def clean : PyData → Bool
  | .none | .int _ | .str _ => true
  | .bool _ | .dict _ => false
  | .list xs | .tuple xs => cleanAll xs
def cleanAll : List PyData → Bool
  | [] => true
  | x :: xs => clean x && cleanAll xs
end
mutual
theorem eqv_iff : ∀ {d e : PyData}, clean d = true → clean e = true → (PyData.eqv d e = true ↔ d = e)
  | .none, e, _, he => by cases e <;> simp_all [PyData.eqv, clean]
  | .int i, e, _, he => by cases e <;> simp_all [PyData.eqv, clean]
  | .str i, e, _, he => by cases e <;> simp_all [PyData.eqv, clean]
  | .bool i, e, hd, _ => by simp [clean] at hd
  | .dict i, e, hd, _ => by simp [clean] at hd
  | .list xs, e, hd, he => by
    cases e with
    | list ys => rw [PyData.eqv, eqvAll_iff (by simpa [clean] using hd) (by simpa [clean] using he)]; simp
    | _ => simp_all [PyData.eqv, clean]
  | .tuple xs, e, hd, he => by
    cases e with
    | tuple ys => rw [PyData.eqv, eqvAll_iff (by simpa [clean] using hd) (by simpa [clean] using he)]; simp
    | _ => simp_all [PyData.eqv, clean]
theorem eqvAll_iff : ∀ {ds es : List PyData}, cleanAll ds = true → cleanAll es = true → (PyData.eqvAll ds es = true ↔ ds = es)
  | [], [], _, _ => by simp [PyData.eqvAll]
  | [], e :: es, _, _ => by simp [PyData.eqvAll]
  | d :: ds, [], _, _ => by simp [PyData.eqvAll]
  | d :: ds, e :: es, hd, he => by
    have hd' : clean d = true ∧ cleanAll ds = true := by simpa [cleanAll] using hd
    have he' : clean e = true ∧ cleanAll es = true := by simpa [cleanAll] using he
    rw [PyData.eqvAll, Bool.and_eq_true, eqv_iff hd'.1 he'.1, eqvAll_iff hd'.2 he'.2]; simp
end
/-! ### enumerate -/
theorem for_enum {K : PySem.W.Frag} {a : Addr} {xs : List V} {g : TG} {tb : TS} {D : Ends} {σ : St} {H : Hp} (Pv : Nat → St → Hp → Prop) (h0 : Pv 0 σ H) (hl : ∀ i σ H, i ≤ xs.length → Pv i σ H → SqL K H a xs)
    (hs : ∀ i x T σ H, xs[i]? = some x → Pv i σ H → H T = none → g (.ref T) σ (upd H T (.tup [.int ((i : Nat) : Int), x])) fun σ2 H2 => tb { D with nx := Pv (i + 1), ct := Pv (i + 1), bk := D.nx } σ2 H2) (hd : ∀ σ H, Pv xs.length σ H → D.nx σ H) :
    ∃ W : Nat → Nat → St → Hp → Prop, (∃ m, W 0 m σ H) ∧ ∀ i m σ H, W i m σ H →
      ((Ite K a).stop i H ∧ D.nx σ H) ∨ ((Ite K a).go i H ∧ ∃ N : St → Hp → Prop, (∀ σ' H', N σ' H' → ∃ m', m' < m ∧ W (i + 1) m' σ' H') ∧ ∀ x H', (Ite K a).yld i H x H' → g x σ H' fun σ2 H2 => tb { D with nx := N, ct := N, bk := D.nx } σ2 H2) := by
  refine ⟨fun i m σ H => m = xs.length - i ∧ i ≤ xs.length ∧ Pv i σ H, ⟨xs.length, by simp, Nat.zero_le _, h0⟩, ?_⟩
  rintro i m σ H ⟨rfl, hi, p⟩
  have q := hl i σ H hi p
  by_cases hlt : i < xs.length
  · refine .inr ⟨⟨xs, xs[i], q, by simp [hlt]⟩, Pv (i + 1), fun σ' H' p' => ⟨xs.length - (i + 1), by omega, rfl, hlt, p'⟩, fun x H' y => ?_⟩
    obtain ⟨T, x, rfl, hT, rfl, y⟩ := y
    exact hs i x T σ _ (y xs q) p hT
  · have e : i = xs.length := by omega
    subst e
    exact .inl ⟨⟨xs, q, Nat.le_refl _⟩, hd σ H p⟩
theorem shaped_list {ds : List PyData} (h : ∀ d ∈ ds, d.canLay0 = true ∧ d.depth ≤ 60) : PySem.SeqAt.shaped (.list ds) = true := by
  have h1 : ∀ (l : List PyData), (∀ d ∈ l, d.canLay0 = true ∧ d.depth ≤ 60) → PyData.canLayAll0 l = true ∧ PyData.depthAll l ≤ 60 := by
    intro l
    induction l with
    | nil => intro _; exact ⟨by simp [PyData.canLayAll0], by simp [PyData.depthAll]⟩
    | cons d r ih =>
      intro h
      obtain ⟨a, b⟩ := ih fun d m => h d (List.mem_cons_of_mem _ m)
      obtain ⟨c, e⟩ := h d List.mem_cons_self
      exact ⟨by rw [PyData.canLayAll0, c, a]; rfl, by rw [PyData.depthAll]; omega⟩
  obtain ⟨a, b⟩ := h1 ds h
  unfold PySem.SeqAt.shaped
  rw [PyData.canLay0, a, Bool.true_and, decide_eq_true_eq, PyData.depth]
  omega
def EnW (K : PySem.W.Frag) (vs : List V) (H : Hp) (R : It → Hp → Prop) : Prop := ∃ a xs, vs = [.ref a] ∧ SqL K H a xs ∧ R (Ite K a) H
theorem g_iEnum {K : PySem.W.Frag} {σ : St} {H : Hp} {tr : TA} {R : It → Hp → Prop} (q : tr σ H fun vs H1 => EnW K vs H1 R) : iEnum K tr σ H R := q
theorem g_EnW {K : PySem.W.Frag} {H : Hp} {R : It → Hp → Prop} {a : Addr} {xs : List V} (h : SqL K H a xs) (q : R (Ite K a) H) : EnW K [.ref a] H R := ⟨a, xs, rfl, h, q⟩
theorem dpAll_cons {K : PySem.W.Frag} {H : Hp} {us : List V} {d : PyData} {ds : List PyData} (h : DpAll K H us (d :: ds)) : ∃ v vs, us = v :: vs ∧ Dp K H v d ∧ DpAll K H vs ds := by cases h with | cons a b => exact ⟨_, _, rfl, a, b⟩
theorem dpAll_nil {K : PySem.W.Frag} {H : Hp} {us : List V} (h : DpAll K H us []) : us = [] := by cases h; rfl
theorem dpT1 {K : PySem.W.Frag} {H : Hp} {v : V} {d : PyData} (h : Dp K H v (.tuple [d])) : ∃ a x, v = .ref a ∧ SqT K H a [x] ∧ Dp K H x d := by
  obtain ⟨a, us, rfl, hs, hu⟩ := dp_tup h
  obtain ⟨x, us, rfl, hx, hu⟩ := dpAll_cons hu
  obtain rfl := dpAll_nil hu
  exact ⟨a, x, rfl, hs, hx⟩
theorem dpT2 {K : PySem.W.Frag} {H : Hp} {v : V} {d e : PyData} (h : Dp K H v (.tuple [d, e])) : ∃ a x y, v = .ref a ∧ SqT K H a [x, y] ∧ Dp K H x d ∧ Dp K H y e := by
  obtain ⟨a, us, rfl, hs, hu⟩ := dp_tup h
  obtain ⟨x, us, rfl, hx, hu⟩ := dpAll_cons hu
  obtain ⟨y, us, rfl, hy, hu⟩ := dpAll_cons hu
  obtain rfl := dpAll_nil hu
  exact ⟨a, x, y, rfl, hs, hx, hy⟩
theorem dpT3 {K : PySem.W.Frag} {H : Hp} {v : V} {d e f : PyData} (h : Dp K H v (.tuple [d, e, f])) : ∃ a x y z, v = .ref a ∧ SqT K H a [x, y, z] ∧ Dp K H x d ∧ Dp K H y e ∧ Dp K H z f := by
  obtain ⟨a, us, rfl, hs, hu⟩ := dp_tup h
  obtain ⟨x, us, rfl, hx, hu⟩ := dpAll_cons hu
  obtain ⟨y, us, rfl, hy, hu⟩ := dpAll_cons hu
  obtain ⟨z, us, rfl, hz, hu⟩ := dpAll_cons hu
  obtain rfl := dpAll_nil hu
  exact ⟨a, x, y, z, rfl, hs, hx, hy, hz⟩
/-! ### isinstance -/
theorem callIsU {X : Cx} {K : PySem.W.Frag} (hK : X.K = K := by rfl) : CallR X (.builtin "isinstance") (rIsi K) := hK ▸ call_isi
theorem ty_tup {K : PySem.W.Frag} {H : Hp} {a : Addr} {xs : List V} (h : SqT K H a xs) : TyX K H (.ref a) (.type "tuple") := by
  rcases h with (h | ⟨o, h⟩) | ⟨o, its, n, hk, hc, _⟩
  · exact .base (.tup h)
  · exact .fTuple h
  · exact .kTuple hk hc
theorem ty_lst {K : PySem.W.Frag} {H : Hp} {a : Addr} {xs : List V} (h : SqL K H a xs) : TyX K H (.ref a) (.type "list") := by
  rcases h with (h | ⟨o, h⟩) | ⟨o, its, n, hk, hc, _⟩
  · exact .base (.lst h)
  · exact .base (.frz h)
  · exact .kList hk hc
theorem g_isi {K : PySem.W.Frag} {H : Hp} {Q : VK} {x : V} {n : String} {t : Value} {b : Bool} (ty : TyX K H x t) (e : PySem.W.kitOne K t (.type n) = some b) (q : Q (.bl b) H) : rIsi K [x, .ty n] H Q := ⟨x, .ty n, t, _, b, rfl, .ty n, ty, e, q⟩
theorem g_yes {σ : St} {H : Hp} {QB : Bool → Hp → Prop} (q : QB true H) : tYes σ H QB := q
theorem g_listL {K : PySem.W.Frag} {H : Hp} {Q : VK} {p : Addr} {ys : List V} (h : SqL K H p ys) (q : ∀ l, H l = none → Q (.ref l) (upd H l (.lst ys))) : rListU K [.ref p] H Q := ⟨p, ys, rfl, .inl h, q⟩
theorem g_seqIP {w t u : TS} {c : TT} {D : Ends} {σ : St} {H : Hp} (P : St → Hp → Prop) (hw : ∀ σ H, P σ H → w D σ H) (q : (∀ σ H, P σ H → w D σ H) → c σ H fun b H1 => if b = true then t { D with nx := w D } σ H1 else u { D with nx := w D } σ H1) : tSeq (tIfS c t u) w D σ H := q hw
theorem Mu.ofSame {M : List Addr} {R H H' : Hp} (h : Same R H) (s : Same H H') : Mu M R H H' := ⟨⟨Same.refl _, h.trans s, fun a o _ e => s a o e, fun _ _ _ m => m, fun a o e => ⟨o, s a o e⟩⟩⟩
/-- what a call leaves, as newM tells it -/
theorem keep_ex {R H H' : Hp} (h : Same R H) (s : Same H H') : Mu [] R H H' ∧ Same R H' := ⟨.ofSame h s, h.trans s⟩
theorem fresh_ex {R H : Hp} {p : Addr} (h : Same R H) (n : H p = none) : Free H p ∧ R p = none := ⟨n, h.free n⟩
/-! ### loops over tuples; unpacking -/
section
variable {K : PySem.W.Frag} {σ : St} {H : Hp} {te : TE} {u : TS} {D : Ends}
def TsW (K : PySem.W.Frag) (x : V) (H : Hp) (R : It → Hp → Prop) : Prop := ∃ a, x = .ref a ∧ (∃ xs, SqT K H a xs) ∧ R (Itt K a) H
theorem g_iTup {R : It → Hp → Prop} (q : te σ H fun x H1 => TsW K x H1 R) : iTup K te σ H R := q
theorem g_TsW {R : It → Hp → Prop} {a : Addr} {xs : List V} (h : SqT K H a xs) (q : R (Itt K a) H) : TsW K (.ref a) H R := ⟨a, rfl, ⟨xs, h⟩, q⟩
theorem g_asgT {n : Nat} {ts : TGs} (q : te σ H fun x H1 => gTup K n ts x σ H1 D.nx) : tAsg te (gTup K n ts) D σ H := q
theorem g_seqT {n : Nat} {ts : TGs} (q : te σ H fun x H1 => gTup K n ts x σ H1 fun σ2 H2 => u D σ2 H2) : tSeq (tAsg te (gTup K n ts)) u D σ H := q
theorem g_gTup {n : Nat} {ts : TGs} {a : Addr} {xs : List V} {QG : St → Hp → Prop} (h : SqT K H a xs) (e : xs.length = n) (q : ts xs σ H QG) : gTup K n ts (.ref a) σ H QG := ⟨a, xs, rfl, h, e, q⟩
theorem g_gCons {t : TG} {ts : TGs} {v : V} {r : List V} {QG : St → Hp → Prop} (q : t v σ H fun σ' H' => ts r σ' H' QG) : gCons t ts (v :: r) σ H QG := ⟨v, r, rfl, q⟩
theorem g_gNil {QG : St → Hp → Prop} (q : QG σ H) : gNil [] σ H QG := ⟨rfl, q⟩
end
/-- what stands behind an if, told once (N: kept closed so that a walk stops there) -/
theorem g_seqIN {w t u : TS} {c : TT} {D : Ends} {σ : St} {H : Hp} (P : St → Hp → Prop) (hw : ∀ σ H, P σ H → w D σ H) (q : ∀ N : St → Hp → Prop, (∀ σ H, P σ H → N σ H) → c σ H fun b H1 => if b = true then t { D with nx := N } σ H1 else u { D with nx := N } σ H1) : tSeq (tIfS c t u) w D σ H := q _ hw
/-- the same of any first statement -/
theorem g_seqN {w t : TS} {D : Ends} {σ : St} {H : Hp} (P : St → Hp → Prop) (hw : ∀ σ H, P σ H → w D σ H) (q : ∀ N : St → Hp → Prop, (∀ σ H, P σ H → N σ H) → t { D with nx := N } σ H) : tSeq t w D σ H := q _ hw
theorem rep_one (c : Int) (k : Nat) : (List.replicate k [V.int c]).flatten = (List.replicate k c).map V.int := by
  induction k with
  | zero => rfl
  | succ k ih => rw [List.replicate_succ, List.flatten_cons, ih]; rfl
theorem g_repZ {H : Hp} {Q : VK} {p : Addr} {c k : Int} (h : H p = some (.lst [.int c])) (h1 : -100000 ≤ k) (h2 : k ≤ 100000) (q : ∀ p, H p = none → Q (.ref p) (upd H p (.lst ((List.replicate k.toNat c).map V.int)))) : rMulU (.ref p) (.int k) H Q :=
  g_rep h (by omega) (by omega) (by have z : sizeLine = 16777216 := sizeLine_eq; rw [z]; simp; omega) (by rw [rep_one]; exact q)
theorem g_catI {K : PySem.W.Frag} {H : Hp} {Q : VK} {a b : Addr} {l m : List Int} (h : H a = some (.lst (l.map V.int))) (g : H b = some (.lst (m.map V.int))) (z : l.length + m.length ≤ 100000) (q : ∀ p, H p = none → Q (.ref p) (upd H p (.lst ((l ++ m).map V.int)))) : rAddU K (.ref a) (.ref b) H Q :=
  g_cat h g (by have z' : sizeLine = 16777216 := sizeLine_eq; rw [z']; simp; omega) (by rw [← List.map_append]; exact q)
theorem call_ex {R H H' : Hp} {p : Addr} (h : Same R H) (s : Same H H') (n : H p = none) : Free H p ∧ Mu [] R H H' ∧ R p = none ∧ Same R H' := ⟨n, .ofSame h s, h.free n, h.trans s⟩
theorem made_same {H : Hp} {x dx C : Addr} (h1 : H x = none) (h2 : H dx = none) : Same H (upd (upd H dx (.own x)) x (.ins C dx [])) := fun b o e => by
  rw [upd_ne (ne_of_none e h1), upd_ne (ne_of_none e h2)]; exact e
/-- what is changed and was not there may be left out -/
theorem Gr.forget {M M' : List Addr} {R H R1 H1 : Hp} (a : Gr M' R H R1 H1) (h : ∀ x ∈ M', x ∉ M → H x = none) : Gr M R H R1 H1 := ⟨a.rr, a.rh, fun c o m e => a.hh c o (fun z => by rw [h c z m] at e; cases e) e, a.fr, a.th⟩
/-! ### all that is there but the list at b is read for ever -/
def wo (H : Hp) (b : Addr) : Hp := fun a => if a = b then none else H a
theorem wo_self {H : Hp} {b : Addr} : wo H b b = none := if_pos rfl
theorem wo_same {H : Hp} {b : Addr} : Same (wo H b) H := fun a o e => by unfold wo at e; split at e; cases e; exact e
theorem same_wo {R H : Hp} {b : Addr} (h : Same R H) (n : R b = none) : Same R (wo H b) := fun a o e => by
  unfold wo
  rw [if_neg (fun z => by rw [z, n] at e; cases e)]
  exact h _ _ e
theorem rd_wo {H : Hp} {a b : Addr} {l xs : List V} (hb : H b = some (.lst l)) (h : Rd H a (.tup xs)) : Rd (wo H b) a (.tup xs) := by
  have : a ≠ b := by
    rintro rfl
    rcases h with h | ⟨o, h⟩ <;> rw [hb] at h <;> cases h
  unfold Rd wo
  rw [if_neg this]
  exact h
theorem sqT_wo {K : PySem.W.Frag} {H : Hp} {a b : Addr} {l xs : List V} (hb : H b = some (.lst l)) (h : SqT K H a xs) : SqT K (wo H b) a xs := by
  rcases h with h | h
  · exact .inl (rd_wo hb h)
  · exact .inr h
mutual
def tupOnly : PyData → Bool
  | .none | .bool _ | .int _ | .str _ => true
  | .tuple ds => tupOnlyAll ds
  | .list _ | .dict _ => false
def tupOnlyAll : List PyData → Bool
  | [] => true
  | d :: ds => tupOnly d && tupOnlyAll ds
end
mutual
theorem dp_wo {K : PySem.W.Frag} {H : Hp} {b : Addr} {l : List V} (hb : H b = some (.lst l)) : ∀ {d : PyData} {v : V}, tupOnly d = true → Dp K H v d → Dp K (wo H b) v d
  | .none, _, _, h => by cases h; exact .non
  | .bool b, _, _, h => by cases h; exact .bl b
  | .int i, _, _, h => by cases h; exact .int i
  | .str x, _, _, h => by cases h; exact .str x
  | .tuple ds, _, t, h => by cases h with | tup p q => exact .tup (sqT_wo hb p) (dpAll_wo hb (by simpa [tupOnly] using t) q)
  | .list _, _, t, _ => by simp [tupOnly] at t
  | .dict _, _, t, _ => by simp [tupOnly] at t
theorem dpAll_wo {K : PySem.W.Frag} {H : Hp} {b : Addr} {l : List V} (hb : H b = some (.lst l)) : ∀ {ds : List PyData} {vs : List V}, tupOnlyAll ds = true → DpAll K H vs ds → DpAll K (wo H b) vs ds
  | [], _, _, h => by cases h; exact .nil
  | d :: ds, _, t, h => by
    have t' : tupOnly d = true ∧ tupOnlyAll ds = true := by simpa [tupOnlyAll] using t
    cases h with | cons p q => exact .cons (dp_wo hb t'.1 p) (dpAll_wo hb t'.2 q)
end
theorem tupOnly_ints : ∀ l : List Int, tupOnlyAll (l.map PyData.int) = true
  | [] => by simp [tupOnlyAll]
  | _ :: r => by simp [tupOnlyAll, tupOnly, tupOnly_ints r]
/-! ### what can be compared -/
def LaD (d : PyData) (n : Nat) : Prop := d.canLay0 = true ∧ d.depth ≤ n
theorem laAll {n : Nat} : ∀ (l : List PyData), (∀ d ∈ l, LaD d n) → PyData.canLayAll0 l = true ∧ PyData.depthAll l ≤ n
  | [], _ => ⟨by simp [PyData.canLayAll0], by simp [PyData.depthAll]⟩
  | d :: r, h => by
    obtain ⟨a, b⟩ := laAll r fun d m => h d (List.mem_cons_of_mem _ m)
    obtain ⟨c, e⟩ := h d List.mem_cons_self
    exact ⟨by rw [PyData.canLayAll0, c, a]; rfl, by rw [PyData.depthAll]; omega⟩
theorem la_int {i : Int} {n : Nat} : LaD (.int i) n := ⟨by simp [PyData.canLay0], by simp [PyData.depth]⟩
theorem la_non {n : Nat} : LaD .none n := ⟨by simp [PyData.canLay0], by simp [PyData.depth]⟩
theorem la_bl {i : Bool} {n : Nat} : LaD (.bool i) n := ⟨by simp [PyData.canLay0], by simp [PyData.depth]⟩
theorem la_lst {l : List PyData} {n : Nat} (h : ∀ d ∈ l, LaD d n) : LaD (.list l) (n + 1) := ⟨by rw [PyData.canLay0]; exact (laAll l h).1, by rw [PyData.depth]; have := (laAll l h).2; omega⟩
theorem la_tup {l : List PyData} {n : Nat} (h : ∀ d ∈ l, LaD d n) : LaD (.tuple l) (n + 1) := ⟨by rw [PyData.canLay0]; exact (laAll l h).1, by rw [PyData.depth]; have := (laAll l h).2; omega⟩
theorem la_ints {l : List Int} {n : Nat} : ∀ d ∈ l.map PyData.int, LaD d n := fun d h => by obtain ⟨i, _, rfl⟩ := List.mem_map.mp h; exact la_int
theorem la_up {d : PyData} {n m : Nat} (h : LaD d n) (z : n ≤ m) : LaD d m := ⟨h.1, Nat.le_trans h.2 z⟩
theorem la_non' {n : Nat} : ∀ d ∈ ([] : List PyData), LaD d n := fun _ h => nomatch h
theorem la_cons {d : PyData} {r : List PyData} {n : Nat} (a : LaD d n) (b : ∀ d ∈ r, LaD d n) : ∀ e ∈ d :: r, LaD e n := fun e h => by
  rcases List.mem_cons.mp h with rfl | h
  · exact a
  · exact b e h
theorem la_shaped {d : PyData} {n : Nat} (h : LaD d n) (z : n ≤ 60 := by decide) : PySem.SeqAt.shaped d = true := by
  unfold PySem.SeqAt.shaped
  rw [h.1, Bool.true_and, decide_eq_true_eq]
  have := h.2
  omega
theorem clean_ints : ∀ l : List Int, cleanAll (l.map PyData.int) = true
  | [] => rfl
  | _ :: r => by rw [List.map_cons, cleanAll, clean, clean_ints r]; rfl
theorem eqv_same {d : PyData} (h : clean d = true) : PyData.eqv d d = true := (eqv_iff h h).mpr rfl
theorem eqv_dec {d e : PyData} (h : clean d = true) (g : clean e = true) {b : Bool} (x : b = true ↔ d = e) : PyData.eqv d e = b := by
  have := eqv_iff h g
  cases b <;> simp_all
theorem eqv_bls : ∀ l m : List Bool, PyData.eqvAll (l.map PyData.bool) (m.map PyData.bool) = decide (l = m)
  | [], [] => by simp [PyData.eqvAll]
  | [], _ :: _ => by simp [PyData.eqvAll]
  | _ :: _, [] => by simp [PyData.eqvAll]
  | a :: r, b :: t => by
    simp only [List.map_cons, PyData.eqvAll, PyData.eqv, eqv_bls r t]
    by_cases h : a = b <;> by_cases h' : r = t <;> simp [h, h']
theorem g_neDa {K : PySem.W.Frag} {H : Hp} {Q : VK} {v w : V} {d e : PyData} (hv : Dp K H v d) (hw : Dp K H w e) (hd : PySem.SeqAt.shaped d = true) (he : PySem.SeqAt.shaped e = true) (hn : (∃ a, v = .ref a) ∨ v = .non) (q : Q (.bl (!PyData.eqv d e)) H) : rNeU K v w H Q := by
  have : rNeD K v w H Q := ⟨d, e, hv, hw, hd, he, q⟩
  rcases hn with ⟨a, rfl⟩ | rfl <;> exact this
theorem g_eqDa {K : PySem.W.Frag} {H : Hp} {Q : VK} {v w : V} {d e : PyData} (hv : Dp K H v d) (hw : Dp K H w e) (hd : PySem.SeqAt.shaped d = true) (he : PySem.SeqAt.shaped e = true) (hn : (∃ a, v = .ref a) ∨ v = .non) (q : Q (.bl (PyData.eqv d e)) H) : rEqU K v w H Q := by
  have : rEqD K v w H Q := ⟨d, e, hv, hw, hd, he, q⟩
  rcases hn with ⟨a, rfl⟩ | rfl <;> exact this
/-! ### slices of rows of ints -/
theorem cut_nat {xs : List V} {lo hi : Nat} (g : hi ≤ xs.length) (h : lo ≤ hi) : cutV xs (some (lo : Int)) (some (hi : Int)) = (xs.drop lo).take (hi - lo) := by
  unfold cutV; rw [HT.sIx_nat, HT.sIx_nat, Nat.min_eq_left (by omega), Nat.min_eq_left (by omega)]
theorem cut_hi {xs : List V} {hi : Nat} (g : hi ≤ xs.length) : cutV xs none (some (hi : Int)) = xs.take hi := by
  unfold cutV; rw [HT.sIx_nat, HT.sIx_none, Nat.min_eq_left g]; rfl
theorem cut_lo {xs : List V} {lo : Nat} (g : lo ≤ xs.length) : cutV xs (some (lo : Int)) none = xs.drop lo := by
  unfold cutV; rw [HT.sIx_nat, HT.sIx_none, Nat.min_eq_left g, ← List.length_drop, List.take_length]
theorem atI_getD {l : List Int} {j : Nat} (h : j < l.length) : atI (l.map V.int) (j : Int) = some (.int (l.getD j 0)) :=
  atI_nat (by rw [List.getElem?_map, List.getElem?_eq_getElem h, List.getD_eq_getElem?_getD, List.getElem?_eq_getElem h]; rfl)
theorem take3 {l : List Int} {j : Nat} (h : j + 3 ≤ l.length) : (l.drop j).take 3 = [l.getD j 0, l.getD (j + 1) 0, l.getD (j + 2) 0] := by
  have g : ∀ i (hi : i < l.length), l[i] = l.getD i 0 := fun i hi => by
    rw [List.getD_eq_getElem?_getD, List.getElem?_eq_getElem hi]; rfl
  have e : l.drop j = l[j] :: l[j + 1] :: l[j + 2] :: l.drop (j + 3) := by
    rw [List.drop_eq_getElem_cons (show j < l.length by omega), List.drop_eq_getElem_cons (show j + 1 < l.length by omega), List.drop_eq_getElem_cons (show j + 1 + 1 < l.length by omega)]
  rw [e, ← g, ← g, ← g]
  rfl
theorem g_slT3 {K : PySem.W.Frag} {H : Hp} {Q : VK} {u : Addr} {l : List Int} {j : Nat} {lo hi : Int} (h : SqT K H u (l.map V.int)) (j0 : 0 < j) (z : j + 3 ≤ l.length) (e1 : lo = (j : Int)) (e2 : hi = (j : Int) + 3)
    (q : ∀ p, H p = none → Q (.ref p) (upd H p (.tup [.int (l.getD j 0), .int (l.getD (j + 1) 0), .int (l.getD (j + 2) 0)]))) : rSlU K (.ref u) (some lo) (some hi) H Q := by
  subst e1
  obtain rfl : hi = ((j + 3 : Nat) : Int) := by omega
  refine g_slT h ?_ ?_
  · rw [HT.sIx_nat, List.length_map]; omega
  · rw [cut_nat (by rw [List.length_map]; omega) (by omega), show j + 3 - j = 3 by omega, ← List.map_drop, ← List.map_take, take3 z]
    exact q
/-- a list stays where another object, which is no list, is written -/
theorem sqL_ins {K : PySem.W.Frag} {R H H1 : Hp} {c x C dx : Addr} {us : List V} {fs : List (Str × V)} (hc : SqL K H c us) (hx : H x = some (.ins C dx fs)) (g : Gr [x] R H R H1) : SqL K H1 c us := by
  rcases hc with hc | hc
  · have cx : c ≠ x := by
      rintro rfl
      rcases hc with hc | ⟨o, hc⟩ <;> rw [hx] at hc <;> cases hc
    rcases hc with hc | ⟨o, hc⟩
    · exact .inl (.inl (g.hh _ _ (by simpa using cx) hc))
    · exact .inl (.inr ⟨o, g.hh _ _ (by simpa using cx) hc⟩)
  · exact .inr hc
/-- a call has returned something fresh, which is read for ever from now on -/
theorem retR {R H H' : Hp} {p : Addr} {o : HO} (h : Same R H) (s : Same H H') (n : H p = none) (e : H' p = some o) : Gr [] R H (upd R p o) H' := by
  have Rn : R p = none := h.free n
  refine ⟨fun b u q => by rw [upd_ne (ne_of_none q Rn)]; exact q, fun b u q => ?_, fun b u _ q => s _ _ q, fun b u q z => by rw [upd_ne (ne_of_none q n)]; exact z, fun b u q => ⟨u, s _ _ q⟩⟩
  by_cases hb : b = p
  · subst hb; rw [upd_same] at q; cases q; exact e
  · rw [upd_ne hb] at q; exact s _ _ (h _ _ q)
/-- slices of a row of ints that is a list -/
theorem g_slLI {K : PySem.W.Frag} {H : Hp} {Q : VK} {u : Addr} {l : List Int} {lo hi : Int} {i j : Nat} (h : SqL K H u (l.map V.int)) (e1 : lo = (i : Int)) (e2 : hi = (j : Int)) (ij : i ≤ j) (z : j ≤ l.length)
    (q : ∀ p, H p = none → Q (.ref p) (upd H p (.lst (((l.drop i).take (j - i)).map V.int)))) : rSlU K (.ref u) (some lo) (some hi) H Q := by
  subst e1 e2
  refine g_slL h ?_
  rw [cut_nat (by rw [List.length_map]; omega) ij, ← List.map_drop, ← List.map_take]
  exact q
theorem g_slLlo {K : PySem.W.Frag} {H : Hp} {Q : VK} {u : Addr} {l : List Int} {lo : Int} {i : Nat} (h : SqL K H u (l.map V.int)) (e1 : lo = (i : Int)) (z : i ≤ l.length)
    (q : ∀ p, H p = none → Q (.ref p) (upd H p (.lst ((l.drop i).map V.int)))) : rSlU K (.ref u) (some lo) none H Q := by
  subst e1
  refine g_slL h ?_
  rw [cut_lo (by rw [List.length_map]; omega), ← List.map_drop]
  exact q
theorem g_slLhi {K : PySem.W.Frag} {H : Hp} {Q : VK} {u : Addr} {l : List Int} {hi : Int} {j : Nat} (h : SqL K H u (l.map V.int)) (e2 : hi = (j : Int)) (z : j ≤ l.length)
    (q : ∀ p, H p = none → Q (.ref p) (upd H p (.lst ((l.take j).map V.int)))) : rSlU K (.ref u) none (some hi) H Q := by
  subst e2
  refine g_slL h ?_
  rw [cut_hi (by rw [List.length_map]; omega), ← List.map_take]
  exact q
end Sk

namespace Sk
open PySem L2
/-! ### layouts, blocks, cells: the plain side -/
def partsOf (n z : Int) : Int := (n + z - 1) / z
def lows : Int → Nat → List Int
  | _, 0 => []
  | n, k + 1 => n % 256 :: lows (n / 256) k
@[simp] theorem lows_len : ∀ (n : Int) (k : Nat), (lows n k).length = k
  | _, 0 => rfl
  | n, k + 1 => by rw [lows, List.length_cons, lows_len]
def lowsRest : Int → Nat → Int
  | n, 0 => n
  | n, k + 1 => lowsRest (n / 256) k
theorem lows_succ : ∀ (n : Int) (k : Nat), lows n (k + 1) = lows n k ++ [lowsRest n k % 256]
  | n, 0 => rfl
  | n, k + 1 => by rw [lows, lows_succ (n / 256) k, lows, List.cons_append, lowsRest]
theorem lowsRest_succ : ∀ (n : Int) (k : Nat), lowsRest n (k + 1) = lowsRest n k / 256
  | n, 0 => rfl
  | n, k + 1 => by rw [lowsRest, lowsRest_succ (n / 256) k, lowsRest]
def pairs : List Int → List Int
  | [] => []
  | n :: r => n % 256 :: n / 256 :: pairs r
@[simp] theorem pairs_len : ∀ l : List Int, (pairs l).length = 2 * l.length
  | [] => rfl
  | n :: r => by rw [pairs, List.length_cons, List.length_cons, pairs_len, List.length_cons]; omega
theorem pairs_snoc (n : Int) : ∀ l : List Int, pairs (l ++ [n]) = pairs l ++ [n % 256, n / 256]
  | [] => rfl
  | m :: r => by rw [List.cons_append, pairs, pairs_snoc n r, pairs, List.cons_append, List.cons_append]
theorem map_get {ns : List Int} {i : Nat} {x : V} (h : (ns.map V.int)[i]? = some x) : ∃ n, ns[i]? = some n ∧ x = .int n := by
  rw [List.getElem?_map] at h
  obtain ⟨n, hn, rfl⟩ := Option.map_eq_some_iff.mp h
  exact ⟨n, hn, rfl⟩
theorem take_snoc {ns : List Int} {i : Nat} {n : Int} (h : ns[i]? = some n) : ns.take (i + 1) = ns.take i ++ [n] := by
  rw [List.take_add_one, h]; rfl
structure Lay where
  seg : Int
  blk : Int
  oct : Int
def Lay.payload (L : Lay) : Int := L.blk - 1
def Lay.limit (L : Lay) : Int := (L.seg - 2) * L.payload
def Lay.lastId (L : Lay) : Int := L.limit + L.payload
def Lay.fan (L : Lay) : Int := L.oct / 2
def Lay.region (L : Lay) : Int := partsOf (2 * ((3 + 1) * L.lastId + 3 + 3 + L.seg)) L.oct
def Lay.device (L : Lay) : Int := 2 * L.region + L.seg * L.blk
def Lay.flds (L : Lay) : List (Str × V) := [("segments", .int L.seg), ("segment_blocks", .int L.blk), ("block_size", .int L.oct), ("payload", .int L.payload), ("limit", .int L.limit), ("last_id", .int L.lastId), ("fan", .int L.fan), ("region_blocks", .int L.region), ("device_blocks", .int L.device)]
structure Lay.Ok (L : Lay) : Prop where
  s1 : 4 ≤ L.seg
  s2 : L.seg ≤ 16
  b1 : 16 ≤ L.blk
  b2 : L.blk ≤ 32
  o1 : L.oct = 64 ∨ L.oct = 128 ∨ L.oct = 256
  fits : 16 + 2 * L.payload + partsOf L.lastId 8 ≤ L.oct
theorem oct_in {z : Int} (h : z = 64 ∨ z = 128 ∨ z = 256) : (!inV (.int z) [.int 64, .int 128, .int 256]) = false := by
  rcases h with rfl | rfl | rfl <;> decide
/-- a layout at a, in what is read -/
def LayAt (C : Addr) (H : Hp) (a : Addr) (L : Lay) : Prop := ∃ dx, H a = some (.ins C dx L.flds)
theorem LayAt.mono {C : Addr} {H H' : Hp} {a : Addr} {L : Lay} (h : LayAt C H a L) (s : Same H H') : LayAt C H' a L := let ⟨dx, e⟩ := h; ⟨dx, s _ _ e⟩
/-- a block that is neither a COMMIT nor a MOVE -/
structure Blk where
  kind : Int
  seq : Int
  place : Int
  body : List Int
deriving DecidableEq
def intsD (l : List Int) : PyData := .tuple (l.map PyData.int)
def Blk.d (b : Blk) : PyData := .tuple [.int b.kind, .int b.seq, .int b.place, intsD b.body]
def found (kind : Int) (body : List Int) : List Int := if kind = 3 then body else pairs body
def bodyOf (L : Lay) (kind : Int) (body : List Int) : List Int := found kind body ++ List.replicate (L.oct - ((found kind body).length : Int)).toNat 0
theorem found_len {k : Int} {l : List Int} : (found k l).length ≤ 2 * l.length := by
  unfold found
  split
  · omega
  · rw [pairs_len]; omega
def octs (L : Lay) : Option Blk → List Int
  | none => List.replicate (16 + L.oct).toNat 0
  | some b => (([b.kind] ++ lows b.seq 6 ++ lows b.place 2) ++ List.replicate 7 0) ++ bodyOf L b.kind b.body
def optD : Option Blk → PyData
  | none => .none
  | some b => b.d
/-- the blocks that are told here -/
def BlkOk : Option Blk → Prop
  | none => True
  | some b => 3 ≤ b.kind ∧ b.body.length ≤ 300
theorem dpInts {K : PySem.W.Frag} {H : Hp} {v : V} {l : List Int} (h : Dp K H v (intsD l)) : ∃ t, v = .ref t ∧ SqT K H t (l.map V.int) := by
  obtain ⟨t, us, rfl, ht, hu⟩ := dp_tup h
  refine ⟨t, rfl, ?_⟩
  have : us = l.map V.int := by
    clear ht h
    induction l generalizing us with
    | nil => exact dpAll_nil hu
    | cons n r ih =>
      obtain ⟨v, vs, rfl, hv, hr⟩ := dpAll_cons hu
      rw [dp_int hv, ih _ hr]; rfl
  rw [← this]; exact ht
theorem dpBlk {K : PySem.W.Frag} {H : Hp} {v : V} {b : Blk} (h : Dp K H v b.d) : ∃ t u, v = .ref t ∧ SqT K H t [.int b.kind, .int b.seq, .int b.place, .ref u] ∧ SqT K H u (b.body.map V.int) := by
  obtain ⟨a, us, rfl, hs, hu⟩ := dp_tup h
  obtain ⟨x, us, rfl, hx, hu⟩ := dpAll_cons hu
  obtain ⟨y, us, rfl, hy, hu⟩ := dpAll_cons hu
  obtain ⟨z, us, rfl, hz, hu⟩ := dpAll_cons hu
  obtain ⟨w, us, rfl, hw, hu⟩ := dpAll_cons hu
  obtain rfl := dpAll_nil hu
  obtain ⟨u, rfl, hb⟩ := dpInts hw
  rw [dp_int hx, dp_int hy, dp_int hz] at hs
  exact ⟨a, u, rfl, hs, hb⟩
theorem bodyOf_len {L : Lay} {k : Int} {l : List Int} (h : L.Ok) (hl : l.length ≤ 300) : (bodyOf L k l).length ≤ 1000 := by
  have f1 := found_len (k := k) (l := l)
  have o1 := h.o1
  unfold bodyOf
  rw [List.length_append, List.length_replicate]
  omega
def chkStep (t o : Int) : Int := (t * 257 + o + 1) % 4294967291
def chk (L : Lay) (addr : Int) (b : Option Blk) : Int := (octs L b).foldl chkStep (addr + 1)
abbrev Cell := Option (Option Blk × Int)
def cellD : Cell → PyData
  | none => .none
  | some (b, c) => .tuple [optD b, .int c]
def sealOf (L : Lay) (n : Int) : Option Blk → Cell
  | none => none
  | some b => some (some b, chk L n (some b))
theorem optV {K : PySem.W.Frag} {H : Hp} {v : V} {b : Option Blk} (h : Dp K H v (optD b)) : (b = none ∧ v = .non) ∨ ∃ c t, b = some c ∧ v = .ref t := by
  cases b with
  | none => exact .inl ⟨rfl, dp_non h⟩
  | some b => obtain ⟨t, u, rfl, _⟩ := dpBlk h; exact .inr ⟨b, t, rfl, rfl⟩
def whole (L : Lay) (n : Int) : Cell → Bool
  | none => false
  | some (none, _) => false
  | some (some b, c) => decide (c = chk L n (some b))
def CellOk : Cell → Prop
  | none => True
  | some (b, _) => BlkOk b
theorem cellV {K : PySem.W.Frag} {H : Hp} {v : V} {c : Cell} (h : Dp K H v (cellD c)) : (c = none ∧ v = .non) ∨ ∃ b k t u, c = some (b, k) ∧ v = .ref t ∧ SqT K H t [u, .int k] ∧ Dp K H u (optD b) := by
  rcases c with _ | ⟨b, k⟩
  · exact .inl ⟨rfl, dp_non h⟩
  · obtain ⟨t, u, w, rfl, ht, hu, hw⟩ := dpT2 h
    rw [dp_int hw] at ht
    exact .inr ⟨b, k, t, u, rfl, rfl, ht, hu⟩
def lays : List Lay := [⟨4, 16, 64⟩, ⟨4, 16, 64⟩, ⟨5, 16, 64⟩, ⟨4, 16, 128⟩, ⟨4, 17, 64⟩, ⟨4, 16, 256⟩]
theorem lays_ok : ∀ L ∈ lays, L.Ok := by
  intro L h
  simp only [lays, List.mem_cons, List.not_mem_nil, or_false] at h
  rcases h with rfl | rfl | rfl | rfl | rfl | rfl <;> exact ⟨by decide, by decide, by decide, by decide, by decide, by decide⟩
/-- a block that fills its cell -/
structure Full (L : Lay) (b : Blk) : Prop where
  k : 3 ≤ b.kind
  d : b.kind = 3 → (b.body.length : Int) = L.oct
  p : b.kind ≠ 3 → 2 * (b.body.length : Int) = L.oct
  r : b.kind ≠ 3 → ∀ n ∈ b.body, 0 ≤ n ∧ n < 65536
def FullO (L : Lay) : Option Blk → Prop
  | none => True
  | some b => Full L b
def headOf (b : Blk) : List Int := ([b.kind] ++ lows b.seq 6 ++ lows b.place 2) ++ List.replicate 7 0
theorem octs_full {L : Lay} {b : Blk} (h : Full L b) : octs L (some b) = headOf b ++ found b.kind b.body := by
  show headOf b ++ bodyOf L b.kind b.body = _
  have e : (L.oct - ((found b.kind b.body).length : Int)).toNat = 0 := by
    unfold found
    split
    · have := h.d (by assumption); omega
    · have := h.p (by assumption); rw [pairs_len]; omega
  unfold bodyOf
  rw [e, List.replicate_zero, List.append_nil]
theorem pair_low {n : Int} (h : 0 ≤ n ∧ n < 65536) : [n % 256, n / 256] = lows n 2 := by
  have e : n / 256 = n / 256 % 256 := by omega
  show _ = [n % 256, n / 256 % 256]
  rw [← e]
@[simp] theorem headOf_len (b : Blk) : (headOf b).length = 16 := by unfold headOf; simp
end Sk

namespace Sk
open PySem L2
/-! ### labels: the plain side -/
structure Lb where
  gen : Int
  mem : List Int
  bef : List Int
  forks : List Int
deriving DecidableEq
def Lb.d (l : Lb) : PyData := .tuple [.int l.gen, intsD l.mem, intsD l.bef, intsD l.forks]
def lbD : Option Lb → PyData
  | none => .none
  | some l => l.d
theorem dpLb {K : PySem.W.Frag} {H : Hp} {v : V} {l : Lb} (h : Dp K H v l.d) : ∃ t m b f, v = .ref t ∧ SqT K H t [.int l.gen, .ref m, .ref b, .ref f] ∧ SqT K H m (l.mem.map V.int) ∧ SqT K H b (l.bef.map V.int) ∧ SqT K H f (l.forks.map V.int) := by
  obtain ⟨a, us, rfl, hs, hu⟩ := dp_tup h
  obtain ⟨x, us, rfl, hx, hu⟩ := dpAll_cons hu
  obtain ⟨y, us, rfl, hy, hu⟩ := dpAll_cons hu
  obtain ⟨z, us, rfl, hz, hu⟩ := dpAll_cons hu
  obtain ⟨w, us, rfl, hw, hu⟩ := dpAll_cons hu
  obtain rfl := dpAll_nil hu
  obtain ⟨m, rfl, hm⟩ := dpInts hy
  obtain ⟨b, rfl, hb⟩ := dpInts hz
  obtain ⟨f, rfl, hf⟩ := dpInts hw
  rw [dp_int hx] at hs
  exact ⟨a, m, b, f, rfl, hs, hm, hb, hf⟩
theorem mkLb {K : PySem.W.Frag} {H : Hp} {t m b f : Addr} {l : Lb} (ht : SqT K H t [.int l.gen, .ref m, .ref b, .ref f]) (hm : SqT K H m (l.mem.map V.int)) (hb : SqT K H b (l.bef.map V.int)) (hf : SqT K H f (l.forks.map V.int)) : Dp K H (.ref t) l.d :=
  .tup ht (.cons (.int _) (.cons (.tup hm (dpAll_ints _)) (.cons (.tup hb (dpAll_ints _)) (.cons (.tup hf (dpAll_ints _)) .nil))))
theorem lbV {K : PySem.W.Frag} {H : Hp} {v : V} {b : Option Lb} (h : Dp K H v (lbD b)) : (b = none ∧ v = .non) ∨ ∃ c t, b = some c ∧ v = .ref t := by
  cases b with
  | none => exact .inl ⟨rfl, dp_non h⟩
  | some b => obtain ⟨t, m, bb, f, rfl, _⟩ := dpLb h; exact .inr ⟨b, t, rfl, rfl⟩
theorem la_lb (l : Lb) : LaD l.d 2 := la_tup (la_cons la_int (la_cons (la_tup la_ints) (la_cons (la_tup la_ints) (la_cons (la_tup la_ints) la_non'))))
theorem clean_lb (l : Lb) : clean l.d = true := by simp [Lb.d, intsD, clean, cleanAll, clean_ints]
theorem la_lbD (b : Option Lb) : LaD (lbD b) 2 := by cases b with | none => exact la_non | some l => exact la_lb l
theorem clean_lbD (b : Option Lb) : clean (lbD b) = true := by cases b with | none => rfl | some l => exact clean_lb l
theorem la_blk (k : Blk) : LaD k.d 2 := la_tup (la_cons la_int (la_cons la_int (la_cons la_int (la_cons (la_tup la_ints) la_non'))))
theorem clean_blk (k : Blk) : clean k.d = true := by simp [Blk.d, intsD, clean, cleanAll, clean_ints]
theorem ints_inj : ∀ {l m : List Int}, l.map PyData.int = m.map PyData.int → l = m
  | [], [], _ => rfl
  | [], _ :: _, h => by simp at h
  | _ :: _, [], h => by simp at h
  | a :: l, b :: m, h => by
    rw [List.map_cons, List.map_cons, List.cons.injEq] at h
    obtain ⟨h1, h2⟩ := h
    cases h1
    rw [ints_inj h2]
theorem blk_inj {k e : Blk} (h : k.d = e.d) : k = e := by
  obtain ⟨a, b, c, l⟩ := k
  obtain ⟨a', b', c', l'⟩ := e
  simp only [Blk.d, intsD, PyData.tuple.injEq, List.cons.injEq, PyData.int.injEq, and_true] at h
  obtain ⟨h1, h2, h3, h4⟩ := h
  rw [h1, h2, h3, ints_inj h4]
theorem eqv_blk (k e : Blk) : PyData.eqv k.d e.d = decide (k = e) :=
  eqv_dec (clean_blk k) (clean_blk e) (by rw [decide_eq_true_iff]; exact ⟨fun h => by rw [h], blk_inj⟩)
def bit (s : List Int) (i : Int) : Int := if i ∈ s then 1 else 0
def bits (s : List Int) : List Int := [bit s 0, bit s 1, bit s 2]
def fork3 (l : List Int) : List Int := l.flatMap fun n => lows n 3
theorem fork3_len (l : List Int) : (fork3 l).length = 3 * l.length := by
  induction l with
  | nil => rfl
  | cons n r ih =>
    have : fork3 (n :: r) = lows n 3 ++ fork3 r := rfl
    rw [this, List.length_append, ih, lows_len, List.length_cons]; omega
theorem fork3_snoc (l : List Int) (n : Int) : fork3 (l ++ [n]) = fork3 l ++ lows n 3 := by
  unfold fork3
  rw [List.flatMap_append]
  simp
def labelHead (seat : Int) (l : Lb) : List Int := [83, 73, 68, 69] ++ [1, seat] ++ bits l.mem ++ bits l.bef ++ [(l.forks.length : Int)]
def labelFront (seat : Int) (l : Lb) : List Int := labelHead seat l ++ fork3 l.forks
def labelOcts (L : Lay) (seat : Int) (l : Lb) : List Int := labelFront seat l ++ List.replicate (L.oct - ((labelFront seat l).length : Int)).toNat 0
def labelBlk (L : Lay) (seat : Int) (l : Lb) : Blk := ⟨3, l.gen, 0, labelOcts L seat l⟩
theorem labelHead_len (seat : Int) (l : Lb) : (labelHead seat l).length = 13 := rfl
theorem labelFront_len (seat : Int) (l : Lb) : (labelFront seat l).length = 13 + 3 * l.forks.length := by rw [labelFront, List.length_append, fork3_len, labelHead_len]
def numOf : List Int → Int
  | [] => 0
  | n :: r => numOf r * 256 + n
def seats3 (a b c : Int) : List Int := (if a ≠ 0 then [0] else []) ++ (if b ≠ 0 then [1] else []) ++ (if c ≠ 0 then [2] else [])
def memOf (o : List Int) : List Int := seats3 (o.getD 6 0) (o.getD 7 0) (o.getD 8 0)
def befOf (o : List Int) : List Int := seats3 (o.getD 9 0) (o.getD 10 0) (o.getD 11 0)
def forkOf (o : List Int) (i : Nat) : Int := numOf [o.getD (13 + 3 * i) 0, o.getD (14 + 3 * i) 0, o.getD (15 + 3 * i) 0]
def forksOf (o : List Int) : List Int := (List.range (o.getD 12 0).toNat).map (forkOf o)
def readLb (k : Blk) : Lb := ⟨k.seq, memOf k.body, befOf k.body, forksOf k.body⟩
def labelOf (L : Lay) (seat : Int) : Option Blk → Option Lb
  | none => none
  | some k => if k.kind = 3 ∧ k.seq ≠ 0 ∧ seat ∈ memOf k.body ∧ k.body.getD 12 0 ≤ 16 ∧ labelBlk L seat (readLb k) = k then some (readLb k) else none
/-- a block whose body are octets, if it is a block of octets -/
structure OctBlk (L : Lay) (k : Blk) : Prop where
  k3 : 3 ≤ k.kind
  s0 : 0 ≤ k.seq
  len : k.kind = 3 → (k.body.length : Int) = L.oct
  few : k.body.length ≤ 300
  oct : k.kind = 3 → ∀ n ∈ k.body, 0 ≤ n ∧ n < 256
theorem bits_seats {a b c : Int} : bits (seats3 a b c) = [if a ≠ 0 then 1 else 0, if b ≠ 0 then 1 else 0, if c ≠ 0 then 1 else 0] := by
  unfold bits bit seats3
  by_cases ha : a = 0 <;> by_cases hb : b = 0 <;> by_cases hc : c = 0 <;> simp [ha, hb, hc]
theorem mem_seats {a b c : Int} : (0 ∈ seats3 a b c ↔ a ≠ 0) ∧ (1 ∈ seats3 a b c ↔ b ≠ 0) ∧ (2 ∈ seats3 a b c ↔ c ≠ 0) := by
  unfold seats3
  by_cases ha : a = 0 <;> by_cases hb : b = 0 <;> by_cases hc : c = 0 <;> simp [ha, hb, hc]
theorem lows_num {a b c : Int} (ha : 0 ≤ a ∧ a < 256) (hb : 0 ≤ b ∧ b < 256) (hc : 0 ≤ c ∧ c < 256) : lows (numOf [a, b, c]) 3 = [a, b, c] := by
  unfold numOf numOf numOf numOf lows lows lows lows
  have e1 : (((0 * 256 + c) * 256 + b) * 256 + a) % 256 = a := by omega
  have e2 : (((0 * 256 + c) * 256 + b) * 256 + a) / 256 % 256 = b := by omega
  have e3 : (((0 * 256 + c) * 256 + b) * 256 + a) / 256 / 256 % 256 = c := by omega
  rw [e1, e2, e3]
theorem num_low {n : Int} (h : 0 ≤ n ∧ n < 16777216) : lows n 3 = [n % 256, n / 256 % 256, n / 65536] := by
  unfold lows lows lows lows
  have : n / 256 / 256 % 256 = n / 65536 := by omega
  rw [this]
/-- the forks of a body are its octets again -/
theorem fork_take (rest : List Int) (hr : ∀ n ∈ rest, 0 ≤ n ∧ n < 256) : ∀ c : Nat, 3 * c ≤ rest.length → fork3 ((List.range c).map fun i => numOf [rest.getD (3 * i) 0, rest.getD (3 * i + 1) 0, rest.getD (3 * i + 2) 0]) = rest.take (3 * c)
  | 0, _ => by simp [fork3]
  | c + 1, h => by
    have ih := fork_take rest hr c (by omega)
    rw [List.range_succ, List.map_append, List.map_singleton, fork3_snoc, ih]
    have g : ∀ j, j < rest.length → 0 ≤ rest.getD j 0 ∧ rest.getD j 0 < 256 := fun j hj => by
      rw [List.getD_eq_getElem?_getD, List.getElem?_eq_getElem hj]
      exact hr _ (List.getElem_mem hj)
    rw [lows_num (g _ (by omega)) (g _ (by omega)) (g _ (by omega))]
    have t : ∀ j, j < rest.length → rest.take (j + 1) = rest.take j ++ [rest.getD j 0] := fun j hj => by
      rw [List.take_add_one, List.getElem?_eq_getElem hj, List.getD_eq_getElem?_getD, List.getElem?_eq_getElem hj]; rfl
    rw [show 3 * (c + 1) = 3 * c + 1 + 1 + 1 by omega, t _ (by omega), t _ (by omega), t _ (by omega)]
    simp
theorem head13 {o : List Int} (h : 13 ≤ o.length) : ∃ b0 b1 b2 b3 b4 b5 b6 b7 b8 b9 b10 b11 b12 r, o = b0 :: b1 :: b2 :: b3 :: b4 :: b5 :: b6 :: b7 :: b8 :: b9 :: b10 :: b11 :: b12 :: r := by
  match o, h with
  | b0 :: b1 :: b2 :: b3 :: b4 :: b5 :: b6 :: b7 :: b8 :: b9 :: b10 :: b11 :: b12 :: r, _ => exact ⟨_, _, _, _, _, _, _, _, _, _, _, _, _, _, rfl⟩
theorem bit01 {a : Int} (h : 0 ≤ a) : (if a ≠ 0 then (1 : Int) else 0) = a ↔ a ≤ 1 := by split <;> omega
/-- when the block of the label that is read is the block -/
theorem label_iff {L : Lay} (hL : L.Ok) {seat : Int} {k : Blk} (hk : OctBlk L k) (k3 : k.kind = 3) {b0 b1 b2 b3 b4 b5 b6 b7 b8 b9 b10 b11 b12 : Int} {r : List Int} (e : k.body = b0 :: b1 :: b2 :: b3 :: b4 :: b5 :: b6 :: b7 :: b8 :: b9 :: b10 :: b11 :: b12 :: r) (h16 : b12 ≤ 16) :
    labelBlk L seat (readLb k) = k ↔ k.place = 0 ∧ [b0, b1, b2, b3, b4, b5] = [83, 73, 68, 69, 1, seat] ∧ (b6 ≤ 1 ∧ b7 ≤ 1 ∧ b8 ≤ 1 ∧ b9 ≤ 1 ∧ b10 ≤ 1 ∧ b11 ≤ 1) ∧ ∀ n ∈ r.drop (3 * b12.toNat), n = 0 := by
  have ho := hk.oct k3
  have hl := hk.len k3
  have o1 := hL.o1
  rw [e] at ho
  rw [e, show (b0 :: b1 :: b2 :: b3 :: b4 :: b5 :: b6 :: b7 :: b8 :: b9 :: b10 :: b11 :: b12 :: r).length = 13 + r.length by simp only [List.length_cons]; omega] at hl
  have hr : ∀ n ∈ r, 0 ≤ n ∧ n < 256 := fun n hn => ho n (by simp [hn])
  have h12 := ho b12 (by simp)
  have h6 := ho b6 (by simp); have h7 := ho b7 (by simp); have h8 := ho b8 (by simp)
  have h9 := ho b9 (by simp); have hA := ho b10 (by simp); have hB := ho b11 (by simp)
  obtain ⟨c, rfl⟩ := Int.eq_ofNat_of_zero_le h12.1
  have c3 : 3 * c ≤ r.length := by omega
  have hf : forksOf k.body = (List.range c).map fun i => numOf [r.getD (3 * i) 0, r.getD (3 * i + 1) 0, r.getD (3 * i + 2) 0] := by
    rw [e]
    unfold forksOf
    have : (b0 :: b1 :: b2 :: b3 :: b4 :: b5 :: b6 :: b7 :: b8 :: b9 :: b10 :: b11 :: (c : Int) :: r).getD 12 0 = (c : Int) := rfl
    rw [this, Int.toNat_natCast]
    refine List.map_congr_left fun i _ => ?_
    unfold forkOf
    have g : ∀ j, (b0 :: b1 :: b2 :: b3 :: b4 :: b5 :: b6 :: b7 :: b8 :: b9 :: b10 :: b11 :: (c : Int) :: r).getD (13 + j) 0 = r.getD j 0 := fun j => by
      rw [show 13 + j = j + 1 + 1 + 1 + 1 + 1 + 1 + 1 + 1 + 1 + 1 + 1 + 1 + 1 by omega]
      simp only [List.getD_cons_succ]
    rw [g, show 14 + 3 * i = 13 + (3 * i + 1) by omega, show 15 + 3 * i = 13 + (3 * i + 2) by omega, g, g]
  have hm : memOf k.body = seats3 b6 b7 b8 := by rw [e]; rfl
  have hb : befOf k.body = seats3 b9 b10 b11 := by rw [e]; rfl
  have hfl : (forksOf k.body).length = c := by rw [hf]; simp
  have front : labelFront seat (readLb k) = [83, 73, 68, 69, 1, seat, if b6 ≠ 0 then 1 else 0, if b7 ≠ 0 then 1 else 0, if b8 ≠ 0 then 1 else 0, if b9 ≠ 0 then 1 else 0, if b10 ≠ 0 then 1 else 0, if b11 ≠ 0 then 1 else 0, (c : Int)] ++ r.take (3 * c) := by
    unfold labelFront labelHead readLb
    rw [hm, hb, bits_seats, bits_seats, hfl, hf, fork_take r hr c c3]
    rfl
  have fl : (labelFront seat (readLb k)).length = 13 + 3 * c := by rw [labelFront_len, show (readLb k).forks = forksOf k.body from rfl, hfl]
  have key : labelBlk L seat (readLb k) = k ↔ k.place = 0 ∧ labelOcts L seat (readLb k) = k.body := by
    constructor
    · intro h
      rw [← h]
      exact ⟨rfl, by rw [h]; exact congrArg Blk.body h⟩
    · rintro ⟨h1, h2⟩
      obtain ⟨q1, q2, q3, q4⟩ := k
      simp only at k3 h1
      subst k3 h1
      unfold labelBlk
      rw [h2]
      rfl
  rw [key]
  refine and_congr_right fun _ => ?_
  unfold labelOcts
  rw [fl, front, e, show (L.oct - ((13 + 3 * c : Nat) : Int)).toNat = r.length - 3 * c by omega]
  have r2 : r = r.take (3 * c) ++ r.drop (3 * c) := (List.take_append_drop _ _).symm
  have rl : (r.drop (3 * c)).length = r.length - 3 * c := List.length_drop
  rw [Int.toNat_natCast, List.append_assoc]
  have z : r.take (3 * c) ++ List.replicate (r.length - 3 * c) 0 = r ↔ ∀ n ∈ r.drop (3 * c), n = 0 := by
    constructor
    · intro h n hn
      have : List.replicate (r.length - 3 * c) 0 = r.drop (3 * c) := List.append_cancel_left (h.trans r2)
      rw [← this] at hn
      exact List.eq_of_mem_replicate hn
    · intro h
      have : r.drop (3 * c) = List.replicate (r.length - 3 * c) 0 := List.eq_replicate_iff.mpr ⟨rl, h⟩
      rw [← this, List.take_append_drop]
  rw [← z]
  simp only [List.cons_append, List.nil_append, List.cons.injEq, bit01 h6.1, bit01 h7.1, bit01 h8.1, bit01 h9.1, bit01 hA.1, bit01 hB.1, true_and, and_true]
  constructor
  · rintro ⟨a0, a1, a2, a3, a4, a5, a6, a7, a8, a9, aA, aB, aR⟩
    exact ⟨⟨a0.symm, a1.symm, a2.symm, a3.symm, a4.symm, a5.symm⟩, ⟨a6, a7, a8, a9, aA, aB⟩, aR⟩
  · rintro ⟨⟨a0, a1, a2, a3, a4, a5⟩, ⟨a6, a7, a8, a9, aA, aB⟩, aR⟩
    exact ⟨a0.symm, a1.symm, a2.symm, a3.symm, a4.symm, a5.symm, a6, a7, a8, a9, aA, aB, aR⟩
/-! which label goes ahead -/
def newer (l : Lb) : Option Lb → Bool
  | none => true
  | some o => if l.gen = o.gen then decide (l.mem.length < o.mem.length) else decide (l.gen > o.gen)
def pickLb (best x : Option Lb) : Option Lb := match x with
  | none => best
  | some l => if newer l best = true then some l else best
def newestOf (ls : List (Option Lb)) : Option Lb := ls.foldl pickLb none
theorem only_blk (k : Blk) : tupOnly k.d = true := by simp [Blk.d, tupOnly, tupOnlyAll, intsD, tupOnly_ints]
theorem lows_oct : ∀ (n : Int) (c : Nat), ∀ x ∈ lows n c, 0 ≤ x ∧ x < 256
  | _, 0, x, h => by rw [lows] at h; exact absurd h List.not_mem_nil
  | n, c + 1, x, h => by
    rw [lows] at h
    rcases List.mem_cons.mp h with rfl | h
    · omega
    · exact lows_oct _ c x h
theorem octblk_label {L : Lay} (hL : L.Ok) {seat : Int} (h0 : 0 ≤ seat) (h3 : seat < 3) {l : Lb} (g : 0 ≤ l.gen) (few : l.forks.length ≤ 16) : OctBlk L (labelBlk L seat l) := by
  have o1 := hL.o1
  have fl := labelFront_len seat l
  have ll : ((labelOcts L seat l).length : Int) = L.oct := by
    unfold labelOcts
    rw [List.length_append, List.length_replicate]
    omega
  refine ⟨Int.le_refl 3, g, fun _ => ll, by show (labelOcts L seat l).length ≤ 300; omega, fun _ n hn => ?_⟩
  have hb : ∀ s i, 0 ≤ bit s i ∧ bit s i < 256 := fun s i => by unfold bit; split <;> omega
  change n ∈ labelOcts L seat l at hn
  unfold labelOcts labelFront at hn
  rcases List.mem_append.mp hn with hn | hn
  · rcases List.mem_append.mp hn with hn | hn
    · simp only [labelHead, bits, List.cons_append, List.nil_append, List.mem_cons, List.not_mem_nil, or_false] at hn
      rcases hn with rfl | rfl | rfl | rfl | rfl | rfl | rfl | rfl | rfl | rfl | rfl | rfl | rfl
      all_goals first | omega | exact hb _ _
    · unfold fork3 at hn
      obtain ⟨o, _, ho⟩ := List.mem_flatMap.mp hn
      exact lows_oct _ _ _ ho
  · rw [List.eq_of_mem_replicate hn]; decide
end Sk

namespace Sk
open PySem L2
/-! ### an own exception class whose __init__ begins with super().__init__("..") -/
section
open PySem.W PySem.Calls PyProof.Rows PySem.OEX NdefX
open L2H (Hot1 RoomH FnH PinOk HotC)
variable {CX : CXT} {P : Program} {w : World} {K : PySem.W.Frag} {mg : Str → Option Value} {base : Heap} {k : Nat} {f C c cc : Addr} {name qual msg : Str} {params : Arguments} {rest : List Stmt} {scope : Scope}
  {dV kV doc pm ct oc ccl cl : Value} {an od cdd cld : Option Addr} {osl ccs csl : Array (Option Value)} {vs2 : Array Value} {file : Str} {tf : Tok} {cd : ClassData} {ar : Arg} {N ps : List Str} {sp : Sp} {p0 p1 p2 p3 p4 p5 : Pos}
/-- the written facts of such a class -/
structure SupC (P : Program) (K : PySem.W.Frag) (mg : Str → Option Value) (C c cc : Addr) : Prop where
  cell : ∃ cl cld csl, K.lookup cc = some ⟨cl, cld, .cell (some (.ref C)), csl⟩
  code : ∃ ccl cdd vs2 ccs file tf, K.lookup c = some ⟨ccl, cdd, .fields vs2, ccs⟩ ∧ vs2[2]? = some (.str file tf) ∧ ((P.main.file : Str) == file) = true
  top : (P.main.scope.names.lookup ("super" : Str)).isSome = false
  sup : mg "super" = none
  isC : ∃ cd, clsIn K C = some cd
  sub : mroIn K C (.ref C) = some true
  any : nsIn K cStatics "thirdparty.any" = some none
  init : ks_superIn K C C "__init__" = some (some (.builtin "ValueError.__init__"))
  ve : subIn K (.ref C) (.type "ValueError") = some true
  oex : OexC K C
abbrev supSt (msg : Str) (j : Nat) (p0 p1 p2 p3 p4 p5 : Pos) : Stmt := .Expr (.Call (.Attribute (.Call (.Name "super" p0) [] [] p1) "__init__" p2) [.Constant (.str msg) j p3] [] p4) p5
theorem call_wrap {prog : Program} {A : Around} {E : Value → Shared → Prop} {h : Heap} {g : Array GenState} {d : Drawn} {t : Nat} {os : OsState} {u a t0 : Addr} {rs : List Value} {Q : Value → Shared → Prop}
    {nm q : Str} {N : Addr} {bs bm : List Value} {hd : Bool} {sn : List Str} {sub : List Value} {ab : Bool} {col : Option Bool} {dd : Option Addr} {k0 k1 k2 k3 k5 : Option Value}
    (hu : h.get? u = some (kxs_mw "ValueError.__init__" a)) (hC : h.get? C = some (excClassObj nm q C N bs bm hd sn sub ab col dd k0 k1 k2 k3 k5 "ValueError.__new__")) (ha : h.get? a = some (excRec (.ref C) t0 none .none .none (.bool false))) (hz : rs.length ≤ sizeLine)
    (hq : ∀ h' t1, (∀ b o, b ≠ a → h.get? b = some o → h'.get? b = some o) → h'.get? a = some (excRec (.ref C) t1 none .none .none (.bool false)) → Q .none ⟨h', g, d, t, os⟩) : wpAny (model prog w) A (call (.ref u) rs) Q E ⟨h, g, d, t, os⟩ := by
  have FB := F.excBase_ValueError
  apply wpAny_call
  apply codeAny_of_tree
  change wpAny _ A.in1 (callAny (.ref u) ⟨rs, []⟩) _ _ _
  unfold callAny
  apply wpAny_bind
  apply wpAny_load hu
  simp only [kxs_mw, show ((Value.type "method-wrapper" == Value.type "method" || Value.type "method-wrapper" == Value.type "builtin_function_or_method") || Value.type "method-wrapper" == Value.type "method-wrapper") = true from by decide, if_true]
  apply KFB.if_so (by decide)
  apply wpAny_bind
  refine check_bound_init FB.toExcCallFacts hC ha rfl (wpAny_bind (wpAny_pure (wpAny_pure ⟨plainId_quiet FB.init.plain _, ?_⟩)))
  refine codeAny_builtin FB.initEntry ?_
  exact exc_init_tree ha hz fun h' k x _ => hq h' _ k x
theorem super_core {j : Nat} {X : Cx} {σ : L2.St} {H : Hp} {A' : Around} {Q' : Flow → Shared → Prop} {E' : Value → Shared → Prop} {h₁ : Heap} {g : Array GenState} {d : Drawn} {tk : Nat} {os : OsState} {L a : Addr} {m mb : Str → Option Value} (Z : SupC P K mg C c cc)
    (lk : K.lookup f = some ⟨oc, od, .func (PySem.W.fnX name qual params (supSt msg j p0 p1 p2 p3 p4 p5 :: rest) scope [("__class__", cc)] dV kV doc pm an (.ref c) ct), osl⟩)
    (S : NScope N ps ["__class__"] scope) (hp : (params.posonlyargs ++ params.args).head? = some ar)
    (hks : scope.names.lookup ("super" : Str) = some .globalImplicit) {pl : Addr → Sem Bool}
    (he : ∀ L : Addr, eval (.Call (.Attribute (.Call (.Name "super" p0) [] [] p1) "__init__" p2) [.Constant (.str msg) j p3] [] p4) (envX qual scope L f (.ref c) [("__class__", cc)]) = (do
      let ov ← attributeBase (.Call (.Name "super" p0) [] [] p1) "__init__" (envX qual scope L f (.ref c) [("__class__", cc)]) (eval (.Call (.Name "super" p0) [] [] p1) (envX qual scope L f (.ref c) [("__class__", cc)]))
      standAt p2.atName
      let (g, first) ← holding [ov] (getMethod ov "__init__" (pl L))
      callWith p4 g first (backTo p4 (starEach [.Constant (.str msg) j p3] (envX qual scope L f (.ref c) [("__class__", cc)]))) []))
    (hsw : ∀ L : Addr, swapsWith (.Call (.Attribute (.Call (.Name "super" p0) [] [] p1) "__init__" p2) [.Constant (.str msg) j p3] [] p4) none p5.line (envX qual scope L f (.ref c) [("__class__", cc)]) = pure false)
    (KX1 : K.In h₁) (hns : h₁.Ns L m) (hself : m ar.arg = some (.ref a)) (selfL : scope.names.lookup ar.arg = some .local) (hg : h₁.Ns mainGlobals mg) (hb1 : h₁.Ns builtinsNs mb) (hb2 : ∀ x : Str, x ≠ "__name__" → mb x = bootBuiltins x)
    (I : Inv X [] σ H ⟨h₁, g, d, tk, os⟩) (ha : H a = some (exo a C none))
    (fin : ∀ h' tk', Inv X [] σ H ⟨h', g, d, tk', os⟩ → wpAny (model P w) A' (execs rest (envX qual scope L f (.ref c) [("__class__", cc)])) Q' E' ⟨h', g, d, tk', os⟩) :
    PySem.wpAt (model P w) A' (.func (supSt msg j p0 p1 p2 p3 p4 p5 :: rest) (envX qual scope L f (.ref c) [("__class__", cc)])) (execs (supSt msg j p0 p1 p2 p3 p4 p5 :: rest) (envX qual scope L f (.ref c) [("__class__", cc)])) Q' E' ⟨h₁, g, d, tk, os⟩ := by
  obtain ⟨cl, cld, csl, hcell⟩ := Z.cell
  obtain ⟨ccl, cdd, vs2, ccs, file, tf, hcode, hvs, hfile⟩ := Z.code
  have clsF : scope.names.lookup ("__class__" : Str) = some .free := S.frk _ (List.mem_singleton.mpr rfl)
  obtain ⟨cd, hC⟩ := Z.isC
  obtain ⟨oD, hD1, hD2⟩ : ∃ oD, h₁.get? C = some oD ∧ oD.data = .cls cd := by
    unfold clsIn at hC
    split at hC
    · cases hC; exact ⟨_, KX1 _ _ (by assumption), rfl⟩
    · cases hC
  obtain ⟨t1, hx⟩ := exo_at I.hok ha
  refine ks_wpAt_execs_cons (ks_wpAt_Expr_any (ks_wpAt_MethodCall (ks_wpAt_super_base (ar := ar) hks clsF (by decide) rfl (KX1 _ _ lk) rfl hp rfl (KX1 _ _ hcode) rfl hvs hfile Z.top ?_) (he _)) (hi := by unfold interactive; simp only [S.kind]; rfl) (hs := hsw _))
  refine ks_loadName_global S.kind hks (Calls.loadGlobal_builtin hg Z.sup hb1 ((hb2 _ (by decide)).trans (show bootBuiltins ("super" : Str) = some (.type "super") by kernel_rfl)) ⟨rfl, ?_⟩)
  refine wpAny_loadName_free S.kind clsF rfl ⟨_, KX1 _ _ hcell, rfl⟩ ?_
  refine wpAny_loadName_local S.kind selfL hns hself ?_
  refine ks_wpAny_isType_cls hD1 hD2 ⟨rfl, ?_⟩
  refine ks_wpAny_call_super hD1 hD2 hx rfl (fun c e => by cases e) (looks_mroIn KX1 Z.sub) (fun h2 e2 k2 => ?_)
  have KX2 : K.In h2 := KX1.keeps k2
  have hx2 := k2 _ _ hx
  have I0 : PySem.W.InstAt h2 a _ C none := ⟨hx2, rfl, rfl, trivial⟩
  have hm := Z.init
  unfold ks_superIn at hm
  rw [hC, Option.bind_some] at hm
  refine kxs_getMethod kxs_ValueError e2 (looks_opaque KX2 Z.any) (l₀ := cd.mro) (fun A Q E s k q => wpAny_bind ((looks_clsIn KX2 hC) A _ E s k (wpAny_pure q))) rfl KX2 hm (I0.type.andThen (looks_subIn KX2 Z.ve)) (ks_ne KX2 I0 hC) (by decide) ?_
  have k3 : ∀ b o, h2.get? b = some o → (h2.push (kxs_mw "ValueError.__init__" a)).get? b = some o := fun b o e => Heap.get?_push_of_some _ e
  have hu3 : (h2.push (kxs_mw "ValueError.__init__" a)).get? h2.objs.size = some (kxs_mw "ValueError.__init__" a) := Heap.get?_push_size _ rfl
  have hx3 := k3 _ _ hx2
  generalize h2.push (kxs_mw "ValueError.__init__" a) = h3 at k3 hu3 hx3 ⊢
  have KX3 : K.In h3 := KX2.keeps k3
  obtain ⟨nm, q1, N1, bs, bm, sn, sub, ab, col, dd, k0, k1, k2', k3', k5, hK, hbm⟩ := Z.oex.cls
  have hK3 := KX3 _ _ hK
  show wpAny _ _ (callWith p4 (.ref h2.objs.size) [] ((false, eval (.Constant (.str msg) j p3) (envX qual scope L f (.ref c) [("__class__", cc)])) :: []) []) _ _ _
  refine kxs_callWith (i := "ValueError.__init__") (x := a) rfl (evalArgs_plain (spliced_cons (Constant_str (k := j) (pos := p3) (spliced_nil ⟨hu3, ?_⟩))))
  refine call_wrap hu3 hK3 hx3 (show (1 : Nat) ≤ sizeLine by decide) fun h4 t2 k4 hx4 => ?_
  have I3 := (I.kept (t' := tk + 1 + 1) k2).kept (t' := tk + 1 + 1) k3
  have J := I3.write (t' := tk + 1 + 1) (x := a) (e := a) (o := exo a C none) (by rw [ha]; exact True.intro) (.inl rfl) k4 ⟨_, hx4⟩ (exo_ok hx4)
  rw [show upd H a (exo a C none) = H from funext fun b => by
    by_cases hb : b = a
    · rw [hb, upd_same, ha]
    · rw [upd_ne hb]] at J
  exact wpAt_of_wpAny (fin _ _ J)
theorem sup_cells {s : Shared} {H : Hp} {A : Around} {outer : List Env} (Z : SupC P K mg C c cc) (e0 : Env0 P w K mg base A outer s H) : CellsAt [("__class__", cc)] ["__class__"] [none] s.heap H := by
  obtain ⟨cl, cld, csl, hcell⟩ := Z.cell
  have one : ∀ y d, ([(("__class__" : Str), cc)] : List (Str × Addr)).lookup y = some d → y = "__class__" ∧ d = cc := fun y d e => by
    rw [List.lookup_cons] at e
    split at e
    · rename_i z; exact ⟨by simpa using z, by injection e with e; exact e.symm⟩
    · cases e
  refine ⟨rfl, fun y d e => ?_, fun x y d e g => (one x d e).1.trans (one y d g).1.symm, fun i y e => ?_⟩
  · obtain ⟨_, rfl⟩ := one y d e
    exact ⟨(e0.bs _ _ (e0.mod.kin _ _ hcell)).2, some (.ref C), _, (e0.bs _ _ (e0.mod.kin _ _ hcell)).1, rfl⟩
  · match i, e with
    | 0, e => cases e; exact ⟨cc, by simp [List.lookup_cons], fun v q => by cases q⟩
    | n + 1, e => simp at e
theorem sup_self {ws : List V} {us : List Value} {a : Addr} (S : NScope N ps ["__class__"] scope) (hps : ps.head? = some ar.arg) (r : Vals (.ref a :: ws) us) : (ps.zip us).reverse.lookup ar.arg = some (.ref a) ∧ scope.names.lookup ar.arg = some .local := by
  have ndP : ps.Nodup := by
    have q := S.nd.sublist (List.take_sublist (ps.length + 1) N)
    rw [show N.take (ps.length + 1) = ps ++ (["__class__"] : List Str) from S.pre] at q
    exact (List.nodup_append.mp q).1
  have h0 : ps[0]? = some ar.arg := by rw [← hps, List.head?_eq_getElem?]
  refine ⟨?_, S.par _ (List.mem_of_getElem? h0)⟩
  obtain ⟨u0, ur, rfl, rfl⟩ : ∃ u0 ur, us = u0 :: ur ∧ u0 = .ref a := by
    cases r with
    | cons x y => exact ⟨_, _, rfl, x⟩
  exact zip_look (i := 0) ndP h0 rfl
/-- the context of such a body where an exception is handled -/
def ncxH (CX : CXT) (P : Program) (w : World) (K : PySem.W.Frag) (mg : Str → Option Value) (base : Heap) (N : List Str) (F : NF) (f : Addr) (A : Around) (outer : List Env) (s : Shared) (H : Hp) (E : XK) (p : Addr × Obj) : Cx :=
  { ncx CX P w K mg base N F f A outer s H E with calm := false, pn := [p] }
theorem fn_super {j : Nat} (Z : SupC P K mg C c cc)
    (lk : K.lookup f = some ⟨oc, od, .func (PySem.W.fnX name qual params (supSt msg j p0 p1 p2 p3 p4 p5 :: rest) scope [("__class__", cc)] dV kV doc pm an (.ref c) ct), osl⟩)
    (hcd : codeIn K (.ref c) qual = true) (S : NScope N ps ["__class__"] scope) (hp : (params.posonlyargs ++ params.args).head? = some ar) (hps : ps.head? = some ar.arg)
    (hks : scope.names.lookup ("super" : Str) = some .globalImplicit) {pl : Addr → Sem Bool}
    (he : ∀ L : Addr, eval (.Call (.Attribute (.Call (.Name "super" p0) [] [] p1) "__init__" p2) [.Constant (.str msg) j p3] [] p4) (envX qual scope L f (.ref c) [("__class__", cc)]) = (do
      let ov ← attributeBase (.Call (.Name "super" p0) [] [] p1) "__init__" (envX qual scope L f (.ref c) [("__class__", cc)]) (eval (.Call (.Name "super" p0) [] [] p1) (envX qual scope L f (.ref c) [("__class__", cc)]))
      standAt p2.atName
      let (g, first) ← holding [ov] (getMethod ov "__init__" (pl L))
      callWith p4 g first (backTo p4 (starEach [.Constant (.str msg) j p3] (envX qual scope L f (.ref c) [("__class__", cc)]))) []))
    (hsw : ∀ L : Addr, swapsWith (.Call (.Attribute (.Call (.Name "super" p0) [] [] p1) "__init__" p2) [.Constant (.str msg) j p3] [] p4) none p5.line (envX qual scope L f (.ref c) [("__class__", cc)]) = pure false)
    (len : ∀ vs H Q E, sp vs H Q E → vs.length = ps.length)
    (hbody : ∀ (A : Around) (outer : List Env) (s : Shared) (H : Hp) (vs : List V) (Q : VK) (E : XK), Room k (A.deeper (envX qual scope s.heap.objs.size f (.ref c) [("__class__", cc)])) → sp vs H Q E →
      ∃ a ws, vs = .ref a :: ws ∧ H a = some (exo a C none) ∧ ∃ t, PSs (ncx CX P w K mg base N ⟨name, qual, params, supSt msg j p0 p1 p2 p3 p4 p5 :: rest, scope, [("__class__", cc)], c⟩ f A outer s H E) rest t ∧
        t { nx := fun _ H' => Q .non H', rt := Q } (startF N vs [none]) H) :
    FnOk P w K mg base CX (k + 1) f (PySem.W.fnX name qual params (supSt msg j p0 p1 p2 p3 p4 p5 :: rest) scope [("__class__", cc)] dV kV doc pm an (.ref c) ct) ps sp := by
  refine ⟨len, fun A outer s H args us vs Q E hr e0 hb r hsp => ?_⟩
  have KX : K.In s.heap := e0.mod.kin.keeps fun b o e => (e0.bs b o e).1
  have hl := len _ _ _ _ hsp
  have cells := sup_cells Z e0
  obtain ⟨a, ws, rfl, ha, t, ht, hq⟩ := hbody A outer s H vs Q E (hr.deeper _) hsp
  obtain ⟨hself, selfL⟩ := sup_self S hps r
  refine ks_codeAny_call_defAt (body := supSt msg j p0 p1 p2 p3 p4 p5 :: rest) hr.depth (KX _ _ lk) rfl (e0.mod.nolimit.keeps fun b o e => (e0.bs b o e).1) (codeRec_of KX hcd) rfl hb S.nocell (fun y hy => S.par y.1 (List.of_mem_zip (show (y.1, y.2) ∈ ps.zip us from hy)).1) (fun h₁ hns kp => ?_) S.co S.gen S.kind
  have I : Inv (ncx CX P w K mg base N ⟨name, qual, params, supSt msg j p0 p1 p2 p3 p4 p5 :: rest, scope, [("__class__", cc)], c⟩ f A outer s H E) [] (startF N (.ref a :: ws) [none]) H { s with heap := h₁, toks := s.toks + (ps.zip us).length } :=
    inv_startN (F := ⟨name, qual, params, supSt msg j p0 p1 p2 p3 p4 p5 :: rest, scope, [("__class__", cc)], c⟩) S hr.hd e0 hl r cells hns kp
  obtain ⟨mb, hb1, hb2⟩ := e0.mod.blt
  have bk : ∀ b o, base.get? b = some o → h₁.get? b = some o := fun b o e => kp _ _ (e0.bs b o e).1
  refine super_core Z lk S hp hks he hsw (KX.keeps kp) hns hself selfL (e0.mod.glob.keeps bk) (hb1.keeps bk) hb2 I ha fun h' tk' J => ?_
  refine wpAny_mono (ht.run [] _ (startF N (.ref a :: ws) [none]) H _ J hq) (fun fl s' hs => ?_) fun e s' hs => hs
  cases fl with
  | ret u => obtain ⟨v, σ', H', J', rv, q⟩ := hs; exact ⟨v, H', J'.os, J'.bare, J'.base, J'.hok, rv, q⟩
  | next => obtain ⟨σ', H', J', q⟩ := hs; exact ⟨.non, H', J'.os, J'.bare, J'.base, J'.hok, rfl, q⟩
  | brk => obtain ⟨_, _, _, q⟩ := hs; exact q.elim
  | cont => obtain ⟨_, _, _, q⟩ := hs; exact q.elim
theorem fn_superH {j : Nat} (Z : SupC P K mg C c cc)
    (lk : K.lookup f = some ⟨oc, od, .func (PySem.W.fnX name qual params (supSt msg j p0 p1 p2 p3 p4 p5 :: rest) scope [("__class__", cc)] dV kV doc pm an (.ref c) ct), osl⟩)
    (hcd : codeIn K (.ref c) qual = true) (S : NScope N ps ["__class__"] scope) (hp : (params.posonlyargs ++ params.args).head? = some ar) (hps : ps.head? = some ar.arg)
    (hks : scope.names.lookup ("super" : Str) = some .globalImplicit) {pl : Addr → Sem Bool}
    (he : ∀ L : Addr, eval (.Call (.Attribute (.Call (.Name "super" p0) [] [] p1) "__init__" p2) [.Constant (.str msg) j p3] [] p4) (envX qual scope L f (.ref c) [("__class__", cc)]) = (do
      let ov ← attributeBase (.Call (.Name "super" p0) [] [] p1) "__init__" (envX qual scope L f (.ref c) [("__class__", cc)]) (eval (.Call (.Name "super" p0) [] [] p1) (envX qual scope L f (.ref c) [("__class__", cc)]))
      standAt p2.atName
      let (g, first) ← holding [ov] (getMethod ov "__init__" (pl L))
      callWith p4 g first (backTo p4 (starEach [.Constant (.str msg) j p3] (envX qual scope L f (.ref c) [("__class__", cc)]))) []))
    (hsw : ∀ L : Addr, swapsWith (.Call (.Attribute (.Call (.Name "super" p0) [] [] p1) "__init__" p2) [.Constant (.str msg) j p3] [] p4) none p5.line (envX qual scope L f (.ref c) [("__class__", cc)]) = pure false)
    (len : ∀ vs H Q E, sp vs H Q E → vs.length = ps.length)
    (hbody : ∀ (A : Around) (outer : List Env) (s : Shared) (H : Hp) (vs : List V) (Q : VK) (E : XK) (p : Addr × Obj), Hot1 A p → RoomH k (A.deeper (envX qual scope s.heap.objs.size f (.ref c) [("__class__", cc)])) → sp vs H Q E →
      ∃ a ws, vs = .ref a :: ws ∧ H a = some (exo a C none) ∧ ∃ t, PSs (ncxH CX P w K mg base N ⟨name, qual, params, supSt msg j p0 p1 p2 p3 p4 p5 :: rest, scope, [("__class__", cc)], c⟩ f A outer s H E p) rest t ∧
        t { nx := fun _ H' => Q .non H', rt := Q } (startF N vs [none]) H) :
    FnH P w K mg base CX (k + 1) f (PySem.W.fnX name qual params (supSt msg j p0 p1 p2 p3 p4 p5 :: rest) scope [("__class__", cc)] dV kV doc pm an (.ref c) ct) ps sp := by
  refine ⟨len, fun A outer s H args us vs Q E p hr hot hpin e0 hb r hsp => ?_⟩
  have KX : K.In s.heap := e0.mod.kin.keeps fun b o e => (e0.bs b o e).1
  have hl := len _ _ _ _ hsp
  have cells := sup_cells Z e0
  obtain ⟨a, ws, rfl, ha, t, ht, hq⟩ := hbody A outer s H vs Q E p hot (hr.deeper _) hsp
  obtain ⟨hself, selfL⟩ := sup_self S hps r
  refine ks_codeAny_call_defAt (body := supSt msg j p0 p1 p2 p3 p4 p5 :: rest) hr.depth (KX _ _ lk) rfl (e0.mod.nolimit.keeps fun b o e => (e0.bs b o e).1) (codeRec_of KX hcd) rfl hb S.nocell (fun y hy => S.par y.1 (List.of_mem_zip (show (y.1, y.2) ∈ ps.zip us from hy)).1) (fun h₁ hns kp => ?_) S.co S.gen S.kind
  have e1 : Env0 P w K mg base { A with handled := none } outer s H := ⟨e0.frames, e0.mod, e0.bs, e0.bsz, e0.funs, e0.frf, e0.hok, e0.bare⟩
  have I1 : Inv (ncx CX P w K mg base N ⟨name, qual, params, supSt msg j p0 p1 p2 p3 p4 p5 :: rest, scope, [("__class__", cc)], c⟩ f { A with handled := none } outer s H E) [] (startF N (.ref a :: ws) [none]) H { s with heap := h₁, toks := s.toks + (ps.zip us).length } :=
    inv_startN (F := ⟨name, qual, params, supSt msg j p0 p1 p2 p3 p4 p5 :: rest, scope, [("__class__", cc)], c⟩) S rfl e1 hl r cells hns kp
  have I : Inv (ncxH CX P w K mg base N ⟨name, qual, params, supSt msg j p0 p1 p2 p3 p4 p5 :: rest, scope, [("__class__", cc)], c⟩ f A outer s H E p) [] (startF N (.ref a :: ws) [none]) H { s with heap := h₁, toks := s.toks + (ps.zip us).length } :=
    ⟨⟨I1.ok.mod, I1.ok.kind, I1.ok.glob, I1.ok.blt, I1.ok.above, I1.ok.inj, I1.ok.has, I1.ok.cab, fun z => Bool.noConfusion (show false = true from z), Around.frames_deeper e0.frames, .inr ⟨rfl, rfl⟩, I1.ok.exf, I1.ok.bs, I1.ok.bsz, I1.ok.noex, I1.ok.exfs, I1.ok.funs, I1.ok.frf⟩,
      I1.os, I1.bare, I1.base, I1.loc, I1.cell, I1.free, I1.freeC, fun q hq => by
        have eq : q = p := by simpa using (show q ∈ [p] ++ ([] : List (Addr × Obj)) from hq)
        rw [eq]
        exact ⟨kp _ _ hpin.get, hpin.free, Nat.ne_of_lt (Heap.lt_size hpin.get), hpin.nofs, hpin.nocell⟩, I1.hok, I1.len⟩
  obtain ⟨mb, hb1, hb2⟩ := e0.mod.blt
  have bk : ∀ b o, base.get? b = some o → h₁.get? b = some o := fun b o e => kp _ _ (e0.bs b o e).1
  refine super_core Z lk S hp hks he hsw (KX.keeps kp) hns hself selfL (e0.mod.glob.keeps bk) (hb1.keeps bk) hb2 I ha fun h' tk' J => ?_
  refine wpAny_mono (ht.run [] _ (startF N (.ref a :: ws) [none]) H _ J hq) (fun fl s' hs => ?_) fun e s' hs => hs
  cases fl with
  | ret u => obtain ⟨v, σ', H', J', rv, q⟩ := hs; exact ⟨v, H', J'.os, J'.bare, J'.base, J'.hok, rv, q⟩
  | next => obtain ⟨σ', H', J', q⟩ := hs; exact ⟨.non, H', J'.os, J'.bare, J'.base, J'.hok, rfl, q⟩
  | brk => obtain ⟨_, _, _, q⟩ := hs; exact q.elim
  | cont => obtain ⟨_, _, _, q⟩ := hs; exact q.elim
/-- such a def as it stands behind the top -/
structure SupFun (K : PySem.W.Frag) (x qual : Str) (st : Stmt) (c cc f : Addr) (fd : FuncData) : Prop where
  ex : ∃ (oc : Value) (od : Option Addr) (kV doc pm : Value) (an : Option Addr) (ct : Value) (osl : Array (Option Value)),
    fd = PySem.W.fnX x qual (defArgs st) (defBody st) (defScope st) [("__class__", cc)] .none kV doc pm an (.ref c) ct ∧ K.lookup f = some ⟨oc, od, .func fd, osl⟩ ∧ codeIn K (.ref c) qual = true
theorem SupFun.binds {x qual : Str} {st : Stmt} {fd : FuncData} (F : SupFun K x qual st c cc f fd)
    (h : ∀ (kV doc pm : Value) (an : Option Addr) (ct : Value) (us : List Value), us.length = ps.length → bindArgs (PySem.W.fnX x qual (defArgs st) (defBody st) (defScope st) [("__class__", cc)] .none kV doc pm an (.ref c) ct) ⟨us, []⟩ = pure (ps.zip us)) : Binds K fd ps [] := by
  obtain ⟨oc, od, kV, doc, pm, an, ct, osl, rfl, lk, hcd⟩ := F.ex
  refine fun s us X hl => BindsTo.of_eq ?_
  rw [List.append_nil] at hl ⊢
  exact h kV doc pm an ct us hl
end
section
open PyProof.Rows
/-- as Fun.ok, for a def that may raise, in whatever way it is told -/
theorem Fun.okC {P : Program} {w : World} {K : PySem.W.Frag} {mg : Str → Option Value} {base : Heap} {CX : CXT} {x qual : Str} {st : Stmt} {f : Addr} {fd : FuncData} {N ps : List Str} {k : Nat} {sp : Sp} (F : L2.Fun K x qual st f fd) (S : FnScope N ps (defScope st)) (len : ∀ vs H Q E, sp vs H Q E → vs.length = ps.length)
    (hbody : ∀ (cdv : Value) (A : Around) (outer : List Env) (s : Shared) (H : Hp) (vs : List V) (Q : VK) (E : XK), Room k (A.deeper (envOfC qual (defScope st) s.heap.objs.size f cdv)) → sp vs H Q E →
      ∃ t, PSs (cxOf CX P w K mg base N qual (defScope st) f cdv A outer s H E) (defBody st) t ∧ t { nx := fun _ H' => Q .non H', rt := Q } (start N vs) H) : FnOk P w K mg base CX (k + 1) f fd ps sp := by
  have ⟨oc, od, kV, doc, pm, an, cdv, ct, osl, e, lk, hcd⟩ := F.ex
  subst e
  exact fn_of lk hcd S len (hbody cdv)
/-- isinstance of a caught exception and its own class -/
def rIsX (K : PySem.W.Frag) (a : Addr) (cls : Value) : List V → Hp → VK → Prop := fun xs H Q => ∃ C, xs = [.ref a, .ref C] ∧ PySem.W.isIn K cls C = true ∧ Q (.bl true) H
theorem call_isX {X : Cx} {a : Addr} {oe : Obj} {cls : Value} {d : Option Addr} {pn : List (Addr × Obj)} (hz : Zc cls d oe) : CallR (X.suite a ((a, oe) :: pn)) (.builtin "isinstance") (rIsX X.K a cls) := by
  intro pins s σ H xs us Q I r h
  obtain ⟨C, rfl, e, q⟩ := h
  cases r with
  | cons rx rr =>
    cases rr with
    | cons rt rr =>
      cases rr
      cases rx
      cases rt
      have hget := (I.pin (a, oe) (List.mem_append.mpr (.inl List.mem_cons_self))).1
      exact PySem.W.isi_call I.kIn (fun M => hz.1 ▸ (PySem.W.Looks.ld hget).andThen .now) e (fun z => nomatch z) ⟨.bl true, H, I, rfl, q⟩
end
end Sk

namespace Sk
open PySem L2
/-! ### sides and their images: the plain side -/
/-- a block whose octets can be read again -/
structure BlkX (L : Lay) (b : Blk) : Prop where
  full : Full L b
  k5 : b.kind ≤ 5
  s0 : 0 ≤ b.seq
  s1 : b.seq < 281474976710656
  p0 : 0 ≤ b.place
  p1 : b.place < 65536
def CellX (L : Lay) : Cell → Prop
  | none => True
  | some (b, k) => (∀ x, b = some x → BlkX L x) ∧ 0 ≤ k ∧ k < 4294967296
theorem blkOk_of {L : Lay} (hL : L.Ok) {b : Option Blk} (h : ∀ x, b = some x → BlkX L x) : BlkOk b := by
  cases b with
  | none => trivial
  | some x =>
    have o1 := hL.o1
    have hf := (h x rfl).full
    refine ⟨hf.k, ?_⟩
    by_cases e3 : x.kind = 3
    · have := hf.d e3; omega
    · have := hf.p e3; omega
theorem fullO_of {L : Lay} {b : Option Blk} (h : ∀ x, b = some x → BlkX L x) : FullO L b := by
  cases b with
  | none => trivial
  | some x => exact (h x rfl).full
theorem octs_len {L : Lay} (hL : L.Ok) {b : Option Blk} (h : ∀ x, b = some x → BlkX L x) : ((octs L b).length : Int) = 16 + L.oct := by
  have o1 := hL.o1
  cases b with
  | none => rw [octs, List.length_replicate]; omega
  | some x =>
    have hf := (h x rfl).full
    rw [octs_full hf, List.length_append, headOf_len]
    unfold found
    split
    · have := hf.d (by assumption); omega
    · have := hf.p (by assumption); rw [pairs_len]; omega
def cellOcts (L : Lay) : Cell → List Int
  | none => List.replicate (1 + 16 + L.oct + 4).toNat 0
  | some (b, k) => 1 :: (octs L b ++ lows k 4)
theorem cellOcts_len {L : Lay} (hL : L.Ok) {c : Cell} (h : CellX L c) : ((cellOcts L c).length : Int) = 21 + L.oct := by
  have o1 := hL.o1
  rcases c with _ | ⟨b, k⟩
  · rw [cellOcts, List.length_replicate]; omega
  · have := octs_len hL h.1
    rw [cellOcts, List.length_cons, List.length_append, lows_len]
    omega
def headOct (L : Lay) (seat : Int) : List Int := ([83, 73, 68, 69] ++ [2, seat, L.seg, L.blk]) ++ lows L.oct 2 ++ List.replicate 6 0
theorem headOct_len (L : Lay) (seat : Int) : (headOct L seat).length = 16 := by unfold headOct; simp
def cellsOcts (L : Lay) (cs : List Cell) : List Int := cs.flatMap (cellOcts L)
def imageOf (L : Lay) (seat : Int) (cs : List Cell) : List Int := headOct L seat ++ cellsOcts L cs
theorem cellsOcts_snoc (L : Lay) (cs : List Cell) (c : Cell) : cellsOcts L (cs ++ [c]) = cellsOcts L cs ++ cellOcts L c := by
  unfold cellsOcts
  rw [List.flatMap_append]
  simp
theorem cellsOcts_len {L : Lay} (hL : L.Ok) : ∀ {cs : List Cell}, (∀ c ∈ cs, CellX L c) → ((cellsOcts L cs).length : Int) = cs.length * (21 + L.oct)
  | [], _ => by simp [cellsOcts]
  | c :: r, h => by
    have ih := cellsOcts_len hL (cs := r) fun x hx => h x (List.mem_cons_of_mem _ hx)
    have hc := cellOcts_len hL (h c List.mem_cons_self)
    have e : cellsOcts L (c :: r) = cellOcts L c ++ cellsOcts L r := rfl
    rw [e, List.length_append, List.length_cons]
    push_cast
    rw [ih, hc, Int.add_mul, Int.one_mul]
    omega
/-! reading numbers again -/
theorem numOf_lows : ∀ (k : Nat) (n : Int), 0 ≤ n → n < 256 ^ k → numOf (lows n k) = n
  | 0, n, h0, h1 => by
    rw [Int.pow_zero] at h1
    rw [lows, numOf]; omega
  | k + 1, n, h0, h1 => by
    rw [lows, numOf, numOf_lows k (n / 256) (by omega) (by
      rw [Int.pow_succ] at h1
      exact Int.ediv_lt_of_lt_mul (by decide) h1)]
    omega
def halves (o : List Int) : List Int := (List.range (o.length / 2)).map fun (k : Nat) => o.getD (2 * k) 0 + 256 * o.getD (2 * k + 1) 0
theorem halves_pairs : ∀ l : List Int, halves (pairs l) = l
  | [] => rfl
  | n :: r => by
    have ih := halves_pairs r
    unfold halves at ih ⊢
    rw [pairs_len] at ih
    rw [pairs_len, List.length_cons, show 2 * (r.length + 1) / 2 = r.length + 1 by omega, List.range_succ_eq_map, List.map_cons, List.map_map]
    have e0 : (pairs (n :: r)).getD (2 * 0) 0 + 256 * (pairs (n :: r)).getD (2 * 0 + 1) 0 = n := by
      show n % 256 + 256 * (n / 256) = n
      omega
    rw [e0]
    congr 1
    rw [show 2 * r.length / 2 = r.length by omega] at ih
    refine Eq.trans (List.map_congr_left fun k _ => ?_) ih
    show (pairs (n :: r)).getD (2 * (k + 1)) 0 + 256 * (pairs (n :: r)).getD (2 * (k + 1) + 1) 0 = _
    rw [show 2 * (k + 1) = 2 * k + 1 + 1 by omega, pairs, List.getD_cons_succ, List.getD_cons_succ, List.getD_cons_succ, List.getD_cons_succ]
/-! devices and sides as objects -/
def DevAt (C : Addr) (H : Hp) (d a l1 l2 l3 : Addr) : Prop := ∃ dx, H d = some (.ins C dx [("layout", .ref a), ("sure", .ref l1), ("seen", .ref l2), ("waiting", .ref l3), ("fuse", .non), ("dark", .bl false)])
def SideIn (C : Addr) (H : Hp) (s a : Addr) (seat : Int) (d : Addr) : Prop := ∃ dx, H s = some (.ins C dx [("layout", .ref a), ("seat", .int seat), ("device", .ref d)])
theorem DevAt.mono {C : Addr} {H H' : Hp} {d a l1 l2 l3 : Addr} (h : DevAt C H d a l1 l2 l3) (s : Same H H') : DevAt C H' d a l1 l2 l3 := let ⟨dx, e⟩ := h; ⟨dx, s _ _ e⟩
theorem SideIn.mono {C : Addr} {H H' : Hp} {s a d : Addr} {seat : Int} (h : SideIn C H s a seat d) (x : Same H H') : SideIn C H' s a seat d := let ⟨dx, e⟩ := h; ⟨dx, x _ _ e⟩
end Sk

namespace Sk
open PySem L2
local macro_rules | `(tactic| fail "ne") => `(tactic| first
  | assumption
  | exact Ne.symm (by assumption)
  | exact Free.ne (by with_reducible assumption) (by fail "hp")
  | exact Ne.symm (Free.ne (by with_reducible assumption) (by fail "hp")))
local macro_rules | `(tactic| fail "rp") => `(tactic| first
  | assumption
  | exact Gr.rr (by assumption) _ _ (by fail "rp"))
local macro_rules | `(tactic| fail "nm") => `(tactic| first
  | exact List.not_mem_nil
  | (rw [List.mem_singleton]; fail "ne")
  | (simp only [List.mem_cons, List.not_mem_nil, not_or, or_false]; (repeat' constructor) <;> fail "ne"))
local macro_rules | `(tactic| fail "hp") => `(tactic| first
  | assumption
  | (with_reducible exact upd_same)
  | ((with_reducible show upd _ _ _ _ = _); refine Eq.trans (upd_ne ?_) ?_; (fail "ne"); (fail "hp"))
  | exact (show Same _ _ by assumption) _ _ (by fail "rp")
  | exact Gr.hh (by assumption) _ _ (by fail "nm") (by fail "hp")
  | exact Gr.hh (Mu.g (by assumption)) _ _ (by fail "nm") (by fail "hp"))
local macro_rules | `(tactic| fail "sr") => `(tactic| first
  | assumption
  | exact SqL.of (by assumption)
  | exact SqT.of (by assumption)
  | exact sqL_mono (Gr.rr (by assumption)) (by fail "sr")
  | exact sqT_mono (Gr.rr (by assumption)) (by fail "sr"))
local macro_rules | `(tactic| fail "sq") => `(tactic| first
  | assumption
  | exact SqL.of (by fail "hp")
  | exact SqT.of (by fail "hp")
  | exact sqL_mono (show Same _ _ by assumption) (by fail "sr")
  | exact sqT_mono (show Same _ _ by assumption) (by fail "sr"))
local macro_rules | `(tactic| fail "dr") => `(tactic| first
  | assumption
  | ((with_reducible show DpAll _ _ _ _); first
    | exact DpAll.nil
    | (refine DpAll.cons ?_ ?_ <;> fail "dr")
    | exact dpAll_mono (Gr.rr (by assumption)) (by fail "dr"))
  | ((with_reducible show Dp _ _ _ _); first
    | exact Dp.non
    | exact Dp.int _
    | exact Dp.str _
    | exact Dp.bl _
    | exact Dp.tup (SqT.of (by fail "rp")) (by fail "dr")
    | exact Dp.lst (SqL.of (by fail "rp")) (by fail "dr")
    | exact dp_mono (Gr.rr (by assumption)) (by fail "dr")))
local macro_rules | `(tactic| fail "dp") => `(tactic| first
  | assumption
  | ((with_reducible show DpAll _ _ _ _); exact dpAll_mono (show Same _ _ by assumption) (by fail "dr"))
  | ((with_reducible show Dp _ _ _ _); first
    | exact Dp.non
    | exact Dp.int _
    | exact Dp.str _
    | exact Dp.bl _
    | exact dp_mono (show Same _ _ by assumption) (by fail "dr")))
local macro_rules | `(tactic| fail "gr") => `(tactic| first
  | assumption
  | exact Gr.nil (by assumption)
  | exact Mu.g (by assumption)
  | exact Gr.nil (Mu.g (by assumption))
  | (refine Gr.trans ?_ (by first | assumption | exact Gr.nil (by assumption) | exact Mu.g (by assumption) | exact Gr.nil (Mu.g (by assumption))); fail "gr")
  | exact Gr.refl (by assumption))
local macro_rules | `(tactic| fail "rn") => `(tactic| first
  | assumption
  | exact Gr.frI (by assumption) (by fail "hp") (by fail "rn"))
local macro_rules | `(tactic| fail "newR") => `(tactic| (
  intro p n; generalize hq : upd _ p _ = H1; have z := newR_ex (by assumption) n hq; obtain ⟨R1, f, g, h, s⟩ := z; clear hq n))
local macro_rules | `(tactic| fail "newM") => `(tactic| (
  intro p n; generalize hq : upd _ p _ = H1; have z := newM_ex (by assumption) n hq; obtain ⟨f, g, m, h, s⟩ := z; clear hq n))
local macro_rules | `(tactic| fail "ret") => `(tactic| (
  intro p H1 sk n h; have z := call_ex (by assumption) sk n; obtain ⟨f, g, m, s⟩ := z; clear sk n))
local macro_rules | `(tactic| fail "mut") => `(tactic| (
  generalize hq : upd _ _ _ = H1; have z := mut_ex (by assumption) (by fail "rn") (by fail "hp") hq; obtain ⟨g, h, s⟩ := z; clear hq))
local macro_rules | `(tactic| fail "ar") => `(tactic| first
  | assumption
  | decide
  | omega
  | exact Or.inr ⟨by decide, by decide⟩
  | exact Or.inl ⟨by decide, by decide⟩
  | exact ⟨by decide, by decide, by decide⟩
  | exact ⟨by omega, by omega⟩
  | exact Or.inr ⟨by omega, by omega⟩
  | exact Or.inl ⟨by omega, by omega⟩)
local macro_rules | `(tactic| fail "st") => `(tactic| first
  | (with_reducible refine g_seqA ?_)
  | (with_reducible refine g_seqI ?_)
  | (with_reducible refine g_seqFor ?_)
  | (with_reducible refine g_seqD ?_)
  | (with_reducible refine g_seqS ?_)
  | (with_reducible refine g_seq ?_)
  | (with_reducible refine g_asg ?_)
  | (with_reducible refine g_asgS ?_)
  | (with_reducible refine g_drop ?_)
  | (with_reducible refine g_if ?_)
  | (with_reducible refine g_ret ?_)
  | (with_reducible refine g_retN ?_)
  | (with_reducible refine g_next ?_)
  | (with_reducible refine g_op ?_)
  | (with_reducible refine g_un ?_)
  | (with_reducible refine g_c ?_)
  | ((with_reducible show tVar _ _ _ _); refine g_var rfl ?_)
  | (with_reducible refine g_add ?_)
  | (with_reducible refine g_sub ?_)
  | (with_reducible refine g_neg ?_)
  | (with_reducible refine g_cmp ?_)
  | (with_reducible refine g_eqI ?_)
  | (with_reducible refine g_eqS ?_)
  | (with_reducible refine g_neI ?_)
  | (with_reducible refine g_neS ?_)
  | (with_reducible refine g_isN ?_)
  | (with_reducible refine g_notN ?_)
  | (with_reducible refine g_isB ?_)
  | (with_reducible refine g_notB ?_)
  | ((with_reducible refine g_mul ?_ ?_); (fail "ar"))
  | ((with_reducible refine g_mod ?_ ?_); (fail "ar"))
  | ((with_reducible refine g_div ?_ ?_); (fail "ar"))
  | ((with_reducible refine g_pow ?_ ?_); (fail "ar"))
  | (with_reducible refine g_nil ?_)
  | (with_reducible refine g_cons ?_)
  | (with_reducible refine g_cb ?_)
  | (with_reducible refine g_tup ?_)
  | (with_reducible refine g_lst ?_)
  | (with_reducible refine g_test ?_)
  | (with_reducible refine g_tB ?_)
  | (with_reducible refine g_yes ?_)
  | (with_reducible refine g_truth ?_)
  | (with_reducible refine g_bl ?_)
  | (with_reducible refine g_not ?_)
  | (with_reducible refine g_and ?_)
  | (with_reducible refine g_or ?_)
  | (with_reducible refine g_ife ?_)
  | (with_reducible refine g_andV ?_)
  | (with_reducible refine g_orV ?_)
  | (with_reducible refine g_notV ?_)
  | (with_reducible refine g_int ?_)
  | (with_reducible refine g_intB ?_)
  | (with_reducible refine g_for ?_)
  | (with_reducible refine g_gName ?_)
  | (with_reducible refine g_call ?_)
  | ((with_reducible show tCallS _ _ _ _ _ _); unfold tCallS)
  | (with_reducible refine g_lc ?_)
  | (with_reducible refine g_iList ?_)
  | (with_reducible refine g_iTup ?_)
  | (with_reducible refine g_seqT ?_)
  | (with_reducible refine g_asgT ?_)
  | (with_reducible refine g_gCons ?_)
  | (with_reducible refine g_gNil ?_)
  | ((with_reducible show gTup _ _ _ (.ref _) _ _ _); refine g_gTup (by fail "sq") (by exact rfl) ?_)
  | (with_reducible refine g_iR1 ?_)
  | (with_reducible refine g_iR2 ?_)
  | (with_reducible refine g_iEnum ?_)
  | (with_reducible refine g_iRev ?_)
  | (with_reducible refine g_iteT rfl ?_)
  | (with_reducible refine g_iteF rfl ?_)
  | (with_reducible refine g_sl ?_)
  | (with_reducible refine g_part ?_)
  | (with_reducible refine g_partW ?_)
  | (with_reducible refine g_noPart ?_)
  | (with_reducible refine g_fld ?_)
  | (with_reducible refine g_seqF ?_)
  | (with_reducible refine g_sfld ?_)
  | (with_reducible refine g_bm ?_)
  | (with_reducible refine g_bm0 ?_)
  | (with_reducible refine g_meth ?_)
  | (with_reducible refine g_make ?_)
  | ((with_reducible show FldW _ (.ref _) _ _ _); refine g_fldW (by fail "hp") (by assumption) (by assumption) (by rfl) ?_)
  | ((with_reducible show MW _ _ (.ref _) _ _); refine g_MW (by fail "hp") (by rfl) ?_)
  | ((with_reducible show SetW _ (.ref _) _ _ _ _); refine g_setW (by fail "hp") (by assumption) (by assumption) (by (simp only [List.length_cons, List.length_nil]; decide)) ?_; fail "putf"; try fail "mut")
  | ((with_reducible show tyV _ "list" (.ref _) _ ∧ _); refine g_tyL (by fail "hp") ?_)
  | ((with_reducible show rAppend (.ref _) [_] _ _); refine g_app (by fail "hp") (by fail "sz") ?_; try fail "mut")
  | ((with_reducible show rLenU _ [_] _ _); first | refine g_lenL (by fail "sq") ?_ | refine g_lenT (by fail "sq") ?_)
  | ((with_reducible first | show rIx _ _ (.int (@OfNat.ofNat Int _ _)) _ _ | show rIx _ _ (.int (-(@OfNat.ofNat Int _ _))) _ _); first | refine g_ixL (by fail "sq") (by exact rfl) ?_ | refine g_ixT (by fail "sq") (by exact rfl) ?_)
  | ((with_reducible show rSetL _ _ _ _ _); refine g_setL (by fail "hp") (by first | exact rfl | assumption) ?_)
  | (dsimp only))
local macro_rules | `(tactic| fail "gi") => `(tactic| repeat ((fail_if_success (with_reducible show tSeq (tIfS _ _ _) _ _ _ _)); fail "st"))
local macro_rules | `(tactic| fail "go") => `(tactic| repeat (fail "st"))
local macro_rules | `(tactic| fail "st") => `(tactic| (fail "calls"))
local macro_rules | `(tactic| fail "sz") => `(tactic| first
  | assumption
  | decide
  | (refine Nat.le_trans (m := 1000) ?_ (by decide); (first | omega | (simp only [List.length_cons, List.length_nil]; omega) | (simp; omega) | simp))
  | (refine Nat.lt_of_le_of_lt (m := 1000) ?_ (by decide); (first | omega | (simp only [List.length_cons, List.length_nil]; omega) | (simp; omega) | simp)))

def topS (i : Nat) : Stmt := PySem.Challenge.pw_sidekeep_k09_images_of_sides.main.body.getD i (.Pass ⟨0, 0, 0, 0⟩)
abbrev s__law_number : Stmt := (topS 61)
abbrev N__law_number : List Str := ["script", "k", "cell", "first", "second"]
theorem sc__law_number : FnScope N__law_number ["script", "k"] (defScope s__law_number) := ⟨rfl, rfl, rfl, by decide +kernel, rfl, by decide +kernel, by decide +kernel⟩
abbrev s__law_take : Stmt := (topS 62)
abbrev N__law_take : List Str := ["box", "size", "digit"]
theorem sc__law_take : FnScope N__law_take ["box", "size"] (defScope s__law_take) := ⟨rfl, rfl, rfl, by decide +kernel, rfl, by decide +kernel, by decide +kernel⟩
abbrev s_parts_of : Stmt := (topS 13)
abbrev N_parts_of : List Str := ["number", "size"]
theorem sc_parts_of : FnScope N_parts_of ["number", "size"] (defScope s_parts_of) := ⟨rfl, rfl, rfl, by decide +kernel, rfl, by decide +kernel, by decide +kernel⟩
abbrev s_Layout___init__ : Stmt := (inClass (topS 12) 0)
abbrev N_Layout___init__ : List Str := ["self", "segments", "segment_blocks", "block_size", "numbers"]
theorem sc_Layout___init__ : FnScope N_Layout___init__ ["self", "segments", "segment_blocks", "block_size"] (defScope s_Layout___init__) := ⟨rfl, rfl, rfl, by decide +kernel, rfl, by decide +kernel, by decide +kernel⟩
abbrev s__law_layout : Stmt := (topS 63)
abbrev N__law_layout : List Str := ["box", "sizes"]
theorem sc__law_layout : FnScope N__law_layout ["box"] (defScope s__law_layout) := ⟨rfl, rfl, rfl, by decide +kernel, rfl, by decide +kernel, by decide +kernel⟩
abbrev s_Device___init__ : Stmt := (inClass (topS 41) 0)
abbrev N_Device___init__ : List Str := ["self", "layout", "blocks"]
theorem sc_Device___init__ : FnScope N_Device___init__ ["self", "layout", "blocks"] (defScope s_Device___init__) := ⟨rfl, rfl, rfl, by decide +kernel, rfl, by decide +kernel, by decide +kernel⟩
abbrev s_Side___init__ : Stmt := (inClass (topS 49) 0)
abbrev N_Side___init__ : List Str := ["self", "layout", "seat", "cells"]
theorem sc_Side___init__ : FnScope N_Side___init__ ["self", "layout", "seat", "cells"] (defScope s_Side___init__) := ⟨rfl, rfl, rfl, by decide +kernel, rfl, by decide +kernel, by decide +kernel⟩
abbrev s__law_block : Stmt := (topS 65)
abbrev N__law_block : List Str := ["layout", "box", "kind", "sequence", "first", "step", "body", "k"]
theorem sc__law_block : FnScope N__law_block ["layout", "box"] (defScope s__law_block) := ⟨rfl, rfl, rfl, by decide +kernel, rfl, by decide +kernel, by decide +kernel⟩
abbrev s__law_low : Stmt := (topS 64)
abbrev N__law_low : List Str := ["number", "count", "octets", "k"]
theorem sc__law_low : FnScope N__law_low ["number", "count"] (defScope s__law_low) := ⟨rfl, rfl, rfl, by decide +kernel, rfl, by decide +kernel, by decide +kernel⟩
abbrev s__law_octets : Stmt := (topS 66)
abbrev N__law_octets : List Str := ["layout", "block", "octets", "number"]
theorem sc__law_octets : FnScope N__law_octets ["layout", "block"] (defScope s__law_octets) := ⟨rfl, rfl, rfl, by decide +kernel, rfl, by decide +kernel, by decide +kernel⟩
abbrev s__law_check : Stmt := (topS 67)
abbrev N__law_check : List Str := ["layout", "address", "block", "total", "octet"]
theorem sc__law_check : FnScope N__law_check ["layout", "address", "block"] (defScope s__law_check) := ⟨rfl, rfl, rfl, by decide +kernel, rfl, by decide +kernel, by decide +kernel⟩
abbrev s__law_sealed : Stmt := (topS 68)
abbrev N__law_sealed : List Str := ["layout", "address", "block"]
theorem sc__law_sealed : FnScope N__law_sealed ["layout", "address", "block"] (defScope s__law_sealed) := ⟨rfl, rfl, rfl, by decide +kernel, rfl, by decide +kernel, by decide +kernel⟩
abbrev s__law_cell : Stmt := (topS 69)
abbrev N__law_cell : List Str := ["layout", "address", "box", "check", "block", "kind"]
theorem sc__law_cell : FnScope N__law_cell ["layout", "address", "box"] (defScope s__law_cell) := ⟨rfl, rfl, rfl, by decide +kernel, rfl, by decide +kernel, by decide +kernel⟩
abbrev s_Device__count_command : Stmt := (inClass (topS 41) 12)
abbrev N_Device__count_command : List Str := ["self"]
theorem sc_Device__count_command : FnScope N_Device__count_command ["self"] (defScope s_Device__count_command) := ⟨rfl, rfl, rfl, by decide +kernel, rfl, by decide +kernel, by decide +kernel⟩
abbrev s_Device_write : Stmt := (inClass (topS 41) 2)
abbrev N_Device_write : List Str := ["self", "address", "block"]
theorem sc_Device_write : FnScope N_Device_write ["self", "address", "block"] (defScope s_Device_write) := ⟨rfl, rfl, rfl, by decide +kernel, rfl, by decide +kernel, by decide +kernel⟩
abbrev s_number_octets : Stmt := (topS 19)
abbrev N_number_octets : List Str := ["number", "count", "found", "_"]
theorem sc_number_octets : FnScope N_number_octets ["number", "count"] (defScope s_number_octets) := ⟨rfl, rfl, rfl, by decide +kernel, rfl, by decide +kernel, by decide +kernel⟩
abbrev s_summary_octets : Stmt := (topS 30)
abbrev N_summary_octets : List Str := ["layout", "mark", "numbers", "action", "header"]
theorem sc_summary_octets : FnScope N_summary_octets ["layout", "mark", "numbers", "action"] (defScope s_summary_octets) := ⟨rfl, rfl, rfl, by decide +kernel, rfl, by decide +kernel, by decide +kernel⟩
abbrev s_bits_of : Stmt := (topS 28)
abbrev N_bits_of : List Str := ["used", "last_id", "octets", "number"]
theorem sc_bits_of : FnScope N_bits_of ["used", "last_id"] (defScope s_bits_of) := ⟨rfl, rfl, rfl, by decide +kernel, rfl, by decide +kernel, by decide +kernel⟩
abbrev s_pairs_of : Stmt := (topS 21)
abbrev N_pairs_of : List Str := ["numbers", "found", "number"]
theorem sc_pairs_of : FnScope N_pairs_of ["numbers"] (defScope s_pairs_of) := ⟨rfl, rfl, rfl, by decide +kernel, rfl, by decide +kernel, by decide +kernel⟩
abbrev s_body_octets : Stmt := (topS 31)
abbrev N_body_octets : List Str := ["layout", "kind", "body", "found"]
theorem sc_body_octets : FnScope N_body_octets ["layout", "kind", "body"] (defScope s_body_octets) := ⟨rfl, rfl, rfl, by decide +kernel, rfl, by decide +kernel, by decide +kernel⟩
abbrev s_block_octets : Stmt := (topS 35)
abbrev N_block_octets : List Str := ["layout", "block", "kind", "sequence", "place", "body", "spare"]
theorem sc_block_octets : FnScope N_block_octets ["layout", "block"] (defScope s_block_octets) := ⟨rfl, rfl, rfl, by decide +kernel, rfl, by decide +kernel, by decide +kernel⟩
abbrev s_check_of : Stmt := (topS 45)
abbrev N_check_of : List Str := ["layout", "address", "block", "total", "octet"]
theorem sc_check_of : FnScope N_check_of ["layout", "address", "block"] (defScope s_check_of) := ⟨rfl, rfl, rfl, by decide +kernel, rfl, by decide +kernel, by decide +kernel⟩
abbrev s_sealed : Stmt := (topS 46)
abbrev N_sealed : List Str := ["layout", "address", "block"]
theorem sc_sealed : FnScope N_sealed ["layout", "address", "block"] (defScope s_sealed) := ⟨rfl, rfl, rfl, by decide +kernel, rfl, by decide +kernel, by decide +kernel⟩
abbrev s_Side_write : Stmt := (inClass (topS 49) 3)
abbrev N_Side_write : List Str := ["self", "address", "block"]
theorem sc_Side_write : FnScope N_Side_write ["self", "address", "block"] (defScope s_Side_write) := ⟨rfl, rfl, rfl, by decide +kernel, rfl, by decide +kernel, by decide +kernel⟩
abbrev s_side_head : Stmt := (topS 56)
abbrev N_side_head : List Str := ["layout", "seat", "head"]
theorem sc_side_head : FnScope N_side_head ["layout", "seat"] (defScope s_side_head) := ⟨rfl, rfl, rfl, by decide +kernel, rfl, by decide +kernel, by decide +kernel⟩
abbrev s_cell_size : Stmt := (topS 53)
abbrev N_cell_size : List Str := ["layout"]
theorem sc_cell_size : FnScope N_cell_size ["layout"] (defScope s_cell_size) := ⟨rfl, rfl, rfl, by decide +kernel, rfl, by decide +kernel, by decide +kernel⟩
abbrev s_cell_octets : Stmt := (topS 54)
abbrev N_cell_octets : List Str := ["layout", "cell"]
theorem sc_cell_octets : FnScope N_cell_octets ["layout", "cell"] (defScope s_cell_octets) := ⟨rfl, rfl, rfl, by decide +kernel, rfl, by decide +kernel, by decide +kernel⟩
abbrev s_Device_read : Stmt := (inClass (topS 41) 1)
abbrev N_Device_read : List Str := ["self", "address"]
theorem sc_Device_read : FnScope N_Device_read ["self", "address"] (defScope s_Device_read) := ⟨rfl, rfl, rfl, by decide +kernel, rfl, by decide +kernel, by decide +kernel⟩
abbrev s_write_side : Stmt := (topS 57)
abbrev N_write_side : List Str := ["side", "found", "address"]
theorem sc_write_side : FnScope N_write_side ["side"] (defScope s_write_side) := ⟨rfl, rfl, rfl, by decide +kernel, rfl, by decide +kernel, by decide +kernel⟩
abbrev s_number_of : Stmt := (topS 20)
abbrev N_number_of : List Str := ["octets", "total", "octet"]
theorem sc_number_of : FnScope N_number_of ["octets"] (defScope s_number_of) := ⟨rfl, rfl, rfl, by decide +kernel, rfl, by decide +kernel, by decide +kernel⟩
abbrev s_layout_of_side : Stmt := (topS 58)
abbrev N_layout_of_side : List Str := ["octets", "layout", "size"]
theorem sc_layout_of_side : FnScope N_layout_of_side ["octets"] (defScope s_layout_of_side) := ⟨rfl, rfl, rfl, by decide +kernel, rfl, by decide +kernel, by decide +kernel⟩
abbrev s_numbers_of : Stmt := (topS 22)
abbrev N_numbers_of : List Str := ["octets", "found", "k"]
theorem sc_numbers_of : FnScope N_numbers_of ["octets"] (defScope s_numbers_of) := ⟨rfl, rfl, rfl, by decide +kernel, rfl, by decide +kernel, by decide +kernel⟩
abbrev s_used_of : Stmt := (topS 29)
abbrev N_used_of : List Str := ["octets", "last_id", "found", "number"]
theorem sc_used_of : FnScope N_used_of ["octets", "last_id"] (defScope s_used_of) := ⟨rfl, rfl, rfl, by decide +kernel, rfl, by decide +kernel, by decide +kernel⟩
abbrev s_read_body : Stmt := (topS 32)
abbrev N_read_body : List Str := ["layout", "kind", "octets", "count", "numbers", "bits"]
theorem sc_read_body : FnScope N_read_body ["layout", "kind", "octets"] (defScope s_read_body) := ⟨rfl, rfl, rfl, by decide +kernel, rfl, by decide +kernel, by decide +kernel⟩
abbrev s_read_block : Stmt := (topS 36)
abbrev N_read_block : List Str := ["layout", "octets", "kind", "body", "block"]
theorem sc_read_block : FnScope N_read_block ["layout", "octets"] (defScope s_read_block) := ⟨rfl, rfl, rfl, by decide +kernel, rfl, by decide +kernel, by decide +kernel⟩
abbrev s_read_cell : Stmt := (topS 55)
abbrev N_read_cell : List Str := ["layout", "octets", "end"]
theorem sc_read_cell : FnScope N_read_cell ["layout", "octets"] (defScope s_read_cell) := ⟨rfl, rfl, rfl, by decide +kernel, rfl, by decide +kernel, by decide +kernel⟩
abbrev s_read_side : Stmt := (topS 59)
abbrev N_read_side : List Str := ["octets", "layout", "size", "cells", "address", "first"]
theorem sc_read_side : FnScope N_read_side ["octets"] (defScope s_read_side) := ⟨rfl, rfl, rfl, by decide +kernel, rfl, by decide +kernel, by decide +kernel⟩
abbrev s_Device_sure_blocks : Stmt := (inClass (topS 41) 7)
abbrev N_Device_sure_blocks : List Str := ["self"]
theorem sc_Device_sure_blocks : FnScope N_Device_sure_blocks ["self"] (defScope s_Device_sure_blocks) := ⟨rfl, rfl, rfl, by decide +kernel, rfl, by decide +kernel, by decide +kernel⟩
abbrev s_Device_was_cut : Stmt := (inClass (topS 41) 5)
abbrev N_Device_was_cut : List Str := ["self"]
theorem sc_Device_was_cut : FnScope N_Device_was_cut ["self"] (defScope s_Device_was_cut) := ⟨rfl, rfl, rfl, by decide +kernel, rfl, by decide +kernel, by decide +kernel⟩
abbrev s_Device_pending : Stmt := (inClass (topS 41) 6)
abbrev N_Device_pending : List Str := ["self"]
theorem sc_Device_pending : FnScope N_Device_pending ["self"] (defScope s_Device_pending) := ⟨rfl, rfl, rfl, by decide +kernel, rfl, by decide +kernel, by decide +kernel⟩
abbrev s_Side_pending : Stmt := (inClass (topS 49) 5)
abbrev N_Side_pending : List Str := ["self"]
theorem sc_Side_pending : FnScope N_Side_pending ["self"] (defScope s_Side_pending) := ⟨rfl, rfl, rfl, by decide +kernel, rfl, by decide +kernel, by decide +kernel⟩
abbrev s__law_reads : Stmt := (topS 72)
abbrev N__law_reads : List Str := ["octets", "layout", "seat", "cells", "side", "sizes"]
theorem sc__law_reads : FnScope N__law_reads ["octets", "layout", "seat", "cells"] (defScope s__law_reads) := ⟨rfl, rfl, rfl, by decide +kernel, rfl, by decide +kernel, by decide +kernel⟩
abbrev s__law_image : Stmt := (topS 70)
abbrev N__law_image : List Str := ["layout", "seat", "cells", "octets", "cell"]
theorem sc__law_image : FnScope N__law_image ["layout", "seat", "cells"] (defScope s__law_image) := ⟨rfl, rfl, rfl, by decide +kernel, rfl, by decide +kernel, by decide +kernel⟩
abbrev s_InvalidImage___init__ : Stmt := (inClass (topS 4) 0)
abbrev N_InvalidImage___init__ : List Str := ["self", "part", "fault", "number", "__class__"]
theorem sc_InvalidImage___init__ : NdefX.NScope N_InvalidImage___init__ ["self", "part", "fault", "number"] ["__class__"] (defScope s_InvalidImage___init__) := NdefX.nscope_by (by decide +kernel)
abbrev s__law_refuses : Stmt := (topS 71)
abbrev N__law_refuses : List Str := ["octets", "passed", "e"]
theorem sc__law_refuses : FnScope N__law_refuses ["octets"] (defScope s__law_refuses) := ⟨rfl, rfl, rfl, by decide +kernel, rfl, by decide +kernel, by decide +kernel⟩
abbrev s_law : Stmt := (topS 73)
abbrev N_law : List Str := ["script", "box", "layout", "seat", "cells", "side", "k", "inner", "address", "block", "octets", "at", "changed"]
theorem sc_law : FnScope N_law ["script"] (defScope s_law) := ⟨rfl, rfl, rfl, by decide +kernel, rfl, by decide +kernel, by decide +kernel⟩
theorem putI_Layout_segments {y : V} : putF "segments" y ([] : List (Str × V)) = ([(("segments" : Str), y)] : List (Str × V)) := by rfl
theorem putU_Layout_segments {v0 v1 v2 v3 v4 v5 v6 v7 v8 y : V} : putF "segments" y ([(("segments" : Str), v0), (("segment_blocks" : Str), v1), (("block_size" : Str), v2), (("payload" : Str), v3), (("limit" : Str), v4), (("last_id" : Str), v5), (("fan" : Str), v6), (("region_blocks" : Str), v7), (("device_blocks" : Str), v8)] : List (Str × V)) = ([(("segments" : Str), y), (("segment_blocks" : Str), v1), (("block_size" : Str), v2), (("payload" : Str), v3), (("limit" : Str), v4), (("last_id" : Str), v5), (("fan" : Str), v6), (("region_blocks" : Str), v7), (("device_blocks" : Str), v8)] : List (Str × V)) := by rfl
theorem putI_Layout_segment_blocks {v0 y : V} : putF "segment_blocks" y ([(("segments" : Str), v0)] : List (Str × V)) = ([(("segments" : Str), v0), (("segment_blocks" : Str), y)] : List (Str × V)) := by rfl
theorem putU_Layout_segment_blocks {v0 v1 v2 v3 v4 v5 v6 v7 v8 y : V} : putF "segment_blocks" y ([(("segments" : Str), v0), (("segment_blocks" : Str), v1), (("block_size" : Str), v2), (("payload" : Str), v3), (("limit" : Str), v4), (("last_id" : Str), v5), (("fan" : Str), v6), (("region_blocks" : Str), v7), (("device_blocks" : Str), v8)] : List (Str × V)) = ([(("segments" : Str), v0), (("segment_blocks" : Str), y), (("block_size" : Str), v2), (("payload" : Str), v3), (("limit" : Str), v4), (("last_id" : Str), v5), (("fan" : Str), v6), (("region_blocks" : Str), v7), (("device_blocks" : Str), v8)] : List (Str × V)) := by rfl
theorem putI_Layout_block_size {v0 v1 y : V} : putF "block_size" y ([(("segments" : Str), v0), (("segment_blocks" : Str), v1)] : List (Str × V)) = ([(("segments" : Str), v0), (("segment_blocks" : Str), v1), (("block_size" : Str), y)] : List (Str × V)) := by rfl
theorem putU_Layout_block_size {v0 v1 v2 v3 v4 v5 v6 v7 v8 y : V} : putF "block_size" y ([(("segments" : Str), v0), (("segment_blocks" : Str), v1), (("block_size" : Str), v2), (("payload" : Str), v3), (("limit" : Str), v4), (("last_id" : Str), v5), (("fan" : Str), v6), (("region_blocks" : Str), v7), (("device_blocks" : Str), v8)] : List (Str × V)) = ([(("segments" : Str), v0), (("segment_blocks" : Str), v1), (("block_size" : Str), y), (("payload" : Str), v3), (("limit" : Str), v4), (("last_id" : Str), v5), (("fan" : Str), v6), (("region_blocks" : Str), v7), (("device_blocks" : Str), v8)] : List (Str × V)) := by rfl
theorem putI_Layout_payload {v0 v1 v2 y : V} : putF "payload" y ([(("segments" : Str), v0), (("segment_blocks" : Str), v1), (("block_size" : Str), v2)] : List (Str × V)) = ([(("segments" : Str), v0), (("segment_blocks" : Str), v1), (("block_size" : Str), v2), (("payload" : Str), y)] : List (Str × V)) := by rfl
theorem putU_Layout_payload {v0 v1 v2 v3 v4 v5 v6 v7 v8 y : V} : putF "payload" y ([(("segments" : Str), v0), (("segment_blocks" : Str), v1), (("block_size" : Str), v2), (("payload" : Str), v3), (("limit" : Str), v4), (("last_id" : Str), v5), (("fan" : Str), v6), (("region_blocks" : Str), v7), (("device_blocks" : Str), v8)] : List (Str × V)) = ([(("segments" : Str), v0), (("segment_blocks" : Str), v1), (("block_size" : Str), v2), (("payload" : Str), y), (("limit" : Str), v4), (("last_id" : Str), v5), (("fan" : Str), v6), (("region_blocks" : Str), v7), (("device_blocks" : Str), v8)] : List (Str × V)) := by rfl
theorem putI_Layout_limit {v0 v1 v2 v3 y : V} : putF "limit" y ([(("segments" : Str), v0), (("segment_blocks" : Str), v1), (("block_size" : Str), v2), (("payload" : Str), v3)] : List (Str × V)) = ([(("segments" : Str), v0), (("segment_blocks" : Str), v1), (("block_size" : Str), v2), (("payload" : Str), v3), (("limit" : Str), y)] : List (Str × V)) := by rfl
theorem putU_Layout_limit {v0 v1 v2 v3 v4 v5 v6 v7 v8 y : V} : putF "limit" y ([(("segments" : Str), v0), (("segment_blocks" : Str), v1), (("block_size" : Str), v2), (("payload" : Str), v3), (("limit" : Str), v4), (("last_id" : Str), v5), (("fan" : Str), v6), (("region_blocks" : Str), v7), (("device_blocks" : Str), v8)] : List (Str × V)) = ([(("segments" : Str), v0), (("segment_blocks" : Str), v1), (("block_size" : Str), v2), (("payload" : Str), v3), (("limit" : Str), y), (("last_id" : Str), v5), (("fan" : Str), v6), (("region_blocks" : Str), v7), (("device_blocks" : Str), v8)] : List (Str × V)) := by rfl
theorem putI_Layout_last_id {v0 v1 v2 v3 v4 y : V} : putF "last_id" y ([(("segments" : Str), v0), (("segment_blocks" : Str), v1), (("block_size" : Str), v2), (("payload" : Str), v3), (("limit" : Str), v4)] : List (Str × V)) = ([(("segments" : Str), v0), (("segment_blocks" : Str), v1), (("block_size" : Str), v2), (("payload" : Str), v3), (("limit" : Str), v4), (("last_id" : Str), y)] : List (Str × V)) := by rfl
theorem putU_Layout_last_id {v0 v1 v2 v3 v4 v5 v6 v7 v8 y : V} : putF "last_id" y ([(("segments" : Str), v0), (("segment_blocks" : Str), v1), (("block_size" : Str), v2), (("payload" : Str), v3), (("limit" : Str), v4), (("last_id" : Str), v5), (("fan" : Str), v6), (("region_blocks" : Str), v7), (("device_blocks" : Str), v8)] : List (Str × V)) = ([(("segments" : Str), v0), (("segment_blocks" : Str), v1), (("block_size" : Str), v2), (("payload" : Str), v3), (("limit" : Str), v4), (("last_id" : Str), y), (("fan" : Str), v6), (("region_blocks" : Str), v7), (("device_blocks" : Str), v8)] : List (Str × V)) := by rfl
theorem putI_Layout_fan {v0 v1 v2 v3 v4 v5 y : V} : putF "fan" y ([(("segments" : Str), v0), (("segment_blocks" : Str), v1), (("block_size" : Str), v2), (("payload" : Str), v3), (("limit" : Str), v4), (("last_id" : Str), v5)] : List (Str × V)) = ([(("segments" : Str), v0), (("segment_blocks" : Str), v1), (("block_size" : Str), v2), (("payload" : Str), v3), (("limit" : Str), v4), (("last_id" : Str), v5), (("fan" : Str), y)] : List (Str × V)) := by rfl
theorem putU_Layout_fan {v0 v1 v2 v3 v4 v5 v6 v7 v8 y : V} : putF "fan" y ([(("segments" : Str), v0), (("segment_blocks" : Str), v1), (("block_size" : Str), v2), (("payload" : Str), v3), (("limit" : Str), v4), (("last_id" : Str), v5), (("fan" : Str), v6), (("region_blocks" : Str), v7), (("device_blocks" : Str), v8)] : List (Str × V)) = ([(("segments" : Str), v0), (("segment_blocks" : Str), v1), (("block_size" : Str), v2), (("payload" : Str), v3), (("limit" : Str), v4), (("last_id" : Str), v5), (("fan" : Str), y), (("region_blocks" : Str), v7), (("device_blocks" : Str), v8)] : List (Str × V)) := by rfl
theorem putI_Layout_region_blocks {v0 v1 v2 v3 v4 v5 v6 y : V} : putF "region_blocks" y ([(("segments" : Str), v0), (("segment_blocks" : Str), v1), (("block_size" : Str), v2), (("payload" : Str), v3), (("limit" : Str), v4), (("last_id" : Str), v5), (("fan" : Str), v6)] : List (Str × V)) = ([(("segments" : Str), v0), (("segment_blocks" : Str), v1), (("block_size" : Str), v2), (("payload" : Str), v3), (("limit" : Str), v4), (("last_id" : Str), v5), (("fan" : Str), v6), (("region_blocks" : Str), y)] : List (Str × V)) := by rfl
theorem putU_Layout_region_blocks {v0 v1 v2 v3 v4 v5 v6 v7 v8 y : V} : putF "region_blocks" y ([(("segments" : Str), v0), (("segment_blocks" : Str), v1), (("block_size" : Str), v2), (("payload" : Str), v3), (("limit" : Str), v4), (("last_id" : Str), v5), (("fan" : Str), v6), (("region_blocks" : Str), v7), (("device_blocks" : Str), v8)] : List (Str × V)) = ([(("segments" : Str), v0), (("segment_blocks" : Str), v1), (("block_size" : Str), v2), (("payload" : Str), v3), (("limit" : Str), v4), (("last_id" : Str), v5), (("fan" : Str), v6), (("region_blocks" : Str), y), (("device_blocks" : Str), v8)] : List (Str × V)) := by rfl
theorem putI_Layout_device_blocks {v0 v1 v2 v3 v4 v5 v6 v7 y : V} : putF "device_blocks" y ([(("segments" : Str), v0), (("segment_blocks" : Str), v1), (("block_size" : Str), v2), (("payload" : Str), v3), (("limit" : Str), v4), (("last_id" : Str), v5), (("fan" : Str), v6), (("region_blocks" : Str), v7)] : List (Str × V)) = ([(("segments" : Str), v0), (("segment_blocks" : Str), v1), (("block_size" : Str), v2), (("payload" : Str), v3), (("limit" : Str), v4), (("last_id" : Str), v5), (("fan" : Str), v6), (("region_blocks" : Str), v7), (("device_blocks" : Str), y)] : List (Str × V)) := by rfl
theorem putU_Layout_device_blocks {v0 v1 v2 v3 v4 v5 v6 v7 v8 y : V} : putF "device_blocks" y ([(("segments" : Str), v0), (("segment_blocks" : Str), v1), (("block_size" : Str), v2), (("payload" : Str), v3), (("limit" : Str), v4), (("last_id" : Str), v5), (("fan" : Str), v6), (("region_blocks" : Str), v7), (("device_blocks" : Str), v8)] : List (Str × V)) = ([(("segments" : Str), v0), (("segment_blocks" : Str), v1), (("block_size" : Str), v2), (("payload" : Str), v3), (("limit" : Str), v4), (("last_id" : Str), v5), (("fan" : Str), v6), (("region_blocks" : Str), v7), (("device_blocks" : Str), y)] : List (Str × V)) := by rfl
theorem putI_Device_layout {y : V} : putF "layout" y ([] : List (Str × V)) = ([(("layout" : Str), y)] : List (Str × V)) := by rfl
theorem putU_Device_layout {v0 v1 v2 v3 v4 v5 y : V} : putF "layout" y ([(("layout" : Str), v0), (("sure" : Str), v1), (("seen" : Str), v2), (("waiting" : Str), v3), (("fuse" : Str), v4), (("dark" : Str), v5)] : List (Str × V)) = ([(("layout" : Str), y), (("sure" : Str), v1), (("seen" : Str), v2), (("waiting" : Str), v3), (("fuse" : Str), v4), (("dark" : Str), v5)] : List (Str × V)) := by rfl
theorem putI_Device_sure {v0 y : V} : putF "sure" y ([(("layout" : Str), v0)] : List (Str × V)) = ([(("layout" : Str), v0), (("sure" : Str), y)] : List (Str × V)) := by rfl
theorem putU_Device_sure {v0 v1 v2 v3 v4 v5 y : V} : putF "sure" y ([(("layout" : Str), v0), (("sure" : Str), v1), (("seen" : Str), v2), (("waiting" : Str), v3), (("fuse" : Str), v4), (("dark" : Str), v5)] : List (Str × V)) = ([(("layout" : Str), v0), (("sure" : Str), y), (("seen" : Str), v2), (("waiting" : Str), v3), (("fuse" : Str), v4), (("dark" : Str), v5)] : List (Str × V)) := by rfl
theorem putI_Device_seen {v0 v1 y : V} : putF "seen" y ([(("layout" : Str), v0), (("sure" : Str), v1)] : List (Str × V)) = ([(("layout" : Str), v0), (("sure" : Str), v1), (("seen" : Str), y)] : List (Str × V)) := by rfl
theorem putU_Device_seen {v0 v1 v2 v3 v4 v5 y : V} : putF "seen" y ([(("layout" : Str), v0), (("sure" : Str), v1), (("seen" : Str), v2), (("waiting" : Str), v3), (("fuse" : Str), v4), (("dark" : Str), v5)] : List (Str × V)) = ([(("layout" : Str), v0), (("sure" : Str), v1), (("seen" : Str), y), (("waiting" : Str), v3), (("fuse" : Str), v4), (("dark" : Str), v5)] : List (Str × V)) := by rfl
theorem putI_Device_waiting {v0 v1 v2 y : V} : putF "waiting" y ([(("layout" : Str), v0), (("sure" : Str), v1), (("seen" : Str), v2)] : List (Str × V)) = ([(("layout" : Str), v0), (("sure" : Str), v1), (("seen" : Str), v2), (("waiting" : Str), y)] : List (Str × V)) := by rfl
theorem putU_Device_waiting {v0 v1 v2 v3 v4 v5 y : V} : putF "waiting" y ([(("layout" : Str), v0), (("sure" : Str), v1), (("seen" : Str), v2), (("waiting" : Str), v3), (("fuse" : Str), v4), (("dark" : Str), v5)] : List (Str × V)) = ([(("layout" : Str), v0), (("sure" : Str), v1), (("seen" : Str), v2), (("waiting" : Str), y), (("fuse" : Str), v4), (("dark" : Str), v5)] : List (Str × V)) := by rfl
theorem putI_Device_fuse {v0 v1 v2 v3 y : V} : putF "fuse" y ([(("layout" : Str), v0), (("sure" : Str), v1), (("seen" : Str), v2), (("waiting" : Str), v3)] : List (Str × V)) = ([(("layout" : Str), v0), (("sure" : Str), v1), (("seen" : Str), v2), (("waiting" : Str), v3), (("fuse" : Str), y)] : List (Str × V)) := by rfl
theorem putU_Device_fuse {v0 v1 v2 v3 v4 v5 y : V} : putF "fuse" y ([(("layout" : Str), v0), (("sure" : Str), v1), (("seen" : Str), v2), (("waiting" : Str), v3), (("fuse" : Str), v4), (("dark" : Str), v5)] : List (Str × V)) = ([(("layout" : Str), v0), (("sure" : Str), v1), (("seen" : Str), v2), (("waiting" : Str), v3), (("fuse" : Str), y), (("dark" : Str), v5)] : List (Str × V)) := by rfl
theorem putI_Device_dark {v0 v1 v2 v3 v4 y : V} : putF "dark" y ([(("layout" : Str), v0), (("sure" : Str), v1), (("seen" : Str), v2), (("waiting" : Str), v3), (("fuse" : Str), v4)] : List (Str × V)) = ([(("layout" : Str), v0), (("sure" : Str), v1), (("seen" : Str), v2), (("waiting" : Str), v3), (("fuse" : Str), v4), (("dark" : Str), y)] : List (Str × V)) := by rfl
theorem putU_Device_dark {v0 v1 v2 v3 v4 v5 y : V} : putF "dark" y ([(("layout" : Str), v0), (("sure" : Str), v1), (("seen" : Str), v2), (("waiting" : Str), v3), (("fuse" : Str), v4), (("dark" : Str), v5)] : List (Str × V)) = ([(("layout" : Str), v0), (("sure" : Str), v1), (("seen" : Str), v2), (("waiting" : Str), v3), (("fuse" : Str), v4), (("dark" : Str), y)] : List (Str × V)) := by rfl
theorem putI_Side_layout {y : V} : putF "layout" y ([] : List (Str × V)) = ([(("layout" : Str), y)] : List (Str × V)) := by rfl
theorem putU_Side_layout {v0 v1 v2 y : V} : putF "layout" y ([(("layout" : Str), v0), (("seat" : Str), v1), (("device" : Str), v2)] : List (Str × V)) = ([(("layout" : Str), y), (("seat" : Str), v1), (("device" : Str), v2)] : List (Str × V)) := by rfl
theorem putI_Side_seat {v0 y : V} : putF "seat" y ([(("layout" : Str), v0)] : List (Str × V)) = ([(("layout" : Str), v0), (("seat" : Str), y)] : List (Str × V)) := by rfl
theorem putU_Side_seat {v0 v1 v2 y : V} : putF "seat" y ([(("layout" : Str), v0), (("seat" : Str), v1), (("device" : Str), v2)] : List (Str × V)) = ([(("layout" : Str), v0), (("seat" : Str), y), (("device" : Str), v2)] : List (Str × V)) := by rfl
theorem putI_Side_device {v0 v1 y : V} : putF "device" y ([(("layout" : Str), v0), (("seat" : Str), v1)] : List (Str × V)) = ([(("layout" : Str), v0), (("seat" : Str), v1), (("device" : Str), y)] : List (Str × V)) := by rfl
theorem putU_Side_device {v0 v1 v2 y : V} : putF "device" y ([(("layout" : Str), v0), (("seat" : Str), v1), (("device" : Str), v2)] : List (Str × V)) = ([(("layout" : Str), v0), (("seat" : Str), v1), (("device" : Str), y)] : List (Str × V)) := by rfl
local macro_rules | `(tactic| fail "putf") => `(tactic| first
  | rw [putI_Layout_segments]
  | rw [putU_Layout_segments]
  | rw [putI_Layout_segment_blocks]
  | rw [putU_Layout_segment_blocks]
  | rw [putI_Layout_block_size]
  | rw [putU_Layout_block_size]
  | rw [putI_Layout_payload]
  | rw [putU_Layout_payload]
  | rw [putI_Layout_limit]
  | rw [putU_Layout_limit]
  | rw [putI_Layout_last_id]
  | rw [putU_Layout_last_id]
  | rw [putI_Layout_fan]
  | rw [putU_Layout_fan]
  | rw [putI_Layout_region_blocks]
  | rw [putU_Layout_region_blocks]
  | rw [putI_Layout_device_blocks]
  | rw [putU_Layout_device_blocks]
  | rw [putI_Device_layout]
  | rw [putU_Device_layout]
  | rw [putI_Device_sure]
  | rw [putU_Device_sure]
  | rw [putI_Device_seen]
  | rw [putU_Device_seen]
  | rw [putI_Device_waiting]
  | rw [putU_Device_waiting]
  | rw [putI_Device_fuse]
  | rw [putU_Device_fuse]
  | rw [putI_Device_dark]
  | rw [putU_Device_dark]
  | rw [putI_Side_layout]
  | rw [putU_Side_layout]
  | rw [putI_Side_seat]
  | rw [putU_Side_seat]
  | rw [putI_Side_device]
  | rw [putU_Side_device]
  | skip)
structure Txt (P : Program) (K : PySem.W.Frag) (mg : Str → Option Value) where
  C_Layout : Addr
  C_Device : Addr
  C_Side : Addr
  C_InvalidImage : Addr
  C_InvalidFormat : Addr
  C_SegmentError : Addr
  f__law_number : Addr
  fd__law_number : FuncData
  F__law_number : Fun K "_law_number" "_law_number" s__law_number f__law_number fd__law_number
  b__law_number : Binds K fd__law_number ["script", "k"] []
  g__law_number : mg "_law_number" = some (.ref f__law_number)
  f__law_take : Addr
  fd__law_take : FuncData
  F__law_take : Fun K "_law_take" "_law_take" s__law_take f__law_take fd__law_take
  b__law_take : Binds K fd__law_take ["box", "size"] []
  g__law_take : mg "_law_take" = some (.ref f__law_take)
  f_parts_of : Addr
  fd_parts_of : FuncData
  F_parts_of : Fun K "parts_of" "parts_of" s_parts_of f_parts_of fd_parts_of
  b_parts_of : Binds K fd_parts_of ["number", "size"] []
  g_parts_of : mg "parts_of" = some (.ref f_parts_of)
  f_Layout___init__ : Addr
  fd_Layout___init__ : FuncData
  F_Layout___init__ : Fun K "__init__" "Layout.__init__" s_Layout___init__ f_Layout___init__ fd_Layout___init__
  b_Layout___init__ : Binds K fd_Layout___init__ ["self", "segments", "segment_blocks", "block_size"] []
  mk_Layout : Mk K C_Layout f_Layout___init__
  f__law_layout : Addr
  fd__law_layout : FuncData
  F__law_layout : Fun K "_law_layout" "_law_layout" s__law_layout f__law_layout fd__law_layout
  b__law_layout : Binds K fd__law_layout ["box"] []
  g__law_layout : mg "_law_layout" = some (.ref f__law_layout)
  f_Device___init__ : Addr
  fd_Device___init__ : FuncData
  F_Device___init__ : FunD K "__init__" "Device.__init__" (defArgs s_Device___init__) (defBody s_Device___init__) (defScope s_Device___init__) [V.non] [] f_Device___init__ fd_Device___init__
  b_Device___init__ : Binds K fd_Device___init__ ["self", "layout", "blocks"] []
  mk_Device : Mk K C_Device f_Device___init__
  f_Side___init__ : Addr
  fd_Side___init__ : FuncData
  F_Side___init__ : FunD K "__init__" "Side.__init__" (defArgs s_Side___init__) (defBody s_Side___init__) (defScope s_Side___init__) [V.non] [] f_Side___init__ fd_Side___init__
  b_Side___init__ : Binds K fd_Side___init__ ["self", "layout", "seat", "cells"] []
  ds_Side___init___2 : List Value
  d_Side___init___2 : Vals [V.non] ds_Side___init___2
  b_Side___init___2 : Binds K fd_Side___init__ ["self", "layout", "seat", "cells"] ds_Side___init___2
  mk_Side : Mk K C_Side f_Side___init__
  f__law_block : Addr
  fd__law_block : FuncData
  F__law_block : Fun K "_law_block" "_law_block" s__law_block f__law_block fd__law_block
  b__law_block : Binds K fd__law_block ["layout", "box"] []
  g__law_block : mg "_law_block" = some (.ref f__law_block)
  f__law_low : Addr
  fd__law_low : FuncData
  F__law_low : Fun K "_law_low" "_law_low" s__law_low f__law_low fd__law_low
  b__law_low : Binds K fd__law_low ["number", "count"] []
  g__law_low : mg "_law_low" = some (.ref f__law_low)
  f__law_octets : Addr
  fd__law_octets : FuncData
  F__law_octets : Fun K "_law_octets" "_law_octets" s__law_octets f__law_octets fd__law_octets
  b__law_octets : Binds K fd__law_octets ["layout", "block"] []
  g__law_octets : mg "_law_octets" = some (.ref f__law_octets)
  f__law_check : Addr
  fd__law_check : FuncData
  F__law_check : Fun K "_law_check" "_law_check" s__law_check f__law_check fd__law_check
  b__law_check : Binds K fd__law_check ["layout", "address", "block"] []
  g__law_check : mg "_law_check" = some (.ref f__law_check)
  f__law_sealed : Addr
  fd__law_sealed : FuncData
  F__law_sealed : Fun K "_law_sealed" "_law_sealed" s__law_sealed f__law_sealed fd__law_sealed
  b__law_sealed : Binds K fd__law_sealed ["layout", "address", "block"] []
  g__law_sealed : mg "_law_sealed" = some (.ref f__law_sealed)
  f__law_cell : Addr
  fd__law_cell : FuncData
  F__law_cell : Fun K "_law_cell" "_law_cell" s__law_cell f__law_cell fd__law_cell
  b__law_cell : Binds K fd__law_cell ["layout", "address", "box"] []
  g__law_cell : mg "_law_cell" = some (.ref f__law_cell)
  f_Device__count_command : Addr
  fd_Device__count_command : FuncData
  F_Device__count_command : Fun K "_count_command" "Device._count_command" s_Device__count_command f_Device__count_command fd_Device__count_command
  b_Device__count_command : Binds K fd_Device__count_command ["self"] []
  m_Device__count_command : Meth K C_Device "_count_command" f_Device__count_command
  f_Device_write : Addr
  fd_Device_write : FuncData
  F_Device_write : Fun K "write" "Device.write" s_Device_write f_Device_write fd_Device_write
  b_Device_write : Binds K fd_Device_write ["self", "address", "block"] []
  m_Device_write : Meth K C_Device "write" f_Device_write
  f_number_octets : Addr
  fd_number_octets : FuncData
  F_number_octets : Fun K "number_octets" "number_octets" s_number_octets f_number_octets fd_number_octets
  b_number_octets : Binds K fd_number_octets ["number", "count"] []
  g_number_octets : mg "number_octets" = some (.ref f_number_octets)
  f_summary_octets : Addr
  fd_summary_octets : FuncData
  F_summary_octets : Fun K "summary_octets" "summary_octets" s_summary_octets f_summary_octets fd_summary_octets
  b_summary_octets : Binds K fd_summary_octets ["layout", "mark", "numbers", "action"] []
  g_summary_octets : mg "summary_octets" = some (.ref f_summary_octets)
  f_bits_of : Addr
  fd_bits_of : FuncData
  F_bits_of : Fun K "bits_of" "bits_of" s_bits_of f_bits_of fd_bits_of
  b_bits_of : Binds K fd_bits_of ["used", "last_id"] []
  g_bits_of : mg "bits_of" = some (.ref f_bits_of)
  f_pairs_of : Addr
  fd_pairs_of : FuncData
  F_pairs_of : Fun K "pairs_of" "pairs_of" s_pairs_of f_pairs_of fd_pairs_of
  b_pairs_of : Binds K fd_pairs_of ["numbers"] []
  g_pairs_of : mg "pairs_of" = some (.ref f_pairs_of)
  f_body_octets : Addr
  fd_body_octets : FuncData
  F_body_octets : Fun K "body_octets" "body_octets" s_body_octets f_body_octets fd_body_octets
  b_body_octets : Binds K fd_body_octets ["layout", "kind", "body"] []
  g_body_octets : mg "body_octets" = some (.ref f_body_octets)
  f_block_octets : Addr
  fd_block_octets : FuncData
  F_block_octets : Fun K "block_octets" "block_octets" s_block_octets f_block_octets fd_block_octets
  b_block_octets : Binds K fd_block_octets ["layout", "block"] []
  g_block_octets : mg "block_octets" = some (.ref f_block_octets)
  f_check_of : Addr
  fd_check_of : FuncData
  F_check_of : Fun K "check_of" "check_of" s_check_of f_check_of fd_check_of
  b_check_of : Binds K fd_check_of ["layout", "address", "block"] []
  g_check_of : mg "check_of" = some (.ref f_check_of)
  f_sealed : Addr
  fd_sealed : FuncData
  F_sealed : Fun K "sealed" "sealed" s_sealed f_sealed fd_sealed
  b_sealed : Binds K fd_sealed ["layout", "address", "block"] []
  g_sealed : mg "sealed" = some (.ref f_sealed)
  f_Side_write : Addr
  fd_Side_write : FuncData
  F_Side_write : Fun K "write" "Side.write" s_Side_write f_Side_write fd_Side_write
  b_Side_write : Binds K fd_Side_write ["self", "address", "block"] []
  m_Side_write : Meth K C_Side "write" f_Side_write
  f_side_head : Addr
  fd_side_head : FuncData
  F_side_head : Fun K "side_head" "side_head" s_side_head f_side_head fd_side_head
  b_side_head : Binds K fd_side_head ["layout", "seat"] []
  g_side_head : mg "side_head" = some (.ref f_side_head)
  f_cell_size : Addr
  fd_cell_size : FuncData
  F_cell_size : Fun K "cell_size" "cell_size" s_cell_size f_cell_size fd_cell_size
  b_cell_size : Binds K fd_cell_size ["layout"] []
  g_cell_size : mg "cell_size" = some (.ref f_cell_size)
  f_cell_octets : Addr
  fd_cell_octets : FuncData
  F_cell_octets : Fun K "cell_octets" "cell_octets" s_cell_octets f_cell_octets fd_cell_octets
  b_cell_octets : Binds K fd_cell_octets ["layout", "cell"] []
  g_cell_octets : mg "cell_octets" = some (.ref f_cell_octets)
  f_Device_read : Addr
  fd_Device_read : FuncData
  F_Device_read : Fun K "read" "Device.read" s_Device_read f_Device_read fd_Device_read
  b_Device_read : Binds K fd_Device_read ["self", "address"] []
  m_Device_read : Meth K C_Device "read" f_Device_read
  f_write_side : Addr
  fd_write_side : FuncData
  F_write_side : Fun K "write_side" "write_side" s_write_side f_write_side fd_write_side
  b_write_side : Binds K fd_write_side ["side"] []
  g_write_side : mg "write_side" = some (.ref f_write_side)
  f_number_of : Addr
  fd_number_of : FuncData
  F_number_of : Fun K "number_of" "number_of" s_number_of f_number_of fd_number_of
  b_number_of : Binds K fd_number_of ["octets"] []
  g_number_of : mg "number_of" = some (.ref f_number_of)
  f_layout_of_side : Addr
  fd_layout_of_side : FuncData
  F_layout_of_side : Fun K "layout_of_side" "layout_of_side" s_layout_of_side f_layout_of_side fd_layout_of_side
  b_layout_of_side : Binds K fd_layout_of_side ["octets"] []
  g_layout_of_side : mg "layout_of_side" = some (.ref f_layout_of_side)
  f_numbers_of : Addr
  fd_numbers_of : FuncData
  F_numbers_of : Fun K "numbers_of" "numbers_of" s_numbers_of f_numbers_of fd_numbers_of
  b_numbers_of : Binds K fd_numbers_of ["octets"] []
  g_numbers_of : mg "numbers_of" = some (.ref f_numbers_of)
  f_used_of : Addr
  fd_used_of : FuncData
  F_used_of : Fun K "used_of" "used_of" s_used_of f_used_of fd_used_of
  b_used_of : Binds K fd_used_of ["octets", "last_id"] []
  g_used_of : mg "used_of" = some (.ref f_used_of)
  f_read_body : Addr
  fd_read_body : FuncData
  F_read_body : Fun K "read_body" "read_body" s_read_body f_read_body fd_read_body
  b_read_body : Binds K fd_read_body ["layout", "kind", "octets"] []
  g_read_body : mg "read_body" = some (.ref f_read_body)
  f_read_block : Addr
  fd_read_block : FuncData
  F_read_block : Fun K "read_block" "read_block" s_read_block f_read_block fd_read_block
  b_read_block : Binds K fd_read_block ["layout", "octets"] []
  g_read_block : mg "read_block" = some (.ref f_read_block)
  f_read_cell : Addr
  fd_read_cell : FuncData
  F_read_cell : Fun K "read_cell" "read_cell" s_read_cell f_read_cell fd_read_cell
  b_read_cell : Binds K fd_read_cell ["layout", "octets"] []
  g_read_cell : mg "read_cell" = some (.ref f_read_cell)
  f_read_side : Addr
  fd_read_side : FuncData
  F_read_side : Fun K "read_side" "read_side" s_read_side f_read_side fd_read_side
  b_read_side : Binds K fd_read_side ["octets"] []
  g_read_side : mg "read_side" = some (.ref f_read_side)
  f_Device_sure_blocks : Addr
  fd_Device_sure_blocks : FuncData
  F_Device_sure_blocks : Fun K "sure_blocks" "Device.sure_blocks" s_Device_sure_blocks f_Device_sure_blocks fd_Device_sure_blocks
  b_Device_sure_blocks : Binds K fd_Device_sure_blocks ["self"] []
  m_Device_sure_blocks : Meth K C_Device "sure_blocks" f_Device_sure_blocks
  f_Device_was_cut : Addr
  fd_Device_was_cut : FuncData
  F_Device_was_cut : Fun K "was_cut" "Device.was_cut" s_Device_was_cut f_Device_was_cut fd_Device_was_cut
  b_Device_was_cut : Binds K fd_Device_was_cut ["self"] []
  m_Device_was_cut : Meth K C_Device "was_cut" f_Device_was_cut
  f_Device_pending : Addr
  fd_Device_pending : FuncData
  F_Device_pending : Fun K "pending" "Device.pending" s_Device_pending f_Device_pending fd_Device_pending
  b_Device_pending : Binds K fd_Device_pending ["self"] []
  m_Device_pending : Meth K C_Device "pending" f_Device_pending
  f_Side_pending : Addr
  fd_Side_pending : FuncData
  F_Side_pending : Fun K "pending" "Side.pending" s_Side_pending f_Side_pending fd_Side_pending
  b_Side_pending : Binds K fd_Side_pending ["self"] []
  m_Side_pending : Meth K C_Side "pending" f_Side_pending
  f__law_reads : Addr
  fd__law_reads : FuncData
  F__law_reads : Fun K "_law_reads" "_law_reads" s__law_reads f__law_reads fd__law_reads
  b__law_reads : Binds K fd__law_reads ["octets", "layout", "seat", "cells"] []
  g__law_reads : mg "_law_reads" = some (.ref f__law_reads)
  f__law_image : Addr
  fd__law_image : FuncData
  F__law_image : Fun K "_law_image" "_law_image" s__law_image f__law_image fd__law_image
  b__law_image : Binds K fd__law_image ["layout", "seat", "cells"] []
  g__law_image : mg "_law_image" = some (.ref f__law_image)
  f_InvalidImage___init__ : Addr
  fd_InvalidImage___init__ : FuncData
  co_InvalidImage : Addr
  ce_InvalidImage : Addr
  F_InvalidImage___init__ : SupFun K "__init__" "InvalidImage.__init__" s_InvalidImage___init__ co_InvalidImage ce_InvalidImage f_InvalidImage___init__ fd_InvalidImage___init__
  z_InvalidImage : SupC P K mg C_InvalidImage co_InvalidImage ce_InvalidImage
  ox_InvalidImage : OexC K C_InvalidImage
  iC_InvalidImage : PySem.W.findIn K (.ref C_InvalidImage) "__init__" = some (some (.ref f_InvalidImage___init__))
  tI_InvalidImage : PySem.W.typeIn K (.ref f_InvalidImage___init__) = some (.type "function")
  b_InvalidImage___init__ : Binds K fd_InvalidImage___init__ ["self", "part", "fault", "number"] []
  xf_InvalidImage : XfC K C_InvalidImage
  f__law_refuses : Addr
  fd__law_refuses : FuncData
  F__law_refuses : Fun K "_law_refuses" "_law_refuses" s__law_refuses f__law_refuses fd__law_refuses
  b__law_refuses : Binds K fd__law_refuses ["octets"] []
  g__law_refuses : mg "_law_refuses" = some (.ref f__law_refuses)
  f_law : Addr
  fd_law : FuncData
  F_law : Fun K "law" "law" s_law f_law fd_law
  b_law : Binds K fd_law ["script"] []
  g_law : mg "law" = some (.ref f_law)
  cl_Layout : Cls K C_Layout
  cl_Device : Cls K C_Device
  cl_Side : Cls K C_Side
  g_Layout : mg "Layout" = some (.ref C_Layout)
  g_Device : mg "Device" = some (.ref C_Device)
  g_Side : mg "Side" = some (.ref C_Side)
  g_InvalidImage : mg "InvalidImage" = some (.ref C_InvalidImage)
  g_InvalidFormat : mg "InvalidFormat" = some (.ref C_InvalidFormat)
  g_SegmentError : mg "SegmentError" = some (.ref C_SegmentError)
  xP_InvalidFormat : PySem.W.excIn K C_InvalidFormat [.type "ValueError", .type "Exception", .type "BaseException", .type "object"] "ValueError.__new__" = true
  kP_InvalidFormat : PySem.W.keepIn K (.ref C_InvalidFormat) = true
  bP_InvalidFormat : PySem.W.subIn K (.ref C_InvalidFormat) (.type "BaseException") = some true
  tP_InvalidFormat : PySem.W.typeIn K (.ref C_InvalidFormat) = some (.type "type")
  em_InvalidFormat_InvalidFormat : PySem.W.exmOne K (.ref C_InvalidFormat) (.ref C_InvalidFormat) = some true
  em_InvalidImage_SegmentError : PySem.W.exmOne K (.ref C_InvalidImage) (.ref C_SegmentError) = some true
  is_InvalidImage_InvalidImage : PySem.W.isIn K (.ref C_InvalidImage) C_InvalidImage = true
  a_Layout_segments : NoAttr K C_Layout "segments"
  a_Layout_segment_blocks : NoAttr K C_Layout "segment_blocks"
  a_Layout_block_size : NoAttr K C_Layout "block_size"
  a_Layout_payload : NoAttr K C_Layout "payload"
  a_Layout_limit : NoAttr K C_Layout "limit"
  a_Layout_last_id : NoAttr K C_Layout "last_id"
  a_Layout_fan : NoAttr K C_Layout "fan"
  a_Layout_region_blocks : NoAttr K C_Layout "region_blocks"
  a_Layout_device_blocks : NoAttr K C_Layout "device_blocks"
  a_Device_layout : NoAttr K C_Device "layout"
  a_Device_sure : NoAttr K C_Device "sure"
  a_Device_seen : NoAttr K C_Device "seen"
  a_Device_waiting : NoAttr K C_Device "waiting"
  a_Device_fuse : NoAttr K C_Device "fuse"
  a_Device_dark : NoAttr K C_Device "dark"
  a_Side_layout : NoAttr K C_Side "layout"
  a_Side_seat : NoAttr K C_Side "seat"
  a_Side_device : NoAttr K C_Side "device"
  a_InvalidImage_part : PySem.W.findIn K (.ref C_InvalidImage) "part" = some none
  a_InvalidImage_fault : PySem.W.findIn K (.ref C_InvalidImage) "fault" = some none
  a_InvalidImage_number : PySem.W.findIn K (.ref C_InvalidImage) "number" = some none
  n_len : mg "len" = none
  n_int : mg "int" = none
  n_list : mg "list" = none
  n_tuple : mg "tuple" = none
  n_range : mg "range" = none
  n_reversed : mg "reversed" = none
  n_isinstance : mg "isinstance" = none
  u_MOST_SEGMENTS : Value
  g_MOST_SEGMENTS : mg "MOST_SEGMENTS" = some u_MOST_SEGMENTS
  r_MOST_SEGMENTS : RelV (.int 16) u_MOST_SEGMENTS
  u_LEAST_SEGMENTS : Value
  g_LEAST_SEGMENTS : mg "LEAST_SEGMENTS" = some u_LEAST_SEGMENTS
  r_LEAST_SEGMENTS : RelV (.int 4) u_LEAST_SEGMENTS
  u_MOST_BLOCKS : Value
  g_MOST_BLOCKS : mg "MOST_BLOCKS" = some u_MOST_BLOCKS
  r_MOST_BLOCKS : RelV (.int 32) u_MOST_BLOCKS
  u_LEAST_BLOCKS : Value
  g_LEAST_BLOCKS : mg "LEAST_BLOCKS" = some u_LEAST_BLOCKS
  r_LEAST_BLOCKS : RelV (.int 16) u_LEAST_BLOCKS
  u_HEAD_OCTETS : Value
  g_HEAD_OCTETS : mg "HEAD_OCTETS" = some u_HEAD_OCTETS
  r_HEAD_OCTETS : RelV (.int 16) u_HEAD_OCTETS
  u_SLOTS : Value
  g_SLOTS : mg "SLOTS" = some u_SLOTS
  r_SLOTS : RelV (.int 3) u_SLOTS
  u_LABELS : Value
  g_LABELS : mg "LABELS" = some u_LABELS
  r_LABELS : RelV (.int 2) u_LABELS
  u_COMMIT : Value
  g_COMMIT : mg "COMMIT" = some u_COMMIT
  r_COMMIT : RelV (.int 1) u_COMMIT
  u_MOVE : Value
  g_MOVE : mg "MOVE" = some u_MOVE
  r_MOVE : RelV (.int 2) u_MOVE
  u_DATA : Value
  g_DATA : mg "DATA" = some u_DATA
  r_DATA : RelV (.int 3) u_DATA
  u_SPARE : Value
  g_SPARE : mg "SPARE" = some u_SPARE
  r_SPARE : RelV (.int 16) u_SPARE
  u_FACTOR : Value
  g_FACTOR : mg "FACTOR" = some u_FACTOR
  r_FACTOR : RelV (.int 257) u_FACTOR
  u_PRIME : Value
  g_PRIME : mg "PRIME" = some u_PRIME
  r_PRIME : RelV (.int 4294967291) u_PRIME
  c_LETTERS_labels : Addr
  g_LETTERS_labels : mg "LETTERS_labels" = some (.ref c_LETTERS_labels)
  r_LETTERS_labels : RelV (.ref c_LETTERS_labels) (.ref c_LETTERS_labels)
  q_LETTERS_labels : ∀ H : Hp, SqT K H c_LETTERS_labels [.int 83, .int 73, .int 68, .int 69]
  u_HEAD : Value
  g_HEAD : mg "HEAD" = some u_HEAD
  r_HEAD : RelV (.int 16) u_HEAD
  u_CHECK : Value
  g_CHECK : mg "CHECK" = some u_CHECK
  r_CHECK : RelV (.int 4) u_CHECK
  u_SEATS : Value
  g_SEATS : mg "SEATS" = some u_SEATS
  r_SEATS : RelV (.int 3) u_SEATS
  u_MOST_ACTION : Value
  g_MOST_ACTION : mg "MOST_ACTION" = some u_MOST_ACTION
  r_MOST_ACTION : RelV (.int 6) u_MOST_ACTION
  u_HEADER : Value
  g_HEADER : mg "HEADER" = some u_HEADER
  r_HEADER : RelV (.int 16) u_HEADER
  u_PART : Value
  g_PART : mg "PART" = some u_PART
  r_PART : RelV (.int 5) u_PART
def lawCell0 (ns : List Int) (k : Int) : Int := if (0 : Int) < (ns.length : Int) then ns.getD (k % (ns.length : Int)).toNat 0 else 0
def lawCell (ns : List Int) (k : Int) : Int := if lawCell0 ns k < 0 then 1 - 2 * lawCell0 ns k else lawCell0 ns k
def lawMix1 (c k : Int) : Int := ((c + 7) * 48271 + (k + 3) * 69621) % 2147483647
def lawMix2 (c k : Int) : Int := ((lawMix1 c k + 11) * 16807 + (c + 1) * 40692 + k) % 2147483399
def lawMix (c k : Int) : Int := (lawMix1 c k * 2147483399 + lawMix2 c k * 31 + c) % 4611686014132420609
def lawNumber (ns : List Int) (k : Int) : Int := if 1000000000 ≤ lawCell ns k ∧ k < (ns.length : Int) then lawCell ns k else lawMix (lawCell ns k) k
def spNum (K : PySem.W.Frag) : Sp := fun vs H Q _ => ∃ (a : Addr) (ns : List Int) (k : Int), vs = [.ref a, .int k] ∧ SqL K H a (ns.map V.int) ∧ 0 ≤ k ∧ Q (.int (lawNumber ns k)) H
theorem atI_mod {ns : List Int} {k : Int} (h : (0 : Int) < (ns.length : Int)) : atI (ns.map V.int) (k % (ns.length : Int)) = some (.int (ns.getD (k % (ns.length : Int)).toNat 0)) := by
  have h1 := Int.emod_nonneg k (b := (ns.length : Int)) (by omega)
  have h2 := Int.emod_lt_of_pos k h
  obtain ⟨j, hj⟩ := Int.eq_ofNat_of_zero_le h1
  rw [hj]
  have hl : j < ns.length := by omega
  refine atI_nat ?_
  simp [hl, List.getD_eq_getElem?_getD]
theorem len_map {ns : List Int} : ((List.map V.int ns).length : Int) = (ns.length : Int) := by simp
section
variable {P : Program} {w : World} {K : PySem.W.Frag} {mg : Str → Option Value} {base : Heap}
theorem ok__law_number (T : Txt P K mg) : FnOk P w K mg base CX0 1 T.f__law_number T.fd__law_number ["script", "k"] (spNum K) := by
  refine T.F__law_number.ok sc__law_number (fun vs H Q E h => ?_) (fun cdv A outer s H vs Q E hr h => ?_)
  · obtain ⟨a, ns, k, rfl, hS, k0, hq⟩ := h
    rfl
  · obtain ⟨a, ns, k, rfl, hS, k0, hq⟩ := h
    refine ⟨_, (pss_cons (ps_set (i := 2) sc__law_number.nd rfl (by first | exact Or.inl rfl | exact Or.inr rfl) pe_int)
      (pss_cons (ps_if (pt_cmpR op_gt (pe_callB (callLenU (K := K)) (by rfl) T.n_len (by decide +kernel) (pa_cons (pv 0) pa_nil)) pe_int (nomark _)) (pss_one (ps_set (i := 2) sc__law_number.nd rfl (by first | exact Or.inl rfl | exact Or.inr rfl) (pe_ix (ixU (K := K)) (pv 0) (pe_op opModU (pe_callTy callIntU (by rfl) T.n_int (by decide +kernel) (pa_cons (pv 1) pa_nil)) (pe_callB (callLenU (K := K)) (by rfl) T.n_len (by decide +kernel) (pa_cons (pv 0) pa_nil))) (fun _ _ => rfl)))) pss_nil)
      (pss_cons (ps_if (pt_cmpR op_lt (pv 2) pe_int (nomark _)) (pss_one (ps_set (i := 2) sc__law_number.nd rfl (by first | exact Or.inl rfl | exact Or.inr rfl) (pe_op opSubU pe_int (pe_op opMultU pe_int (pv 2))))) pss_nil)
      (pss_cons (ps_if (PW.pt (pw_and (pt_cmpR op_ge (pv 2) (pe_op opPowU pe_int pe_int) (nomark _)) (pw_and1 (pt_cmpR op_lt (pv 1) (pe_callB (callLenU (K := K)) (by rfl) T.n_len (by decide +kernel) (pa_cons (pv 0) pa_nil)) (nomark _))))) (pss_one (ps_ret (pv 2))) pss_nil)
      (pss_cons (ps_set (i := 3) sc__law_number.nd rfl (by first | exact Or.inl rfl | exact Or.inr rfl) (pe_op opModU (pe_callTy callIntU (by rfl) T.n_int (by decide +kernel) (pa_cons (pe_op (opAddU (K := K)) (pe_op opMultU (pe_op (opAddU (K := K)) (pv 2) pe_int) pe_int) (pe_op opMultU (pe_op (opAddU (K := K)) (pv 1) pe_int) pe_int)) pa_nil)) pe_int))
      (pss_cons (ps_set (i := 4) sc__law_number.nd rfl (by first | exact Or.inl rfl | exact Or.inr rfl) (pe_op opModU (pe_callTy callIntU (by rfl) T.n_int (by decide +kernel) (pa_cons (pe_op (opAddU (K := K)) (pe_op (opAddU (K := K)) (pe_op opMultU (pe_op (opAddU (K := K)) (pv 3) pe_int) pe_int) (pe_op opMultU (pe_op (opAddU (K := K)) (pv 2) pe_int) pe_int)) (pv 1)) pa_nil)) pe_int))
      (pss_one (ps_ret (pe_op opModU (pe_callTy callIntU (by rfl) T.n_int (by decide +kernel) (pa_cons (pe_op (opAddU (K := K)) (pe_op (opAddU (K := K)) (pe_op opMultU (pv 3) pe_int) (pe_op opMultU (pv 4) pe_int)) (pv 2)) pa_nil)) pe_int))))))))), ?_⟩
    try dsimp only [cxOf]
    fail "go"
    rw [len_map]
    refine g_joinI (fun x => x = .int (lawCell0 ns k)) rfl (fun h Q' q' => ?_) (fun h => ?_) (fun x hx => ?_)
    · fail "go"
      rw [len_map]
      fail "go"
      refine g_ixL hS (atI_mod h) (q' _ ?_)
      rw [lawCell0, if_pos h]
    · rw [lawCell0, if_neg h]
    subst hx
    fail "go"
    refine g_joinI (fun x => x = .int (lawCell ns k)) rfl (fun h Q' q' => ?_) (fun h => ?_) (fun x hx => ?_)
    · fail "go"
      refine q' _ ?_
      rw [lawCell, if_pos h]
    · rw [lawCell, if_neg h]
    subst hx
    fail "go"
    have e9 : (10 : Int) ^ Int.toNat 9 = 1000000000 := by decide
    rw [e9]
    refine g_ite (fun h1 => ?_) (fun h1 => ?_)
    · fail "go"
      rw [len_map]
      refine g_ite (fun h2 => ?_) (fun h2 => ?_)
      · fail "go"
        rw [lawNumber, if_pos ⟨h1, h2⟩] at hq
        exact hq
      · fail "go"
        rw [lawNumber, if_neg (fun z => h2 z.2)] at hq
        exact hq
    · fail "go"
      rw [lawNumber, if_neg (fun z => h1 z.1)] at hq
      exact hq
end
def spTake : Sp := fun vs H Q _ => ∃ (b : Addr) (n z : Int), vs = [.ref b, .int z] ∧ H b = some (.lst [.int n]) ∧ 0 < z ∧ z < 8589934592 ∧ Q (.int (n % z)) (upd H b (.lst [.int (n / z)]))
local macro_rules | `(tactic| fail "calls") => `(tactic| ((with_reducible show spTake _ _ _ _); refine ⟨_, _, _, rfl, by fail "hp", by fail "ar", by fail "ar", ?_⟩))
section
variable {P : Program} {w : World} {K : PySem.W.Frag} {mg : Str → Option Value} {base : Heap}
theorem ok__law_take (T : Txt P K mg) : FnOk P w K mg base CX0 1 T.f__law_take T.fd__law_take ["box", "size"] (spTake) := by
  refine T.F__law_take.ok sc__law_take (fun vs H Q E h => ?_) (fun cdv A outer s H vs Q E hr h => ?_)
  · obtain ⟨b, n, z, rfl, hb, z0, z1, hq⟩ := h
    rfl
  · obtain ⟨b, n, z, rfl, hb, z0, z1, hq⟩ := h
    refine ⟨_, (pss_cons (ps_set (i := 2) sc__law_take.nd rfl (by first | exact Or.inl rfl | exact Or.inr rfl) (pe_op opModU (pe_callTy callIntU (by rfl) T.n_int (by decide +kernel) (pa_cons (pe_ix (ixU (K := K)) (pv 0) pe_int (fun _ _ => rfl)) pa_nil)) (pv 1)))
      (pss_cons (ps_asg (pe_op opFloorDivU (pe_ix (ixU (K := K)) (pv 0) pe_int (fun _ _ => rfl)) (pv 1)) (pg_sub (pv 0) pe_int set_list))
      (pss_one (ps_ret (pv 2))))), ?_⟩
    try dsimp only [cxOf]
    fail "go"
    refine g_div (Or.inr (wide_div (b := 34) z0 (by show z.natAbs < 17179869184; omega) (by decide) (by decide))) ?_
    fail "go"
    exact hq
end
def spParts : Sp := fun vs H Q _ => ∃ n z : Int, vs = [.int n, .int z] ∧ 0 < z ∧ z < 1000 ∧ Q (.int (partsOf n z)) H
local macro_rules | `(tactic| fail "calls") => `(tactic| ((with_reducible show spParts _ _ _ _); refine ⟨_, _, rfl, by fail "ar", by fail "ar", ?_⟩))
section
variable {P : Program} {w : World} {K : PySem.W.Frag} {mg : Str → Option Value} {base : Heap}
theorem ok_parts_of (T : Txt P K mg) : FnOk P w K mg base CX0 1 T.f_parts_of T.fd_parts_of ["number", "size"] (spParts) := by
  refine T.F_parts_of.ok sc_parts_of (fun vs H Q E h => ?_) (fun cdv A outer s H vs Q E hr h => ?_)
  · obtain ⟨n, z, rfl, z0, z1, hq⟩ := h
    rfl
  · obtain ⟨n, z, rfl, z0, z1, hq⟩ := h
    refine ⟨_, (pss_one (ps_ret (pe_op opFloorDivU (pe_op opSubU (pe_op (opAddU (K := K)) (pv 0) (pv 1)) pe_int) (pv 1)))), ?_⟩
    try dsimp only [cxOf]
    fail "go"
    exact hq
end
def spLay (C : Addr) : Sp := fun vs H Q _ => ∃ (R : Hp) (p dx : Addr) (L : Lay), vs = [.ref p, .int L.seg, .int L.blk, .int L.oct] ∧ Same R H ∧ R p = none ∧ H p = some (.ins C dx []) ∧ L.Ok ∧ ∀ H', Same R H' → H' p = some (.ins C dx L.flds) → Q .non H'
section
variable {P : Program} {w : World} {K : PySem.W.Frag} {mg : Str → Option Value} {base : Heap}
theorem ok_Layout___init__ (T : Txt P K mg) : FnOk P w K mg base CX0 2 T.f_Layout___init__ T.fd_Layout___init__ ["self", "segments", "segment_blocks", "block_size"] (spLay T.C_Layout) := by
  have cl_Layout := T.cl_Layout
  have a_Layout_segments := T.a_Layout_segments
  have a_Layout_segment_blocks := T.a_Layout_segment_blocks
  have a_Layout_block_size := T.a_Layout_block_size
  have a_Layout_payload := T.a_Layout_payload
  have a_Layout_limit := T.a_Layout_limit
  have a_Layout_last_id := T.a_Layout_last_id
  have a_Layout_fan := T.a_Layout_fan
  have a_Layout_region_blocks := T.a_Layout_region_blocks
  have a_Layout_device_blocks := T.a_Layout_device_blocks
  have G_parts_of := ok_parts_of (P := P) (w := w) (base := base) T
  refine T.F_Layout___init__.ok sc_Layout___init__ (fun vs H Q E h => ?_) (fun cdv A outer s H vs Q E hr h => ?_)
  · obtain ⟨R, p, dx, L, rfl, sR, Rp, hp, hL, hq⟩ := h
    rfl
  · obtain ⟨R, p, dx, L, rfl, sR, Rp, hp, hL, hq⟩ := h
    refine ⟨_, (pss_cons (ps_if (PW.pt (pw_or (pt_cmpR op_lt (pv 1) (pe_glob rfl T.g_LEAST_SEGMENTS T.r_LEAST_SEGMENTS) (nomark _)) (pw_or1 (pt_cmpR op_gt (pv 1) (pe_glob rfl T.g_MOST_SEGMENTS T.r_MOST_SEGMENTS) (nomark _))))) (pss_one ps_never) pss_nil)
      (pss_cons (ps_if (PW.pt (pw_or (pt_cmpR op_lt (pv 2) (pe_glob rfl T.g_LEAST_BLOCKS T.r_LEAST_BLOCKS) (nomark _)) (pw_or1 (pt_cmpR op_gt (pv 2) (pe_glob rfl T.g_MOST_BLOCKS T.r_MOST_BLOCKS) (nomark _))))) (pss_one ps_never) pss_nil)
      (pss_cons (ps_if (pt_cmpR (opNinF (K := K)) (pv 3) (pe_tup (pa_cons pe_int (pa_cons pe_int (pa_cons pe_int pa_nil)))) (by rfl)) (pss_one ps_never) pss_nil)
      (pss_cons (ps_fld (pv 0) (pv 1) rfl)
      (pss_cons (ps_fld (pv 0) (pv 2) rfl)
      (pss_cons (ps_fld (pv 0) (pv 3) rfl)
      (pss_cons (ps_fld (pv 0) (pe_op opSubU (pv 2) pe_int) rfl)
      (pss_cons (ps_fld (pv 0) (pe_op opMultU (pe_op opSubU (pv 1) pe_int) (pe_fldK (K := K) (pv 0) rfl)) rfl)
      (pss_cons (ps_fld (pv 0) (pe_op (opAddU (K := K)) (pe_fldK (K := K) (pv 0) rfl) (pe_fldK (K := K) (pv 0) rfl)) rfl)
      (pss_cons (ps_fld (pv 0) (pe_op opFloorDivU (pv 3) pe_int) rfl)
      (pss_cons (ps_if (pt_cmpR op_gt (pe_op (opAddU (K := K)) (pe_op (opAddU (K := K)) (pe_glob rfl T.g_HEAD_OCTETS T.r_HEAD_OCTETS) (pe_op opMultU pe_int (pe_fldK (K := K) (pv 0) rfl))) (pe_call G_parts_of (hr.mono (by decide)) rfl T.g_parts_of T.F_parts_of.kp T.b_parts_of .nil pass0 (pa_cons (pe_fldK (K := K) (pv 0) rfl) (pa_cons pe_int pa_nil)))) (pv 3) (nomark _)) (pss_one ps_never) pss_nil)
      (pss_cons (ps_set (i := 4) sc_Layout___init__.nd rfl (by first | exact Or.inl rfl | exact Or.inr rfl) (pe_op (opAddU (K := K)) (pe_op (opAddU (K := K)) (pe_op (opAddU (K := K)) (pe_op opMultU (pe_op (opAddU (K := K)) (pe_glob rfl T.g_SLOTS T.r_SLOTS) pe_int) (pe_fldK (K := K) (pv 0) rfl)) (pe_glob rfl T.g_SLOTS T.r_SLOTS)) pe_int) (pv 1)))
      (pss_cons (ps_fld (pv 0) (pe_call G_parts_of (hr.mono (by decide)) rfl T.g_parts_of T.F_parts_of.kp T.b_parts_of .nil pass0 (pa_cons (pe_op opMultU pe_int (pv 4)) (pa_cons (pv 3) pa_nil))) rfl)
      (pss_one (ps_fld (pv 0) (pe_op (opAddU (K := K)) (pe_op opMultU pe_int (pe_fldK (K := K) (pv 0) rfl)) (pe_op opMultU (pv 1) (pv 2))) rfl))))))))))))))), ?_⟩
    try dsimp only [cxOf]
    obtain ⟨s1, s2, b1, b2, o1, fits⟩ := id hL
    fail "go"
    refine g_iteF (decide_eq_false (by omega)) ?_
    fail "go"
    refine g_iteF (decide_eq_false (by omega)) ?_
    fail "go"
    refine g_iteF (decide_eq_false (by omega)) ?_
    fail "go"
    refine g_iteF (decide_eq_false (by omega)) ?_
    fail "go"
    refine ⟨by fail "sz", ?_⟩
    fail "newR"
    rename_i t H1 R1 n1 g1 h1 r1
    fail "go"
    refine g_ninF (.inr (SqT.of (r1 _ _ h1))) rfl rfl ?_
    fail "go"
    rw [oct_in o1]
    fail "go"
    refine g_iteF (decide_eq_false (by have := fits; unfold Lay.lastId Lay.limit Lay.payload at this; omega)) ?_
    fail "go"
    rename_i H2 g2 h2 s2
    exact hq _ (g1.rr.trans s2) h2
end
def spLawLay (C : Addr) : Sp := fun vs H Q _ => ∃ (R : Hp) (b : Addr) (n : Int), vs = [.ref b] ∧ Same R H ∧ R b = none ∧ H b = some (.lst [.int n]) ∧ ∀ p H' L, Same R H' → R p = none → (∃ m, H' b = some (.lst [.int m])) → LayAt C H' p L → L ∈ lays → Q (.ref p) H'
section
variable {P : Program} {w : World} {K : PySem.W.Frag} {mg : Str → Option Value} {base : Heap}
theorem ok__law_layout (T : Txt P K mg) : FnOk P w K mg base CX0 4 T.f__law_layout T.fd__law_layout ["box"] (spLawLay T.C_Layout) := by
  have G__law_take := ok__law_take (P := P) (w := w) (base := base) T
  have G_Layout___init__ := ok_Layout___init__ (P := P) (w := w) (base := base) T
  refine T.F__law_layout.ok sc__law_layout (fun vs H Q E h => ?_) (fun cdv A outer s H vs Q E hr h => ?_)
  · obtain ⟨R, b, n, rfl, sR, Rb, hb, hq⟩ := h
    rfl
  · obtain ⟨R, b, n, rfl, sR, Rb, hb, hq⟩ := h
    refine ⟨_, (pss_cons (ps_set (i := 1) sc__law_layout.nd rfl (by first | exact Or.inl rfl | exact Or.inr rfl) (pe_ix (ixU (K := K)) (pe_lst (pa_cons (pe_tup (pa_cons pe_int (pa_cons pe_int (pa_cons pe_int pa_nil)))) (pa_cons (pe_tup (pa_cons pe_int (pa_cons pe_int (pa_cons pe_int pa_nil)))) (pa_cons (pe_tup (pa_cons pe_int (pa_cons pe_int (pa_cons pe_int pa_nil)))) (pa_cons (pe_tup (pa_cons pe_int (pa_cons pe_int (pa_cons pe_int pa_nil)))) (pa_cons (pe_tup (pa_cons pe_int (pa_cons pe_int (pa_cons pe_int pa_nil)))) (pa_cons (pe_tup (pa_cons pe_int (pa_cons pe_int (pa_cons pe_int pa_nil)))) pa_nil))))))) (pe_call G__law_take (hr.mono (by decide)) rfl T.g__law_take T.F__law_take.kp T.b__law_take .nil pass0 (pa_cons (pv 0) (pa_cons pe_int pa_nil))) (fun _ _ => rfl)))
      (pss_one (ps_ret (pe_make T.mk_Layout G_Layout___init__ (hr.mono (by decide)) rfl T.g_Layout T.b_Layout___init__ .nil pass0 (pa_cons (pe_ix (ixU (K := K)) (pv 1) pe_int (fun _ _ => rfl)) (pa_cons (pe_ix (ixU (K := K)) (pv 1) pe_int (fun _ _ => rfl)) (pa_cons (pe_ix (ixU (K := K)) (pv 1) pe_int (fun _ _ => rfl)) pa_nil))))))), ?_⟩
    try dsimp only [cxOf]
    fail "go"
    refine ⟨by fail "sz", ?_⟩
    fail "newM"
    rename_i t1 H1 n1 g1 m1 h1 s1
    fail "go"
    refine ⟨by fail "sz", ?_⟩
    fail "newM"
    rename_i t2 H2 n2 g2 m2 h2 s2
    fail "go"
    refine ⟨by fail "sz", ?_⟩
    fail "newM"
    rename_i t3 H3 n3 g3 m3 h3 s3
    fail "go"
    refine ⟨by fail "sz", ?_⟩
    fail "newM"
    rename_i t4 H4 n4 g4 m4 h4 s4
    fail "go"
    refine ⟨by fail "sz", ?_⟩
    fail "newM"
    rename_i t5 H5 n5 g5 m5 h5 s5
    fail "go"
    refine ⟨by fail "sz", ?_⟩
    fail "newM"
    rename_i t6 H6 n6 g6 m6 h6 s6
    fail "go"
    refine ⟨by fail "sz", ?_⟩
    fail "newM"
    rename_i l H7 n7 g7 m7 h7 s7
    fail "go"
    fail "mut"
    rename_i H8 g8 h8 s8
    have pick : ∃ (L : Lay) (t : Addr), L ∈ lays ∧ atI [V.ref t1, V.ref t2, V.ref t3, V.ref t4, V.ref t5, V.ref t6] (n % 6) = some (.ref t) ∧ SqT K H8 t [.int L.seg, .int L.blk, .int L.oct] := by
      have h0 := Int.emod_nonneg n (show (6 : Int) ≠ 0 by decide)
      have h1 := Int.emod_lt_of_pos n (show (0 : Int) < 6 by decide)
      have : n % 6 = 0 ∨ n % 6 = 1 ∨ n % 6 = 2 ∨ n % 6 = 3 ∨ n % 6 = 4 ∨ n % 6 = 5 := by omega
      rcases this with e | e | e | e | e | e <;> rw [e]
      · exact ⟨⟨4, 16, 64⟩, t1, by simp [lays], rfl, SqT.of (by fail "hp")⟩
      · exact ⟨⟨4, 16, 64⟩, t2, by simp [lays], rfl, SqT.of (by fail "hp")⟩
      · exact ⟨⟨5, 16, 64⟩, t3, by simp [lays], rfl, SqT.of (by fail "hp")⟩
      · exact ⟨⟨4, 16, 128⟩, t4, by simp [lays], rfl, SqT.of (by fail "hp")⟩
      · exact ⟨⟨4, 17, 64⟩, t5, by simp [lays], rfl, SqT.of (by fail "hp")⟩
      · exact ⟨⟨4, 16, 256⟩, t6, by simp [lays], rfl, SqT.of (by fail "hp")⟩
    obtain ⟨L, t, hL, hi, ht⟩ := pick
    refine g_ixL (SqL.of (by fail "hp")) hi ?_
    fail "go"
    intro p dx np ndx nex
    refine ⟨H8, p, dx, L, rfl, made_same np ndx, np, upd_same, lays_ok L hL, fun H9 s9 h9 => ⟨rfl, ?_⟩⟩
    fail "go"
    exact hq p H9 L (s8.trans s9) (s8.free np) ⟨_, s9 _ _ h8⟩ ⟨dx, h9⟩ hL
end
def spDevInit (K : PySem.W.Frag) (C : Addr) : Sp := fun vs H Q _ => ∃ (R : Hp) (x dx a c : Addr) (us : List V), vs = [.ref x, .ref a, .ref c] ∧ Same R H ∧ R x = none ∧ H x = some (.ins C dx []) ∧ SqL K H c us ∧
  ∀ H' l1 l2 l3, Gr [x] R H R H' → H l1 = none → H l2 = none → H l3 = none → l1 ≠ l2 → l1 ≠ l3 → l2 ≠ l3 → DevAt C H' x a l1 l2 l3 → H' l1 = some (.lst us) → H' l2 = some (.lst us) → H' l3 = some (.lst []) → Q .non H'
section
variable {P : Program} {w : World} {K : PySem.W.Frag} {mg : Str → Option Value} {base : Heap}
theorem ok_Device___init__ (T : Txt P K mg) : FnOk P w K mg base CX0 1 T.f_Device___init__ T.fd_Device___init__ ["self", "layout", "blocks"] (spDevInit K T.C_Device) := by
  have cl_Layout := T.cl_Layout
  have cl_Device := T.cl_Device
  have a_Layout_device_blocks := T.a_Layout_device_blocks
  have a_Device_layout := T.a_Device_layout
  have a_Device_sure := T.a_Device_sure
  have a_Device_seen := T.a_Device_seen
  have a_Device_waiting := T.a_Device_waiting
  have a_Device_fuse := T.a_Device_fuse
  have a_Device_dark := T.a_Device_dark
  refine T.F_Device___init__.ok sc_Device___init__ (fun vs H Q E h => ?_) (fun cdv A outer s H vs Q E hr h => ?_)
  · obtain ⟨R, x, dx, a, c, us, rfl, sR, Rx, hx, hc, hq⟩ := h
    rfl
  · obtain ⟨R, x, dx, a, c, us, rfl, sR, Rx, hx, hc, hq⟩ := h
    refine ⟨_, (pss_cons (ps_if (pt_cmpR opIsU (pv 2) pe_non (nomark _)) (pss_one (ps_set (i := 2) sc_Device___init__.nd rfl (by first | exact Or.inl rfl | exact Or.inr rfl) (pe_op opMultU (pe_lst (pa_cons pe_non pa_nil)) (pe_fldK (K := K) (pv 1) rfl)))) pss_nil)
      (pss_cons (ps_fld (pv 0) (pv 1) rfl)
      (pss_cons (ps_fld (pv 0) (pe_callTy (callListU (K := K)) (by rfl) T.n_list (by decide +kernel) (pa_cons (pv 2) pa_nil)) rfl)
      (pss_cons (ps_fld (pv 0) (pe_callTy (callListU (K := K)) (by rfl) T.n_list (by decide +kernel) (pa_cons (pv 2) pa_nil)) rfl)
      (pss_cons (ps_fld (pv 0) (pe_lst pa_nil) rfl)
      (pss_cons (ps_fld (pv 0) pe_non rfl)
      (pss_one (ps_fld (pv 0) pe_bl rfl)))))))), ?_⟩
    try dsimp only [cxOf]
    fail "go"
    rename_i H1 g1 h1 s1
    have hc1 := sqL_ins hc hx g1.g
    refine g_listL hc1 ?_
    fail "newM"
    rename_i l1 H2 n2 g2 m2 h2 s2
    have hc2 := sqL_mono g2.g.same hc1
    have hx2 := g2.g.same _ _ h1
    have gA : Mu [x] R H H2 := ⟨g1.g.trans g2.g.nil⟩
    have nl1 : H l1 = none := g1.g.free n2
    have xl1 : x ≠ l1 := ne_of_none h1 n2
    clear g1 g2 h1 s1 sR
    fail "go"
    rename_i H3 g3 h3 s3
    have hc3 := sqL_ins hc2 hx2 g3.g
    have hl1 := g3.g.hh _ _ (by simpa using xl1.symm) h2
    have gB : Mu [x] R H H3 := ⟨gA.g.trans g3.g⟩
    clear gA g3 h2 s2 hx2
    refine g_listL hc3 ?_
    fail "newM"
    rename_i l2 H4 n4 g4 m4 h4 s4
    have hx4 := g4.g.same _ _ h3
    have hl1' := hl1
    have hl1 := g4.g.same _ _ hl1
    have gC : Mu [x] R H H4 := ⟨gB.g.trans g4.g.nil⟩
    have nl2 : H l2 = none := gB.g.free n4
    have xl2 : x ≠ l2 := ne_of_none h3 n4
    have l12 : l1 ≠ l2 := by
      rintro rfl
      exact absurd hl1' (by rw [show H3 l1 = none from n4]; exact fun z => nomatch z)
    clear gB g4 h3 s3
    fail "go"
    rename_i H5 g5 h5 s5
    have hl1 := g5.g.hh _ _ (by simpa using xl1.symm) hl1
    have hl2 := g5.g.hh _ _ (by simpa using xl2.symm) h4
    have gD : Mu [x] R H H5 := ⟨gC.g.trans g5.g⟩
    clear gC g5 h4 s4 hl1' hx4
    refine ⟨by fail "sz", ?_⟩
    fail "newM"
    rename_i l3 H6 n6 g6 m6 h6 s6
    have hx6 := g6.g.same _ _ h5
    have l13 := ne_of_none hl1 n6
    have l23 := ne_of_none hl2 n6
    have xl3 : x ≠ l3 := ne_of_none h5 n6
    have nl3 : H l3 = none := gD.g.free n6
    have hl1 := g6.g.same _ _ hl1
    have hl2 := g6.g.same _ _ hl2
    have gE : Mu [x] R H H6 := ⟨gD.g.trans g6.g.nil⟩
    clear gD g6 h5 s5
    fail "go"
    rename_i H7 g7 h7 s7 H8 g8 h8 s8 H9 g9 h9 s9
    have gF : Gr [x] R H6 R H9 := g7.g.trans (g8.g.trans g9.g)
    have hn : ∀ l, x ≠ l → l ∉ [x] := fun l h z => h (List.mem_singleton.mp z).symm
    exact hq _ l1 l2 l3 (gE.g.trans gF) nl1 nl2 nl3 l12 l13 l23 ⟨_, h9⟩ (gF.hh _ _ (hn _ xl1) hl1) (gF.hh _ _ (hn _ xl2) hl2) (gF.hh _ _ (hn _ xl3) h6)
end
def spSideInit (K : PySem.W.Frag) (CL CS CD : Addr) : Sp := fun vs H Q _ => ∃ (R : Hp) (x dx a : Addr) (n : Int) (c : V) (us : List V) (L : Lay), vs = [.ref x, .ref a, .int n, c] ∧ Same R H ∧ R x = none ∧ H x = some (.ins CS dx []) ∧ LayAt CL R a L ∧ L.Ok ∧ (0 ≤ L.device ∧ L.device < 900) ∧ ((∃ p, c = .ref p ∧ SqL K H p us) ∨ (c = .non ∧ us = List.replicate (L.device + 2).toNat .non)) ∧
  ∀ H' d l1 l2 l3, Gr [x] R H R H' → H d = none → H l1 = none → H l2 = none → H l3 = none → l1 ≠ l2 → l1 ≠ l3 → l2 ≠ l3 → d ≠ x → SideIn CS H' x a n d → DevAt CD H' d a l1 l2 l3 → H' l1 = some (.lst us) → H' l2 = some (.lst us) → H' l3 = some (.lst []) → Q .non H'
section
variable {P : Program} {w : World} {K : PySem.W.Frag} {mg : Str → Option Value} {base : Heap}
theorem ok_Side___init__ (T : Txt P K mg) : FnOk P w K mg base CX0 3 T.f_Side___init__ T.fd_Side___init__ ["self", "layout", "seat", "cells"] (spSideInit K T.C_Layout T.C_Side T.C_Device) := by
  have cl_Layout := T.cl_Layout
  have cl_Side := T.cl_Side
  have a_Layout_device_blocks := T.a_Layout_device_blocks
  have a_Side_layout := T.a_Side_layout
  have a_Side_seat := T.a_Side_seat
  have a_Side_device := T.a_Side_device
  have G_Device___init__ := ok_Device___init__ (P := P) (w := w) (base := base) T
  refine T.F_Side___init__.ok sc_Side___init__ (fun vs H Q E h => ?_) (fun cdv A outer s H vs Q E hr h => ?_)
  · obtain ⟨R, x, dx, a, n, c, us, L, rfl, sR, Rx, hx, ha, hL, hdev, hc, hq⟩ := h
    rfl
  · obtain ⟨R, x, dx, a, n, c, us, L, rfl, sR, Rx, hx, ha, hL, hdev, hc, hq⟩ := h
    refine ⟨_, (pss_cons (ps_if (pt_cmpR opIsU (pv 3) pe_non (nomark _)) (pss_one (ps_set (i := 3) sc_Side___init__.nd rfl (by first | exact Or.inl rfl | exact Or.inr rfl) (pe_op opMultU (pe_lst (pa_cons pe_non pa_nil)) (pe_op (opAddU (K := K)) (pe_fldK (K := K) (pv 1) rfl) (pe_glob rfl T.g_LABELS T.r_LABELS))))) pss_nil)
      (pss_cons (ps_fld (pv 0) (pv 1) rfl)
      (pss_cons (ps_fld (pv 0) (pv 2) rfl)
      (pss_one (ps_fld (pv 0) (pe_make T.mk_Device G_Device___init__ (hr.mono (by decide)) rfl T.g_Device T.b_Device___init__ .nil pass0 (pa_cons (pv 1) (pa_cons (pv 3) pa_nil))) rfl))))), ?_⟩
    try dsimp only [cxOf]
    fail "gi"
    refine g_seqIN (fun σ H' => ∃ p, σ = [some (.ref x), some (.ref a), some (.int n), some (.ref p)] ∧ Mu [] R H H' ∧ H' x = some (.ins T.C_Side dx []) ∧ SqL K H' p us) ?_ (fun N rest => ?_)
    · clear hx hc
      rintro σ H1 ⟨p, rfl, g1, h1, hp⟩
      have s1 := g1.g.rh
      fail "go"
      rename_i H2 g2 h2 s2 H3 g3 h3 s3
      have hp3 := sqL_ins (sqL_ins hp h1 g2.g) h2 g3.g
      have gA : Mu [x] R H H3 := ⟨g1.g.nil.trans (g2.g.trans g3.g)⟩
      clear g1 g2 g3 h1 h2 hp s1 s2
      intro d ddx nd ndd nex
      have ms := made_same (C := T.C_Device) nd ndd
      have dx' : d ≠ x := (ne_of_none h3 nd).symm
      refine ⟨R, d, ddx, a, p, us, rfl, s3.trans ms, s3.free nd, upd_same, sqL_mono ms hp3, fun H4 l1 l2 l3 g4 n1 n2 n3 e12 e13 e23 hd hl1 hl2 hl3 => ⟨rfl, ?_⟩⟩
      have x1 : x ≠ l1 := ne_of_none (ms _ _ h3) n1
      have x2 : x ≠ l2 := ne_of_none (ms _ _ h3) n2
      have x3 : x ≠ l3 := ne_of_none (ms _ _ h3) n3
      have gB : Gr [] R H3 R H4 := ((Mu.ofSame s3 ms).g.nil.trans g4).forget (by intro y hy hn; rw [List.mem_singleton.mp hy]; exact nd)
      have h4 := gB.same _ _ h3
      have s4 := gB.rh
      have gC : Mu [x] R H H4 := ⟨gA.g.trans gB.nil⟩
      have f0 : ∀ l, upd (upd H3 ddx (.own d)) d (.ins T.C_Device ddx []) l = none → H l = none := fun l z => gA.g.free (ms.free z)
      have nd0 := gA.g.free nd
      clear gA gB s3 h3 g4 hp3
      fail "go"
      rename_i H5 g5 h5 s5
      have hn : ∀ l, x ≠ l → l ∉ [x] := fun l h z => h (List.mem_singleton.mp z).symm
      obtain ⟨ddx2, hd⟩ := hd
      exact hq H5 d l1 l2 l3 (gC.g.trans g5.g) nd0 (f0 _ n1) (f0 _ n2) (f0 _ n3) e12 e13 e23 dx' ⟨_, h5⟩ ⟨_, g5.g.hh _ _ (hn _ dx'.symm) hd⟩ (g5.g.hh _ _ (hn _ x1) hl1) (g5.g.hh _ _ (hn _ x2) hl2) (g5.g.hh _ _ (hn _ x3) hl3)
    · rcases hc with ⟨p, rfl, hp⟩ | ⟨rfl, rfl⟩
      · fail "go"
        exact rest _ _ ⟨p, rfl, ⟨Gr.refl sR⟩, hx, hp⟩
      · obtain ⟨lx, ha⟩ := ha
        have haH := sR _ _ ha
        fail "go"
        refine ⟨by fail "sz", ?_⟩
        fail "newM"
        rename_i p1 H1 n1 g1 m1 h1 s1
        fail "go"
        refine g_rep h1 (by omega) (by omega) (by simp only [List.length_cons, List.length_nil]; fail "sz") ?_
        fail "newM"
        rename_i p2 H2 n2 g2 m2 h2 s2
        fail "go"
        refine rest _ _ ⟨p2, rfl, ⟨g1.g.trans g2.g⟩, g2.g.same _ _ (g1.g.same _ _ hx), ?_⟩
        have e : (List.replicate (L.device + 2).toNat [V.non]).flatten = List.replicate (L.device + 2).toNat V.non := by simp
        rw [← e]
        exact SqL.of h2
end
def spLawBlock (K : PySem.W.Frag) (C : Addr) : Sp := fun vs H Q _ => ∃ (R : Hp) (a b : Addr) (L : Lay) (n : Int), vs = [.ref a, .ref b] ∧ Same R H ∧ LayAt C R a L ∧ L ∈ lays ∧ R b = none ∧ H b = some (.lst [.int n]) ∧
  ∀ v R' H' k, Gr [b] R H R' H' → (∃ m, H' b = some (.lst [.int m])) → Dp K R' v k.d → BlkX L k → Q v H'
theorem pick2 {x y : Int} (c : Bool) : atI [V.int x, V.int y] (if c = true then 1 else 0) = some (V.int (if c = true then y else x)) := by cases c <;> rfl
def BodyFull (L : Lay) (k : Int) (l : List Int) : Prop := (k = 3 → (l.length : Int) = L.oct) ∧ (k ≠ 3 → 2 * (l.length : Int) = L.oct) ∧ (k ≠ 3 → ∀ n ∈ l, 0 ≤ n ∧ n < 65536)
def LbMid (R Hc : Hp) (L : Lay) (a b : Addr) (k s f st : Int) (σ : St) (H : Hp) : Prop := ∃ (R' : Hp) (t : Addr) (l : List Int) (x : Option V), σ = [some (.ref a), some (.ref b), some (.int k), some (.int s), some (.int f), some (.int st), some (.ref t), x] ∧ Gr [] R Hc R' H ∧ R' t = some (.tup (l.map V.int)) ∧ BodyFull L k l
def col (f : Nat → Int) (j : Nat) : List Int := (List.range j).map f
@[simp] theorem col_len (f : Nat → Int) (j : Nat) : (col f j).length = j := by simp [col]
theorem col_succ (f : Nat → Int) (j : Nat) : col f (j + 1) = col f j ++ [f j] := by simp [col, List.range_succ]
def ColInv (R Hc : Hp) (D : Addr) (f : Nat → Int) (j : Nat) (H : Hp) : Prop := Same Hc H ∧ H D = some (.lst ((col f j).map V.int))
local macro_rules | `(tactic| fail "calls") => `(tactic| ((with_reducible show spTake _ _ _ _); refine ⟨_, _, _, rfl, by fail "hp", by fail "ar", by fail "ar", ?_⟩; fail "mut"))
section
variable {P : Program} {w : World} {K : PySem.W.Frag} {mg : Str → Option Value} {base : Heap}
theorem ok__law_block (T : Txt P K mg) : FnOk P w K mg base CX0 2 T.f__law_block T.fd__law_block ["layout", "box"] (spLawBlock K T.C_Layout) := by
  have cl_Layout := T.cl_Layout
  have a_Layout_block_size := T.a_Layout_block_size
  have a_Layout_fan := T.a_Layout_fan
  have G__law_take := ok__law_take (P := P) (w := w) (base := base) T
  refine T.F__law_block.ok sc__law_block (fun vs H Q E h => ?_) (fun cdv A outer s H vs Q E hr h => ?_)
  · obtain ⟨R, a, b, L, n, rfl, sR, ⟨dx, ha⟩, hL, Rb, hb, hq⟩ := h
    rfl
  · obtain ⟨R, a, b, L, n, rfl, sR, ⟨dx, ha⟩, hL, Rb, hb, hq⟩ := h
    refine ⟨_, (pss_cons (ps_set (i := 2) sc__law_block.nd rfl (by first | exact Or.inl rfl | exact Or.inr rfl) (pe_op (opAddU (K := K)) pe_int (pe_call G__law_take (hr.mono (by decide)) rfl T.g__law_take T.F__law_take.kp T.b__law_take .nil pass0 (pa_cons (pv 1) (pa_cons pe_int pa_nil)))))
      (pss_cons (ps_set (i := 3) sc__law_block.nd rfl (by first | exact Or.inl rfl | exact Or.inr rfl) (pe_ix (ixU (K := K)) (pe_lst (pa_cons (pe_op (opAddU (K := K)) pe_int (pe_call G__law_take (hr.mono (by decide)) rfl T.g__law_take T.F__law_take.kp T.b__law_take .nil pass0 (pa_cons (pv 1) (pa_cons pe_int pa_nil)))) (pa_cons (pe_op opSubU (pe_op opSubU (pe_op opPowU pe_int pe_int) pe_int) (pe_call G__law_take (hr.mono (by decide)) rfl T.g__law_take T.F__law_take.kp T.b__law_take .nil pass0 (pa_cons (pv 1) (pa_cons pe_int pa_nil)))) pa_nil))) (pe_callTy callIntU (by rfl) T.n_int (by decide +kernel) (pa_cons (pe_cmpR (opEqU (K := K) hr.units) (pe_call G__law_take (hr.mono (by decide)) rfl T.g__law_take T.F__law_take.kp T.b__law_take .nil pass0 (pa_cons (pv 1) (pa_cons pe_int pa_nil))) pe_int (nomark _)) pa_nil)) (fun _ _ => rfl)))
      (pss_cons (ps_set (i := 4) sc__law_block.nd rfl (by first | exact Or.inl rfl | exact Or.inr rfl) (pe_call G__law_take (hr.mono (by decide)) rfl T.g__law_take T.F__law_take.kp T.b__law_take .nil pass0 (pa_cons (pv 1) (pa_cons pe_int pa_nil))))
      (pss_cons (ps_set (i := 5) sc__law_block.nd rfl (by first | exact Or.inl rfl | exact Or.inr rfl) (pe_call G__law_take (hr.mono (by decide)) rfl T.g__law_take T.F__law_take.kp T.b__law_take .nil pass0 (pa_cons (pv 1) (pa_cons pe_int pa_nil))))
      (pss_cons (ps_if (pt_cmpR (opEqU (K := K) hr.units) (pv 2) pe_int (nomark _)) (pss_one (ps_set (i := 6) sc__law_block.nd rfl (by first | exact Or.inl rfl | exact Or.inr rfl) (pe_callTy (callTupU (K := K)) (by rfl) T.n_tuple (by decide +kernel) (pa_cons (pe_lc (own := [("k", 7)]) (g := gName 7) (tt := tYes) rfl sc__law_block.nd (pi_range1 rfl T.n_range (pa_cons (pe_fldK (K := K) (pv 0) rfl) pa_nil)) (blkOk_by (N := N__law_block) (sc := defScope s__law_block) (by decide +kernel)) (fun _ _ _ _ _ => (pg_name (i := 7) sc__law_block.nd rfl (by first | exact Or.inl rfl | exact Or.inr rfl))) (fun _ _ _ _ _ => pts_nil) (fun _ _ _ _ _ => (pe_op opModU (pe_callTy callIntU (by rfl) T.n_int (by decide +kernel) (pa_cons (pe_op (opAddU (K := K)) (pv 4) (pe_op opMultU (pv 7) (pv 5))) pa_nil)) pe_int))) pa_nil)))) (pss_one (ps_set (i := 6) sc__law_block.nd rfl (by first | exact Or.inl rfl | exact Or.inr rfl) (pe_callTy (callTupU (K := K)) (by rfl) T.n_tuple (by decide +kernel) (pa_cons (pe_lc (own := [("k", 7)]) (g := gName 7) (tt := tYes) rfl sc__law_block.nd (pi_range1 rfl T.n_range (pa_cons (pe_fldK (K := K) (pv 0) rfl) pa_nil)) (blkOk_by (N := N__law_block) (sc := defScope s__law_block) (by decide +kernel)) (fun _ _ _ _ _ => (pg_name (i := 7) sc__law_block.nd rfl (by first | exact Or.inl rfl | exact Or.inr rfl))) (fun _ _ _ _ _ => pts_nil) (fun _ _ _ _ _ => (pe_op opModU (pe_callTy callIntU (by rfl) T.n_int (by decide +kernel) (pa_cons (pe_op (opAddU (K := K)) (pv 4) (pe_op opMultU (pe_op opMultU (pv 7) (pv 5)) pe_int)) pa_nil)) pe_int))) pa_nil)))))
      (pss_one (ps_ret (pe_tup (pa_cons (pv 2) (pa_cons (pv 3) (pa_cons (pe_call G__law_take (hr.mono (by decide)) rfl T.g__law_take T.F__law_take.kp T.b__law_take .nil pass0 (pa_cons (pv 1) (pa_cons pe_int pa_nil))) (pa_cons (pv 6) pa_nil)))))))))))), ?_⟩
    try dsimp only [cxOf]
    have haH := sR _ _ ha
    have ok := lays_ok L hL
    fail "go"
    refine ⟨by fail "sz", ?_⟩
    fail "newM"
    rename_i p H1 n1 g1 m1 h1 s1
    fail "go"
    refine g_ixL (SqL.of (by fail "hp")) (pick2 _) ?_
    have e48 : (2 : Int) ^ Int.toNat 48 = 281474976710656 := by decide
    rw [e48]
    generalize hsq : (if decide (n / 3 / 300 / 9 % 8 = 0) = true then _ else _ : Int) = sq
    have sq0 : 0 ≤ sq ∧ sq < 281474976710656 := by
      rw [← hsq]
      have := Int.emod_nonneg (n / 3) (show (300 : Int) ≠ 0 by decide)
      have := Int.emod_lt_of_pos (n / 3) (show (0 : Int) < 300 by decide)
      have := Int.emod_nonneg (n / 3 / 300) (show (9 : Int) ≠ 0 by decide)
      have := Int.emod_lt_of_pos (n / 3 / 300) (show (0 : Int) < 9 by decide)
      split <;> omega
    clear hsq
    fail "gi"
    rename_i H2 g2 h2 s2
    generalize n / 3 / 300 / 9 / 8 % 70 = f at *
    generalize n / 3 / 300 / 9 / 8 / 70 % 251 = d at *
    have k0 := Int.emod_nonneg n (show (3 : Int) ≠ 0 by decide)
    have k9 := Int.emod_lt_of_pos n (show (0 : Int) < 3 by decide)
    refine g_seqIN (LbMid R H2 L a b (3 + n % 3) sq f d) ?_ (fun N rest => ?_)
    · rintro σ H3 ⟨R3, t, l, x, rfl, g3, h3, hl⟩
      have s3 := g3.rh
      have h3b := g3.same _ _ h2
      have r3b : R3 b = none := g3.fr _ _ h2 Rb
      fail "go"
      refine ⟨by fail "sz", ?_⟩
      fail "newR"
      rename_i p H5 R5 n5 g5 h5 s5
      refine hq _ R5 H5 ⟨3 + n % 3, sq, n / 3 / 300 / 9 / 8 / 70 / 251 % 32, l⟩ (by fail "gr") ⟨_, by fail "hp"⟩ ?_ ⟨⟨by show 3 ≤ 3 + n % 3; omega, hl.1, hl.2.1, hl.2.2⟩, by show 3 + n % 3 ≤ 5; omega, sq0.1, sq0.2, Int.emod_nonneg _ (by decide), by have := Int.emod_lt_of_pos (n / 3 / 300 / 9 / 8 / 70 / 251) (show (0 : Int) < 32 by decide); show n / 3 / 300 / 9 / 8 / 70 / 251 % 32 < 65536; omega⟩
      exact .tup (SqT.of h5) (.cons (.int _) (.cons (.int _) (.cons (.int _) (.cons (.tup (SqT.of (by fail "rp")) (dpAll_ints l)) .nil))))
    · have o1 := ok.o1
      have hfan : L.fan = L.oct / 2 := rfl
      fail "go"
      refine g_ite (fun e => ?_) (fun e => ?_)
      · fail "go"
        refine g_R1W (n := (L.oct).toNat) (by omega) (by omega) ?_
        intro D nD
        refine lc_range (lo := 0) (n := (L.oct).toNat) (ColInv R H2 D fun k => (f + (0 + (k : Int)) * d) % 256) ⟨(Gr.newM (M := []) (Same.refl H2) nD).same, by rw [upd_same]; rfl⟩ ?_ ?_
        · rintro j H3 hj ⟨s3, h3⟩
          refine ⟨rfl, ?_⟩
          fail "go"
          refine ⟨_, h3, by rw [List.length_map, col_len]; fail "sz", fun c o q => by rw [upd_ne (ne_of_none q nD)]; exact s3 c o q, ?_⟩
          rw [upd_same, col_succ, List.map_append]; rfl
        rintro H3 ⟨s3, h3⟩
        have sR3 := s2.trans s3
        have gm := Mu.ofSame (M := []) s2 s3
        fail "go"
        refine g_tupL (SqL.of h3) ?_
        fail "newR"
        rename_i t H4 R4 n4 g4 h4 s4
        fail "go"
        refine rest _ _ ⟨R4, t, _, _, rfl, gm.g.trans g4, h4, ?_, ?_, ?_⟩
        · intro _; rw [col_len]; omega
        · intro z; exact absurd e z
        · intro z; exact absurd e z
      · fail "go"
        refine g_R1W (n := (L.fan).toNat) (by omega) (by omega) ?_
        intro D nD
        refine lc_range (lo := 0) (n := (L.fan).toNat) (ColInv R H2 D fun k => (f + (0 + (k : Int)) * d * 37) % 65536) ⟨(Gr.newM (M := []) (Same.refl H2) nD).same, by rw [upd_same]; rfl⟩ ?_ ?_
        · rintro j H3 hj ⟨s3, h3⟩
          refine ⟨rfl, ?_⟩
          fail "go"
          refine ⟨_, h3, by rw [List.length_map, col_len]; fail "sz", fun c o q => by rw [upd_ne (ne_of_none q nD)]; exact s3 c o q, ?_⟩
          rw [upd_same, col_succ, List.map_append]; rfl
        rintro H3 ⟨s3, h3⟩
        have sR3 := s2.trans s3
        have gm := Mu.ofSame (M := []) s2 s3
        fail "go"
        refine g_tupL (SqL.of h3) ?_
        fail "newR"
        rename_i t H4 R4 n4 g4 h4 s4
        fail "go"
        refine rest _ _ ⟨R4, t, _, _, rfl, gm.g.trans g4, h4, ?_, ?_, ?_⟩
        · intro z; exact absurd z e
        · intro _; rw [col_len]; rw [hfan]; omega
        · intro _ n hn
          obtain ⟨k, _, rfl⟩ := List.mem_map.mp hn
          exact ⟨Int.emod_nonneg _ (by decide), Int.emod_lt_of_pos _ (by decide)⟩
end
def spOctets : Sp := fun vs H Q _ => ∃ (n : Int) (k : Nat), vs = [.int n, .int (k : Int)] ∧ k ≤ 100 ∧ ∀ p H', Same H H' → H p = none → H' p = some (.lst ((lows n k).map V.int)) → Q (.ref p) H'
def LowInv (R : Hp) (n : Int) (k : Nat) (p : Addr) (i : Nat) (σ : St) (H : Hp) : Prop := ∃ x : Option V, σ = [some (.int (lowsRest n i)), some (.int (k : Int)), some (.ref p), x] ∧ Same R H ∧ H p = some (.lst ((lows n i).map V.int))
local macro_rules | `(tactic| fail "calls") => `(tactic| ((with_reducible show spOctets _ _ _ _); first | refine ⟨_, 6, rfl, by omega, ?_⟩ | refine ⟨_, 2, rfl, by omega, ?_⟩ | refine ⟨_, 3, rfl, by omega, ?_⟩))
section
variable {P : Program} {w : World} {K : PySem.W.Frag} {mg : Str → Option Value} {base : Heap}
theorem ok__law_low (T : Txt P K mg) : FnOk P w K mg base CX0 1 T.f__law_low T.fd__law_low ["number", "count"] (spOctets) := by
  refine T.F__law_low.ok sc__law_low (fun vs H Q E h => ?_) (fun cdv A outer s H vs Q E hr h => ?_)
  · obtain ⟨n, k, rfl, hk, hq⟩ := h
    rfl
  · obtain ⟨n, k, rfl, hk, hq⟩ := h
    refine ⟨_, (pss_cons (ps_set (i := 2) sc__law_low.nd rfl (by first | exact Or.inl rfl | exact Or.inr rfl) (pe_lst pa_nil))
      (pss_cons (ps_for PassesOwn.never rfl (pi_range1 rfl T.n_range (pa_cons (pv 1) pa_nil)) (pg_name (i := 3) sc__law_low.nd rfl (by first | exact Or.inl rfl | exact Or.inr rfl)) (pss_cons (ps_expr (pe_bm PySem.F.plainAttrs_list PySem.F.slot_list_append PySem.F.type_list_append mt_append (pv 2) (pa_cons (pe_op opModU (pe_callTy callIntU (by rfl) T.n_int (by decide +kernel) (pa_cons (pv 0) pa_nil)) pe_int) pa_nil)))
      (pss_one (ps_set (i := 0) sc__law_low.nd rfl (by first | exact Or.inl rfl | exact Or.inr rfl) (pe_op opFloorDivU (pv 0) pe_int)))))
      (pss_one (ps_ret (pv 2))))), ?_⟩
    try dsimp only [cxOf]
    have r0 := Same.refl H
    fail "go"
    refine ⟨by fail "sz", ?_⟩
    fail "newM"
    rename_i p H1 n1 g1 m1 h1 s1
    fail "go"
    refine g_R1W rfl (by omega) ?_
    refine for_range (lo := 0) (n := k) (LowInv H n k p) ⟨none, rfl, s1, h1⟩ ?_ ?_
    · rintro i σ H2 hi ⟨x0, rfl, s2, h2⟩
      fail "go"
      rename_i H3 g3 h3 s3
      fail "go"
      refine ⟨some (.int (0 + (i : Int))), ?_, s3, ?_⟩
      · rw [lowsRest_succ]; rfl
      · rw [lows_succ, List.map_append]; exact h3
    · rintro σ H2 ⟨x0, rfl, s2, h2⟩
      fail "go"
      exact hq _ _ s2 m1 h2
end
def spLawOcts (K : PySem.W.Frag) (C : Addr) : Sp := fun vs H Q _ => ∃ (a : Addr) (v : V) (L : Lay) (b : Option Blk), vs = [.ref a, v] ∧ LayAt C H a L ∧ L.Ok ∧ Dp K H v (optD b) ∧ FullO L b ∧
  ∀ p H', Same H H' → H p = none → H' p = some (.lst ((octs L b).map V.int)) → Q (.ref p) H'
def LoInv (R : Hp) (a t : Addr) (b : Blk) (i : Nat) (σ : St) (H : Hp) : Prop := ∃ (x : Option V) (p : Addr), σ = [some (.ref a), some (.ref t), some (.ref p), x] ∧ Same R H ∧ R p = none ∧ H p = some (.lst ((headOf b ++ pairs (b.body.take i)).map V.int))
section
variable {P : Program} {w : World} {K : PySem.W.Frag} {mg : Str → Option Value} {base : Heap}
theorem ok__law_octets (T : Txt P K mg) : FnOk P w K mg base CX0 2 T.f__law_octets T.fd__law_octets ["layout", "block"] (spLawOcts K T.C_Layout) := by
  have cl_Layout := T.cl_Layout
  have a_Layout_block_size := T.a_Layout_block_size
  have G__law_low := ok__law_low (P := P) (w := w) (base := base) T
  refine T.F__law_octets.ok sc__law_octets (fun vs H Q E h => ?_) (fun cdv A outer s H vs Q E hr h => ?_)
  · obtain ⟨a, v, L, b, rfl, ⟨dx, ha⟩, hL, hv, hb, hq⟩ := h
    rfl
  · obtain ⟨a, v, L, b, rfl, ⟨dx, ha⟩, hL, hv, hb, hq⟩ := h
    refine ⟨_, (pss_cons (ps_if (pt_cmpR opIsU (pv 1) pe_non (nomark _)) (pss_one (ps_ret (pe_op opMultU (pe_lst (pa_cons pe_int pa_nil)) (pe_op (opAddU (K := K)) pe_int (pe_fldK (K := K) (pv 0) rfl))))) pss_nil)
      (pss_cons (ps_set (i := 2) sc__law_octets.nd rfl (by first | exact Or.inl rfl | exact Or.inr rfl) (pe_op (opAddU (K := K)) (pe_op (opAddU (K := K)) (pe_op (opAddU (K := K)) (pe_lst (pa_cons (pe_ix (ixU (K := K)) (pv 1) pe_int (fun _ _ => rfl)) pa_nil)) (pe_call G__law_low (hr.mono (by decide)) rfl T.g__law_low T.F__law_low.kp T.b__law_low .nil pass0 (pa_cons (pe_ix (ixU (K := K)) (pv 1) pe_int (fun _ _ => rfl)) (pa_cons pe_int pa_nil)))) (pe_call G__law_low (hr.mono (by decide)) rfl T.g__law_low T.F__law_low.kp T.b__law_low .nil pass0 (pa_cons (pe_ix (ixU (K := K)) (pv 1) pe_int (fun _ _ => rfl)) (pa_cons pe_int pa_nil)))) (pe_op opMultU (pe_lst (pa_cons pe_int pa_nil)) pe_int)))
      (pss_cons (ps_if (pt_cmpR (opEqU (K := K) hr.units) (pe_ix (ixU (K := K)) (pv 1) pe_int (fun _ _ => rfl)) pe_int (nomark _)) (pss_one (ps_ret (pe_op (opAddU (K := K)) (pv 2) (pe_callTy (callListU (K := K)) (by rfl) T.n_list (by decide +kernel) (pa_cons (pe_ix (ixU (K := K)) (pv 1) pe_int (fun _ _ => rfl)) pa_nil))))) pss_nil)
      (pss_cons (ps_for PassesOwn.never rfl (pi_tupK (K := K) (pe_ix (ixU (K := K)) (pv 1) pe_int (fun _ _ => rfl))) (pg_name (i := 3) sc__law_octets.nd rfl (by first | exact Or.inl rfl | exact Or.inr rfl)) (pss_one (ps_set (i := 2) sc__law_octets.nd rfl (by first | exact Or.inl rfl | exact Or.inr rfl) (pe_op (opAddU (K := K)) (pv 2) (pe_call G__law_low (hr.mono (by decide)) rfl T.g__law_low T.F__law_low.kp T.b__law_low .nil pass0 (pa_cons (pv 3) (pa_cons pe_int pa_nil)))))))
      (pss_one (ps_ret (pv 2))))))), ?_⟩
    try dsimp only [cxOf]
    have r0 := Same.refl H
    have o1 := hL.o1
    cases b with
    | none =>
      obtain rfl := dp_non hv
      fail "go"
      refine ⟨by fail "sz", ?_⟩
      fail "newM"
      rename_i z H2 n2 g2 m2 h2 s2
      fail "go"
      refine g_repZ (by fail "hp") (by omega) (by omega) ?_
      fail "newM"
      rename_i y H3 n3 g3 m3 h3 s3
      exact hq _ _ s3 m3 h3
    | some b =>
      obtain ⟨t, u, rfl, ht, hu⟩ := dpBlk hv
      have hf : Full L b := hb
      rw [octs_full hf] at hq
      fail "go"
      refine ⟨by fail "sz", ?_⟩
      fail "newM"
      rename_i z H1 n1 g1 m1 h1 s1
      fail "go"
      fail "ret"
      rename_i p2 H2 h2 f2 g2 m2 s2
      refine g_catI (l := [b.kind]) (by fail "hp") h2 (by simp) ?_
      fail "newM"
      rename_i p3 H3 n3 g3 m3 h3 s3
      fail "go"
      fail "ret"
      rename_i p4 H4 h4 f4 g4 m4 s4
      refine g_catI (by fail "hp") h4 (by simp) ?_
      fail "newM"
      rename_i p5 H5 n5 g5 m5 h5 s5
      fail "go"
      refine ⟨by fail "sz", ?_⟩
      fail "newM"
      rename_i p6 H6 n6 g6 m6 h6 s6
      fail "go"
      refine g_repZ (by fail "hp") (by simp) (by simp) ?_
      fail "newM"
      rename_i p7 H7 n7 g7 m7 h7 s7
      refine g_catI (by fail "hp") h7 (by simp) ?_
      fail "newM"
      rename_i p8 H8 n8 g8 m8 h8 s8
      have h8' : H8 p8 = some (.lst ((headOf b).map V.int)) := h8
      clear h8
      fail "go"
      refine g_ite (fun e => ?_) (fun e => ?_)
      · have hd := hf.d e
        fail "go"
        refine g_listT (by fail "sq") ?_
        fail "newM"
        rename_i y H9 n9 g9 m9 h9 s9
        fail "go"
        refine g_catI (by fail "hp") h9 (by simp; omega) ?_
        fail "newM"
        rename_i w HA nA gA mA hA sA
        refine hq _ _ sA mA ?_
        rw [hA, found, if_pos e]
      · have hd := hf.p e
        have hr := hf.r e
        rw [found, if_neg e] at hq
        fail "go"
        refine g_TsW (by fail "sq") ?_
        refine for_tup (K := K) (xs := b.body.map V.int) (LoInv H a t b) ⟨none, p8, rfl, s8, m8, by rw [h8']; simp [pairs]⟩ (fun i σ H2 _ ⟨_, _, _, s2, _⟩ => sqT_mono s2 hu) ?_ ?_
        · rintro i x σ H9 hi ⟨x0, p, rfl, s9, m9, h9⟩
          obtain ⟨n, hn, rfl⟩ := map_get hi
          have hil : i < b.body.length := (List.getElem?_eq_some_iff.mp hn).1
          fail "go"
          fail "ret"
          rename_i pA HA hA fA gA mA sA
          refine g_catI (by fail "hp") hA (by simp; omega) ?_
          fail "newM"
          rename_i w HB nB gB mB hB sB
          fail "go"
          refine ⟨some (.int n), w, rfl, sB, mB, ?_⟩
          rw [hB, take_snoc hn, pairs_snoc, pair_low (hr n (List.mem_of_getElem? hn)), List.append_assoc]
        · rintro σ H9 ⟨x0, p, rfl, s9, m9, h9⟩
          rw [List.length_map, List.take_length] at h9
          fail "go"
          exact hq _ _ s9 m9 h9
end
def spLawCheck (K : PySem.W.Frag) (C : Addr) : Sp := fun vs H Q _ => ∃ (a : Addr) (v : V) (L : Lay) (n : Int) (b : Option Blk), vs = [.ref a, .int n, v] ∧ LayAt C H a L ∧ L.Ok ∧ Dp K H v (optD b) ∧ FullO L b ∧ ∀ H', Same H H' → Q (.int (chk L n b)) H'
def LChkInv (R : Hp) (a : Addr) (v : V) (n : Int) (os : List Int) (i : Nat) (σ : St) (H : Hp) : Prop := ∃ x : Option V, σ = [some (.ref a), some (.int n), some v, some (.int ((os.take i).foldl chkStep (n + 1))), x] ∧ Same R H
section
variable {P : Program} {w : World} {K : PySem.W.Frag} {mg : Str → Option Value} {base : Heap}
theorem ok__law_check (T : Txt P K mg) : FnOk P w K mg base CX0 3 T.f__law_check T.fd__law_check ["layout", "address", "block"] (spLawCheck K T.C_Layout) := by
  have G__law_octets := ok__law_octets (P := P) (w := w) (base := base) T
  refine T.F__law_check.ok sc__law_check (fun vs H Q E h => ?_) (fun cdv A outer s H vs Q E hr h => ?_)
  · obtain ⟨a, v, L, n, b, rfl, ha, hL, hv, hb, hq⟩ := h
    rfl
  · obtain ⟨a, v, L, n, b, rfl, ha, hL, hv, hb, hq⟩ := h
    refine ⟨_, (pss_cons (ps_set (i := 3) sc__law_check.nd rfl (by first | exact Or.inl rfl | exact Or.inr rfl) (pe_op (opAddU (K := K)) (pv 1) pe_int))
      (pss_cons (ps_for PassesOwn.never rfl (pi_listK (K := K) (pe_call G__law_octets (hr.mono (by decide)) rfl T.g__law_octets T.F__law_octets.kp T.b__law_octets .nil pass0 (pa_cons (pv 0) (pa_cons (pv 2) pa_nil)))) (pg_name (i := 4) sc__law_check.nd rfl (by first | exact Or.inl rfl | exact Or.inr rfl)) (pss_one (ps_set (i := 3) sc__law_check.nd rfl (by first | exact Or.inl rfl | exact Or.inr rfl) (pe_op opModU (pe_callTy callIntU (by rfl) T.n_int (by decide +kernel) (pa_cons (pe_op (opAddU (K := K)) (pe_op (opAddU (K := K)) (pe_op opMultU (pv 3) pe_int) (pv 4)) pe_int) pa_nil)) pe_int))))
      (pss_one (ps_ret (pv 3))))), ?_⟩
    try dsimp only [cxOf]
    have r0 := Same.refl H
    fail "go"
    refine ⟨a, v, L, b, rfl, ha, hL, hv, hb, ?_⟩
    fail "ret"
    rename_i p H1 h1 f1 g1 m1 s1
    refine g_LsW (SqL.of h1) ?_
    refine for_list (K := K) (xs := (octs L b).map V.int) (LChkInv H1 a v n (octs L b)) ⟨none, rfl, Same.refl H1⟩ (fun i σ H2 _ ⟨_, _, s2⟩ => SqL.of (s2 _ _ h1)) ?_ ?_
    · rintro i x σ H2 hi ⟨x0, rfl, s2⟩
      obtain ⟨o, ho, rfl⟩ := map_get hi
      fail "go"
      refine ⟨some (.int o), ?_, s2⟩
      rw [take_snoc ho, List.foldl_append]; rfl
    · rintro σ H2 ⟨x0, rfl, s2⟩
      rw [List.length_map, List.take_length]
      fail "go"
      exact hq _ (s1.trans s2)
end
def spLawSealed (K : PySem.W.Frag) (C : Addr) : Sp := fun vs H Q _ => ∃ (a : Addr) (v : V) (L : Lay) (n : Int) (b : Option Blk), vs = [.ref a, .int n, v] ∧ LayAt C H a L ∧ L.Ok ∧ Dp K H v (optD b) ∧ FullO L b ∧ (b = none → Q .non H) ∧ (∀ k, b = some k → ∀ p H', Same H H' → H p = none → H' p = some (.tup [v, .int (chk L n (some k))]) → Q (.ref p) H')
section
variable {P : Program} {w : World} {K : PySem.W.Frag} {mg : Str → Option Value} {base : Heap}
theorem ok__law_sealed (T : Txt P K mg) : FnOk P w K mg base CX0 4 T.f__law_sealed T.fd__law_sealed ["layout", "address", "block"] (spLawSealed K T.C_Layout) := by
  have G__law_check := ok__law_check (P := P) (w := w) (base := base) T
  refine T.F__law_sealed.ok sc__law_sealed (fun vs H Q E h => ?_) (fun cdv A outer s H vs Q E hr h => ?_)
  · obtain ⟨a, v, L, n, b, rfl, ha, hL, hv, hb, hq⟩ := h
    rfl
  · obtain ⟨a, v, L, n, b, rfl, ha, hL, hv, hb, hq⟩ := h
    refine ⟨_, (pss_cons (ps_if (pt_cmpR opIsU (pv 2) pe_non (nomark _)) (pss_one (ps_ret pe_non)) pss_nil)
      (pss_one (ps_ret (pe_tup (pa_cons (pv 2) (pa_cons (pe_call G__law_check (hr.mono (by decide)) rfl T.g__law_check T.F__law_check.kp T.b__law_check .nil pass0 (pa_cons (pv 0) (pa_cons (pv 1) (pa_cons (pv 2) pa_nil)))) pa_nil)))))), ?_⟩
    try dsimp only [cxOf]
    have r0 := Same.refl H
    rcases optV hv with ⟨rfl, rfl⟩ | ⟨c, t, rfl, rfl⟩
    · fail "go"
      exact hq.1 rfl
    · fail "go"
      refine ⟨a, _, L, n, some c, rfl, ha, hL, hv, hb, fun H1 s1 => ?_⟩
      fail "go"
      refine ⟨by fail "sz", fun p n1 => ?_⟩
      have s2 := (Gr.newR (M := []) (o := HO.tup [.ref t, .int (chk L n (some c))]) (Same.refl H1) n1).same
      exact hq.2 c rfl _ _ (s1.trans s2) (s1.free n1) upd_same
end
theorem step_range9 (t o : Int) : 0 ≤ chkStep t o ∧ chkStep t o < 4294967291 := ⟨Int.emod_nonneg _ (by decide), Int.emod_lt_of_pos _ (by decide)⟩
theorem fold_range : ∀ (os : List Int) (t : Int), 0 ≤ t ∧ t < 4294967291 → 0 ≤ os.foldl chkStep t ∧ os.foldl chkStep t < 4294967291
  | [], _, h => h
  | o :: os, t, _ => fold_range os _ (step_range9 t o)
def spLawCell (K : PySem.W.Frag) (C : Addr) : Sp := fun vs H Q _ => ∃ (R : Hp) (a b : Addr) (L : Lay) (n z : Int), vs = [.ref a, .int n, .ref b] ∧ Same R H ∧ LayAt C R a L ∧ L ∈ lays ∧ 0 ≤ n ∧ n < 1000000 ∧ R b = none ∧ H b = some (.lst [.int z]) ∧
  ∀ v R' H' c, Gr [b] R H R' H' → (∃ m, H' b = some (.lst [.int m])) → Dp K R' v (cellD c) → CellX L c → Q v H'
section
variable {P : Program} {w : World} {K : PySem.W.Frag} {mg : Str → Option Value} {base : Heap}
theorem ok__law_cell (T : Txt P K mg) : FnOk P w K mg base CX0 5 T.f__law_cell T.fd__law_cell ["layout", "address", "box"] (spLawCell K T.C_Layout) := by
  have G__law_take := ok__law_take (P := P) (w := w) (base := base) T
  have G__law_number := ok__law_number (P := P) (w := w) (base := base) T
  have G__law_block := ok__law_block (P := P) (w := w) (base := base) T
  have G__law_sealed := ok__law_sealed (P := P) (w := w) (base := base) T
  refine T.F__law_cell.ok sc__law_cell (fun vs H Q E h => ?_) (fun cdv A outer s H vs Q E hr h => ?_)
  · obtain ⟨R, a, b, L, n, z, rfl, sR, ha, hL, n0, n1, Rb, hb, hq⟩ := h
    rfl
  · obtain ⟨R, a, b, L, n, z, rfl, sR, ha, hL, n0, n1, Rb, hb, hq⟩ := h
    refine ⟨_, (pss_cons (ps_set (i := 3) sc__law_cell.nd rfl (by first | exact Or.inl rfl | exact Or.inr rfl) (pe_call G__law_take (hr.mono (by decide)) rfl T.g__law_take T.F__law_take.kp T.b__law_take .nil pass0 (pa_cons (pe_lst (pa_cons (pe_call G__law_number (hr.mono (by decide)) rfl T.g__law_number T.F__law_number.kp T.b__law_number .nil pass0 (pa_cons (pe_lst (pa_cons (pe_ix (ixU (K := K)) (pv 2) pe_int (fun _ _ => rfl)) pa_nil)) (pa_cons pe_int pa_nil))) pa_nil)) (pa_cons pe_int pa_nil))))
      (pss_cons (ps_set (i := 4) sc__law_cell.nd rfl (by first | exact Or.inl rfl | exact Or.inr rfl) (pe_call G__law_block (hr.mono (by decide)) rfl T.g__law_block T.F__law_block.kp T.b__law_block .nil pass0 (pa_cons (pv 0) (pa_cons (pv 2) pa_nil))))
      (pss_cons (ps_set (i := 5) sc__law_cell.nd rfl (by first | exact Or.inl rfl | exact Or.inr rfl) (pe_call G__law_take (hr.mono (by decide)) rfl T.g__law_take T.F__law_take.kp T.b__law_take .nil pass0 (pa_cons (pv 2) (pa_cons pe_int pa_nil))))
      (pss_cons (ps_if (pt_cmpR op_lt (pv 5) pe_int (nomark _)) (pss_one (ps_ret (pe_tup (pa_cons (pe_ix (ixU (K := K)) (pe_lst (pa_cons (pv 4) (pa_cons pe_non pa_nil))) (pv 5) (fun _ _ => rfl)) (pa_cons (pv 3) pa_nil))))) pss_nil)
      (pss_one (ps_ret (pe_call G__law_sealed (hr.mono (by decide)) rfl T.g__law_sealed T.F__law_sealed.kp T.b__law_sealed .nil pass0 (pa_cons (pv 0) (pa_cons (pv 1) (pa_cons (pv 4) pa_nil)))))))))), ?_⟩
    try dsimp only [cxOf]
    have hOk := lays_ok L hL
    fail "go"
    refine ⟨by fail "sz", ?_⟩
    fail "newM"
    rename_i p1 H1 n1' g1 m1 h1 s1
    fail "go"
    refine ⟨p1, [z], _, rfl, SqL.of h1, by decide, ?_⟩
    fail "go"
    refine ⟨by fail "sz", ?_⟩
    fail "newM"
    rename_i f H2 n2 g2 m2 h2 s2
    generalize lawNumber [z] 3 = fn at h2
    have hb2 : H2 b = some (.lst [.int z]) := by fail "hp"
    have fb : f ≠ b := (ne_of_none (g1.g.same _ _ hb) n2).symm
    have gA : Mu [] R H H2 := ⟨g1.g.trans g2.g⟩
    have nf : H f = none := g1.g.free n2
    clear g1 g2 h1 s1 sR
    fail "go"
    rename_i H3 g3 h3 s3
    have hb3 := g3.g.hh _ _ (by simpa using fb.symm) hb2
    have gB : Mu [] R H H3 := ⟨(gA.g.nil.trans g3.g).forget (by intro y hy hn; rw [List.mem_singleton.mp hy]; exact nf)⟩
    clear gA g3 h3 h2 s2 n2 m2 nf hb2
    have c0 : 0 ≤ fn % 4294967291 ∧ fn % 4294967291 < 4294967296 := by
      have := Int.emod_nonneg fn (show (4294967291 : Int) ≠ 0 by decide)
      have := Int.emod_lt_of_pos fn (show (0 : Int) < 4294967291 by decide)
      omega
    generalize fn % 4294967291 = chk0 at c0 ⊢
    refine ⟨R, a, b, L, z, rfl, s3, ha, hL, Rb, hb3, ?_⟩
    rintro v R4 H4 k g4 ⟨m4, hb4⟩ dk bx
    have s4 := g4.rh
    have R4b : R4 b = none := g4.fr _ _ hb3 Rb
    have ha4 := ha.mono g4.rr
    have gC : Gr [b] R H R4 H4 := gB.g.nil.trans g4
    clear gB g4 s3 hb3
    fail "go"
    rename_i H5 g5 h5 s5
    have gD : Gr [b] R H R4 H5 := gC.trans g5.g
    clear gC g5 s4 hb4
    refine g_ite (fun e => ?_) (fun e => ?_)
    · fail "go"
      refine ⟨by fail "sz", ?_⟩
      fail "newM"
      rename_i p6 H6 n6 g6 m6 h6 s6
      have hb6 := g6.g.same _ _ h5
      have q0 := Int.emod_nonneg m4 (show (5 : Int) ≠ 0 by decide)
      have : m4 % 5 = 0 ∨ m4 % 5 = 1 := by omega
      rcases this with e5 | e5
      · rw [e5]
        fail "go"
        refine ⟨by fail "sz", ?_⟩
        fail "newR"
        rename_i p7 H7 R7 n7 g7 h7 s7
        refine hq _ R7 H7 (some (some k, chk0)) (gD.trans (g6.g.nil.trans g7.nil)) ⟨_, g7.same _ _ hb6⟩ (.tup (SqT.of h7) (.cons (dp_mono g7.rr dk) (.cons (.int _) .nil))) ⟨fun x hx => (by cases hx; exact bx), c0⟩
      · rw [e5]
        fail "go"
        refine ⟨by fail "sz", ?_⟩
        fail "newR"
        rename_i p7 H7 R7 n7 g7 h7 s7
        refine hq _ R7 H7 (some (none, chk0)) (gD.trans (g6.g.nil.trans g7.nil)) ⟨_, g7.same _ _ hb6⟩ (.tup (SqT.of h7) (.cons .non (.cons (.int _) .nil))) ⟨fun x hx => (nomatch hx), c0⟩
    · fail "go"
      refine ⟨a, v, L, n, some k, rfl, ha4.mono s5, hOk, dp_mono s5 dk, bx.full, ⟨fun z => (nomatch z), fun k' ek p6 H6 s6 n6 h6 => ?_⟩⟩
      cases ek
      have g6 := retR s5 s6 n6 h6
      have cr := fold_range (octs L (some k)) (n + 1) (by omega)
      refine hq _ _ H6 (some (some k, chk L n (some k))) (gD.trans g6.nil) ⟨_, s6 _ _ h5⟩ (.tup (SqT.of upd_same) (.cons (dp_mono g6.rr dk) (.cons (.int _) .nil))) ⟨fun x hx => (by cases hx; exact bx), cr.1, by have := cr.2; unfold chk; omega⟩
end
def spCount (C : Addr) : Sp := fun vs H Q _ => ∃ (d a l1 l2 l3 : Addr), vs = [.ref d] ∧ DevAt C H d a l1 l2 l3 ∧ Q .non H
section
variable {P : Program} {w : World} {K : PySem.W.Frag} {mg : Str → Option Value} {base : Heap}
theorem ok_Device__count_command (T : Txt P K mg) : FnOk P w K mg base CX0 1 T.f_Device__count_command T.fd_Device__count_command ["self"] (spCount T.C_Device) := by
  have cl_Device := T.cl_Device
  have a_Device_dark := T.a_Device_dark
  have a_Device_fuse := T.a_Device_fuse
  refine T.F_Device__count_command.ok sc_Device__count_command (fun vs H Q E h => ?_) (fun cdv A outer s H vs Q E hr h => ?_)
  · obtain ⟨d, a, l1, l2, l3, rfl, ⟨dx, hd⟩, hq⟩ := h
    rfl
  · obtain ⟨d, a, l1, l2, l3, rfl, ⟨dx, hd⟩, hq⟩ := h
    refine ⟨_, (pss_cons (ps_if (PW.pt (pw_or (pt_cmpR opIsU (pe_fldK (K := K) (pv 0) rfl) pe_non (nomark _)) (pw_or1 (pt_truthK (K := K) (pe_fldK (K := K) (pv 0) rfl) (by intro _; rfl))))) (pss_one ps_retN) pss_nil)
      (pss_one (ps_if (pt_cmpR (opEqU (K := K) hr.units) (pe_fldK (K := K) (pv 0) rfl) pe_int (nomark _)) (pss_one (ps_fld (pv 0) pe_bl rfl)) (pss_one (ps_fld (pv 0) (pe_op opSubU (pe_fldK (K := K) (pv 0) rfl) pe_int) rfl))))), ?_⟩
    try dsimp only [cxOf]
    have r0 := Same.refl H
    fail "go"
    exact hq
end
def spDevWrite (K : PySem.W.Frag) (C : Addr) : Sp := fun vs H Q _ => ∃ (R : Hp) (d a l1 l2 l3 : Addr) (us ws : List V) (v : V) (n : Nat), vs = [.ref d, .int (n : Int), v] ∧ Same R H ∧ R l2 = none ∧ R l3 = none ∧ DevAt C H d a l1 l2 l3 ∧ H l2 = some (.lst us) ∧ H l3 = some (.lst ws) ∧ l2 ≠ l3 ∧ n < us.length ∧ ws.length ≤ 100 ∧
  ∀ H' w, Gr [l2, l3] R H R H' → H' l2 = some (.lst (us.set n v)) → H' l3 = some (.lst (ws ++ [w])) → Q .non H'
section
variable {P : Program} {w : World} {K : PySem.W.Frag} {mg : Str → Option Value} {base : Heap}
theorem ok_Device_write (T : Txt P K mg) : FnOk P w K mg base CX0 2 T.f_Device_write T.fd_Device_write ["self", "address", "block"] (spDevWrite K T.C_Device) := by
  have cl_Device := T.cl_Device
  have a_Device_seen := T.a_Device_seen
  have a_Device_dark := T.a_Device_dark
  have a_Device_waiting := T.a_Device_waiting
  have G_Device__count_command := ok_Device__count_command (P := P) (w := w) (base := base) T
  refine T.F_Device_write.ok sc_Device_write (fun vs H Q E h => ?_) (fun cdv A outer s H vs Q E hr h => ?_)
  · obtain ⟨R, d, a, l1, l2, l3, us, ws, v, n, rfl, sR, R2, R3, ⟨dx, hd⟩, h2, h3, l23, hn, hw, hq⟩ := h
    rfl
  · obtain ⟨R, d, a, l1, l2, l3, us, ws, v, n, rfl, sR, R2, R3, ⟨dx, hd⟩, h2, h3, l23, hn, hw, hq⟩ := h
    refine ⟨_, (pss_cons (ps_expr (pe_meth0 (pv 0) T.cl_Device T.m_Device__count_command G_Device__count_command (hr.mono (by decide)) T.b_Device__count_command .nil pass0))
      (pss_cons (ps_asg (pv 2) (pg_sub (pe_fldK (K := K) (pv 0) rfl) (pv 1) set_list))
      (pss_one (ps_if (pt_not (pt_truthK (K := K) (pe_fldK (K := K) (pv 0) rfl) (by intro _; rfl))) (pss_one (ps_expr (pe_bm PySem.F.plainAttrs_list PySem.F.slot_list_append PySem.F.type_list_append mt_append (pe_fldK (K := K) (pv 0) rfl) (pa_cons (pe_tup (pa_cons (pv 1) (pa_cons (pv 2) pa_nil))) pa_nil)))) pss_nil)))), ?_⟩
    try dsimp only [cxOf]
    fail "go"
    refine ⟨d, a, l1, l2, l3, rfl, ⟨_, hd⟩, ?_⟩
    fail "go"
    refine g_setL (j := n) h2 (by unfold ixN; simp; omega) ?_
    fail "mut"
    rename_i H1 g1 h1 s1
    have d2 : d ≠ l2 := by rintro rfl; rw [hd] at h2; cases h2
    have hd1 := g1.g.hh _ _ (by simpa using d2) hd
    have h31 := g1.g.hh _ _ (by simpa using l23.symm) h3
    fail "go"
    refine ⟨false, rfl, ?_⟩
    fail "go"
    refine ⟨by fail "sz", ?_⟩
    fail "newM"
    rename_i p H2 n2 g2 m2 h2' s2
    have h32 := g2.g.same _ _ h31
    have h12 := g2.g.same _ _ h1
    have hd2 := g2.g.same _ _ hd1
    have gA : Mu [l2] R H H2 := ⟨g1.g.trans g2.g.nil⟩
    clear g1 g2 h1 h31 hd1 s1 sR
    fail "go"
    rename_i H3 g3 h3' s3
    exact hq H3 _ ((gA.g.mono (by simp)).trans (g3.g.mono (by simp))) (g3.g.hh _ _ (by simpa using l23) h12) h3' 
end
def OctInv (R : Hp) (n : Int) (k : Nat) (p : Addr) (i : Nat) (σ : St) (H : Hp) : Prop := ∃ x : Option V, σ = [some (.int (lowsRest n i)), some (.int (k : Int)), some (.ref p), x] ∧ Same R H ∧ H p = some (.lst ((lows n i).map V.int))
section
variable {P : Program} {w : World} {K : PySem.W.Frag} {mg : Str → Option Value} {base : Heap}
theorem ok_number_octets (T : Txt P K mg) : FnOk P w K mg base CX0 1 T.f_number_octets T.fd_number_octets ["number", "count"] (spOctets) := by
  refine T.F_number_octets.ok sc_number_octets (fun vs H Q E h => ?_) (fun cdv A outer s H vs Q E hr h => ?_)
  · obtain ⟨n, k, rfl, hk, hq⟩ := h
    rfl
  · obtain ⟨n, k, rfl, hk, hq⟩ := h
    refine ⟨_, (pss_cons (ps_set (i := 2) sc_number_octets.nd rfl (by first | exact Or.inl rfl | exact Or.inr rfl) (pe_lst pa_nil))
      (pss_cons (ps_for PassesOwn.never rfl (pi_range1 rfl T.n_range (pa_cons (pv 1) pa_nil)) (pg_name (i := 3) sc_number_octets.nd rfl (by first | exact Or.inl rfl | exact Or.inr rfl)) (pss_cons (ps_expr (pe_bm PySem.F.plainAttrs_list PySem.F.slot_list_append PySem.F.type_list_append mt_append (pv 2) (pa_cons (pe_op opModU (pv 0) pe_int) pa_nil)))
      (pss_one (ps_set (i := 0) sc_number_octets.nd rfl (by first | exact Or.inl rfl | exact Or.inr rfl) (pe_op opFloorDivU (pv 0) pe_int)))))
      (pss_one (ps_ret (pv 2))))), ?_⟩
    try dsimp only [cxOf]
    have r0 := Same.refl H
    fail "go"
    refine ⟨by fail "sz", ?_⟩
    fail "newM"
    rename_i p H1 n1 g1 m1 h1 s1
    fail "go"
    refine g_R1W rfl (by omega) ?_
    refine for_range (lo := 0) (n := k) (OctInv H n k p) ⟨none, rfl, s1, h1⟩ ?_ ?_
    · rintro i σ H2 hi ⟨x0, rfl, s2, h2⟩
      fail "go"
      rename_i H3 g3 h3 s3
      refine ⟨some (.int (0 + (i : Int))), ?_, s3, ?_⟩
      · rw [lowsRest_succ]; rfl
      · rw [lows_succ, List.map_append]; exact h3
    · rintro σ H2 ⟨x0, rfl, s2, h2⟩
      fail "go"
      exact hq _ _ s2 m1 h2
end
section
variable {P : Program} {w : World} {K : PySem.W.Frag} {mg : Str → Option Value} {base : Heap}
theorem ok_summary_octets (T : Txt P K mg) : FnOk P w K mg base CX0 1 T.f_summary_octets T.fd_summary_octets ["layout", "mark", "numbers", "action"] (fun _ _ _ _ => False) := T.F_summary_octets.ok sc_summary_octets (fun _ _ _ _ h => h.elim) (fun _ _ _ _ _ _ _ _ _ h => h.elim)
end
section
variable {P : Program} {w : World} {K : PySem.W.Frag} {mg : Str → Option Value} {base : Heap}
theorem ok_bits_of (T : Txt P K mg) : FnOk P w K mg base CX0 1 T.f_bits_of T.fd_bits_of ["used", "last_id"] (fun _ _ _ _ => False) := T.F_bits_of.ok sc_bits_of (fun _ _ _ _ h => h.elim) (fun _ _ _ _ _ _ _ _ _ h => h.elim)
end
def spPairs (K : PySem.W.Frag) : Sp := fun vs H Q _ => ∃ (a : Addr) (ns : List Int), vs = [.ref a] ∧ SqT K H a (ns.map V.int) ∧ ns.length ≤ 300 ∧ ∀ p H', Same H H' → H p = none → H' p = some (.lst ((pairs ns).map V.int)) → Q (.ref p) H'
def PairInv (R : Hp) (a : Addr) (ns : List Int) (p : Addr) (i : Nat) (σ : St) (H : Hp) : Prop := ∃ x : Option V, σ = [some (.ref a), some (.ref p), x] ∧ Same R H ∧ H p = some (.lst ((pairs (ns.take i)).map V.int))
section
variable {P : Program} {w : World} {K : PySem.W.Frag} {mg : Str → Option Value} {base : Heap}
theorem ok_pairs_of (T : Txt P K mg) : FnOk P w K mg base CX0 1 T.f_pairs_of T.fd_pairs_of ["numbers"] (spPairs K) := by
  refine T.F_pairs_of.ok sc_pairs_of (fun vs H Q E h => ?_) (fun cdv A outer s H vs Q E hr h => ?_)
  · obtain ⟨a, ns, rfl, ha, hk, hq⟩ := h
    rfl
  · obtain ⟨a, ns, rfl, ha, hk, hq⟩ := h
    refine ⟨_, (pss_cons (ps_set (i := 1) sc_pairs_of.nd rfl (by first | exact Or.inl rfl | exact Or.inr rfl) (pe_lst pa_nil))
      (pss_cons (ps_for PassesOwn.never rfl (pi_tupK (K := K) (pv 0)) (pg_name (i := 2) sc_pairs_of.nd rfl (by first | exact Or.inl rfl | exact Or.inr rfl)) (pss_cons (ps_expr (pe_bm PySem.F.plainAttrs_list PySem.F.slot_list_append PySem.F.type_list_append mt_append (pv 1) (pa_cons (pe_op opModU (pv 2) pe_int) pa_nil)))
      (pss_one (ps_expr (pe_bm PySem.F.plainAttrs_list PySem.F.slot_list_append PySem.F.type_list_append mt_append (pv 1) (pa_cons (pe_op opFloorDivU (pv 2) pe_int) pa_nil))))))
      (pss_one (ps_ret (pv 1))))), ?_⟩
    try dsimp only [cxOf]
    have r0 := Same.refl H
    fail "go"
    refine ⟨by fail "sz", ?_⟩
    fail "newM"
    rename_i p H1 n1 g1 m1 h1 s1
    fail "go"
    refine g_TsW (by fail "sq") ?_
    refine for_tup (K := K) (xs := ns.map V.int) (PairInv H a ns p) ⟨none, rfl, s1, h1⟩ (fun i σ H2 _ ⟨_, _, s2, _⟩ => sqT_mono s2 ha) ?_ ?_
    · rintro i x σ H2 hi ⟨x0, rfl, s2, h2⟩
      obtain ⟨n, hn, rfl⟩ := map_get hi
      have hil : i < ns.length := (List.getElem?_eq_some_iff.mp hn).1
      have htl : (ns.take i).length = i := by rw [List.length_take]; omega
      fail "go"
      rename_i H3 g3 h3 s3
      refine ⟨_, rfl, s3, ?_⟩
      rw [take_snoc hn, pairs_snoc, List.map_append]
      rw [h3, List.append_assoc]; rfl
    · rintro σ H2 ⟨x0, rfl, s2, h2⟩
      rw [List.length_map, List.take_length] at h2
      fail "go"
      exact hq _ _ s2 m1 h2
end
def spBody (K : PySem.W.Frag) (C : Addr) : Sp := fun vs H Q _ => ∃ (a t : Addr) (L : Lay) (k : Int) (ns : List Int), vs = [.ref a, .int k, .ref t] ∧ LayAt C H a L ∧ L.Ok ∧ 3 ≤ k ∧ SqT K H t (ns.map V.int) ∧ ns.length ≤ 300 ∧
  ∀ p H', Same H H' → H p = none → H' p = some (.lst ((bodyOf L k ns).map V.int)) → Q (.ref p) H'
def BodyMid (R : Hp) (a t : Addr) (k : Int) (ns : List Int) (σ : St) (H : Hp) : Prop := ∃ p, σ = [some (.ref a), some (.int k), some (.ref t), some (.ref p)] ∧ Same R H ∧ R p = none ∧ H p = some (.lst ((found k ns).map V.int))
local macro_rules | `(tactic| fail "calls") => `(tactic| ((with_reducible show spPairs _ _ _ _ _); refine ⟨_, _, rfl, by fail "sq", by fail "ar", ?_⟩))
section
variable {P : Program} {w : World} {K : PySem.W.Frag} {mg : Str → Option Value} {base : Heap}
theorem ok_body_octets (T : Txt P K mg) : FnOk P w K mg base CX0 2 T.f_body_octets T.fd_body_octets ["layout", "kind", "body"] (spBody K T.C_Layout) := by
  have cl_Layout := T.cl_Layout
  have a_Layout_last_id := T.a_Layout_last_id
  have a_Layout_block_size := T.a_Layout_block_size
  have G_summary_octets := ok_summary_octets (P := P) (w := w) (base := base) T
  have G_bits_of := ok_bits_of (P := P) (w := w) (base := base) T
  have G_pairs_of := ok_pairs_of (P := P) (w := w) (base := base) T
  refine T.F_body_octets.ok sc_body_octets (fun vs H Q E h => ?_) (fun cdv A outer s H vs Q E hr h => ?_)
  · obtain ⟨a, t, L, k, ns, rfl, ⟨dx, ha⟩, hL, hk, ht, hl, hq⟩ := h
    rfl
  · obtain ⟨a, t, L, k, ns, rfl, ⟨dx, ha⟩, hL, hk, ht, hl, hq⟩ := h
    refine ⟨_, (pss_cons (ps_if (pt_cmpR (opEqU (K := K) hr.units) (pv 1) (pe_glob rfl T.g_COMMIT T.r_COMMIT) (nomark _)) (pss_one (ps_set (i := 3) sc_body_octets.nd rfl (by first | exact Or.inl rfl | exact Or.inr rfl) (pe_op (opAddU (K := K)) (pe_call G_summary_octets (hr.mono (by decide)) rfl T.g_summary_octets T.F_summary_octets.kp T.b_summary_octets .nil pass0 (pa_cons (pv 0) (pa_cons pe_int (pa_cons (pe_ix (ixU (K := K)) (pv 2) pe_int (fun _ _ => rfl)) (pa_cons (pe_ix (ixU (K := K)) (pv 2) pe_int (fun _ _ => rfl)) pa_nil))))) (pe_call G_bits_of (hr.mono (by decide)) rfl T.g_bits_of T.F_bits_of.kp T.b_bits_of .nil pass0 (pa_cons (pe_ix (ixU (K := K)) (pv 2) pe_int (fun _ _ => rfl)) (pa_cons (pe_fldK (K := K) (pv 0) rfl) pa_nil)))))) (pss_one (ps_if (pt_cmpR (opEqU (K := K) hr.units) (pv 1) (pe_glob rfl T.g_MOVE T.r_MOVE) (nomark _)) (pss_one (ps_set (i := 3) sc_body_octets.nd rfl (by first | exact Or.inl rfl | exact Or.inr rfl) (pe_call G_summary_octets (hr.mono (by decide)) rfl T.g_summary_octets T.F_summary_octets.kp T.b_summary_octets .nil pass0 (pa_cons (pv 0) (pa_cons pe_int (pa_cons (pv 2) (pa_cons pe_int pa_nil))))))) (pss_one (ps_if (pt_cmpR (opEqU (K := K) hr.units) (pv 1) (pe_glob rfl T.g_DATA T.r_DATA) (nomark _)) (pss_one (ps_set (i := 3) sc_body_octets.nd rfl (by first | exact Or.inl rfl | exact Or.inr rfl) (pe_callTy (callListU (K := K)) (by rfl) T.n_list (by decide +kernel) (pa_cons (pv 2) pa_nil)))) (pss_one (ps_set (i := 3) sc_body_octets.nd rfl (by first | exact Or.inl rfl | exact Or.inr rfl) (pe_call G_pairs_of (hr.mono (by decide)) rfl T.g_pairs_of T.F_pairs_of.kp T.b_pairs_of .nil pass0 (pa_cons (pv 2) pa_nil)))))))))
      (pss_one (ps_ret (pe_op (opAddU (K := K)) (pv 3) (pe_op opMultU (pe_lst (pa_cons pe_int pa_nil)) (pe_op opSubU (pe_fldK (K := K) (pv 0) rfl) (pe_callB (callLenU (K := K)) (by rfl) T.n_len (by decide +kernel) (pa_cons (pv 3) pa_nil)))))))), ?_⟩
    try dsimp only [cxOf]
    have r0 := Same.refl H
    refine g_seqIN (BodyMid H a t k ns) ?_ (fun N rest => ?_)
    · rintro σ H1 ⟨p, rfl, s1, m1, h1⟩
      fail "go"
      refine ⟨by fail "sz", ?_⟩
      fail "newM"
      rename_i z H2 n2 g2 m2 h2 s2
      fail "go"
      have f1 := found_len (k := k) (l := ns)
      have o1 := hL.o1
      rw [List.length_map]
      refine g_repZ (by fail "hp") (by omega) (by omega) ?_
      fail "newM"
      rename_i y H3 n3 g3 m3 h3 s3
      fail "go"
      refine g_catI (l := found k ns) (by fail "hp") h3 (by rw [List.length_replicate]; omega) ?_
      fail "newM"
      rename_i w H4 n4 g4 m4 h4 s4
      exact hq _ _ s4 m4 h4
    · fail "go"
      refine g_iteF (decide_eq_false (by omega)) ?_
      fail "go"
      refine g_iteF (decide_eq_false (by omega)) ?_
      fail "go"
      refine g_ite (fun e => ?_) (fun e => ?_)
      · fail "go"
        refine g_listT (by fail "sq") ?_
        fail "newM"
        rename_i p H1 n1 g1 m1 h1 s1
        fail "go"
        refine rest _ _ ⟨p, rfl, s1, m1, ?_⟩
        rw [found, if_pos e]; exact h1
      · fail "go"
        intro p H1 s1 n1 h1
        fail "go"
        refine rest _ _ ⟨p, rfl, s1, n1, ?_⟩
        rw [found, if_neg e]; exact h1
end
local macro_rules | `(tactic| fail "calls") => `(tactic| ((with_reducible show spOctets _ _ _ _); first | refine ⟨_, 6, rfl, by omega, ?_⟩ | refine ⟨_, 2, rfl, by omega, ?_⟩ | refine ⟨_, 3, rfl, by omega, ?_⟩))
def spBlock (K : PySem.W.Frag) (C : Addr) : Sp := fun vs H Q _ => ∃ (a : Addr) (v : V) (L : Lay) (b : Option Blk), vs = [.ref a, v] ∧ LayAt C H a L ∧ L.Ok ∧ Dp K H v (optD b) ∧ BlkOk b ∧
  ∀ p H', Same H H' → H p = none → H' p = some (.lst ((octs L b).map V.int)) → Q (.ref p) H'
section
variable {P : Program} {w : World} {K : PySem.W.Frag} {mg : Str → Option Value} {base : Heap}
theorem ok_block_octets (T : Txt P K mg) : FnOk P w K mg base CX0 3 T.f_block_octets T.fd_block_octets ["layout", "block"] (spBlock K T.C_Layout) := by
  have cl_Layout := T.cl_Layout
  have a_Layout_block_size := T.a_Layout_block_size
  have G_number_octets := ok_number_octets (P := P) (w := w) (base := base) T
  have G_body_octets := ok_body_octets (P := P) (w := w) (base := base) T
  refine T.F_block_octets.ok sc_block_octets (fun vs H Q E h => ?_) (fun cdv A outer s H vs Q E hr h => ?_)
  · obtain ⟨a, v, L, b, rfl, ⟨dx, ha⟩, hL, hv, hb, hq⟩ := h
    rfl
  · obtain ⟨a, v, L, b, rfl, ⟨dx, ha⟩, hL, hv, hb, hq⟩ := h
    refine ⟨_, (pss_cons (ps_if (pt_cmpR opIsU (pv 1) pe_non (nomark _)) (pss_one (ps_ret (pe_op opMultU (pe_lst (pa_cons pe_int pa_nil)) (pe_op (opAddU (K := K)) (pe_glob rfl T.g_SPARE T.r_SPARE) (pe_fldK (K := K) (pv 0) rfl))))) pss_nil)
      (pss_cons (ps_asg (pv 1) (pg_tupK (K := K) rfl (pgs_cons (pg_name (i := 2) sc_block_octets.nd rfl (by first | exact Or.inl rfl | exact Or.inr rfl)) (pgs_cons (pg_name (i := 3) sc_block_octets.nd rfl (by first | exact Or.inl rfl | exact Or.inr rfl)) (pgs_cons (pg_name (i := 4) sc_block_octets.nd rfl (by first | exact Or.inl rfl | exact Or.inr rfl)) (pgs_cons (pg_name (i := 5) sc_block_octets.nd rfl (by first | exact Or.inl rfl | exact Or.inr rfl)) pgs_nil))))))
      (pss_cons (ps_set (i := 6) sc_block_octets.nd rfl (by first | exact Or.inl rfl | exact Or.inr rfl) (pe_op (opAddU (K := K)) (pe_op (opAddU (K := K)) (pe_lst (pa_cons (pv 2) pa_nil)) (pe_call G_number_octets (hr.mono (by decide)) rfl T.g_number_octets T.F_number_octets.kp T.b_number_octets .nil pass0 (pa_cons (pv 3) (pa_cons pe_int pa_nil)))) (pe_call G_number_octets (hr.mono (by decide)) rfl T.g_number_octets T.F_number_octets.kp T.b_number_octets .nil pass0 (pa_cons (pv 4) (pa_cons pe_int pa_nil)))))
      (pss_one (ps_ret (pe_op (opAddU (K := K)) (pe_op (opAddU (K := K)) (pv 6) (pe_op opMultU (pe_lst (pa_cons pe_int pa_nil)) (pe_op opSubU (pe_glob rfl T.g_SPARE T.r_SPARE) (pe_callB (callLenU (K := K)) (by rfl) T.n_len (by decide +kernel) (pa_cons (pv 6) pa_nil))))) (pe_call G_body_octets (hr.mono (by decide)) rfl T.g_body_octets T.F_body_octets.kp T.b_body_octets .nil pass0 (pa_cons (pv 0) (pa_cons (pv 2) (pa_cons (pv 5) pa_nil)))))))))), ?_⟩
    try dsimp only [cxOf]
    have r0 := Same.refl H
    have o1 := hL.o1
    cases b with
    | none =>
      obtain rfl := dp_non hv
      fail "go"
      refine ⟨by fail "sz", ?_⟩
      fail "newM"
      rename_i z H2 n2 g2 m2 h2 s2
      fail "go"
      refine g_repZ (by fail "hp") (by omega) (by omega) ?_
      fail "newM"
      rename_i y H3 n3 g3 m3 h3 s3
      exact hq _ _ s3 m3 h3
    | some b =>
      obtain ⟨t, u, rfl, ht, hu⟩ := dpBlk hv
      obtain ⟨b1, b2⟩ := hb
      have bl := bodyOf_len (k := b.kind) hL b2
      fail "go"
      refine ⟨by fail "sz", ?_⟩
      fail "newM"
      rename_i z H1 n1 g1 m1 h1 s1
      fail "go"
      fail "ret"
      rename_i p2 H2 h2 f2 g2 m2 s2
      refine g_catI (l := [b.kind]) (by fail "hp") h2 (by simp) ?_
      fail "newM"
      rename_i p3 H3 n3 g3 m3 h3 s3
      fail "go"
      fail "ret"
      rename_i p4 H4 h4 f4 g4 m4 s4
      refine g_catI (by fail "hp") h4 (by simp) ?_
      fail "newM"
      rename_i p5 H5 n5 g5 m5 h5 s5
      fail "go"
      refine ⟨by fail "sz", ?_⟩
      fail "newM"
      rename_i p6 H6 n6 g6 m6 h6 s6
      fail "go"
      rw [List.length_map]
      refine g_repZ (by fail "hp") (by simp) (by simp) ?_
      fail "newM"
      rename_i p7 H7 n7 g7 m7 h7 s7
      refine g_catI (by fail "hp") h7 (by simp) ?_
      fail "newM"
      rename_i p8 H8 n8 g8 m8 h8 s8
      fail "go"
      refine ⟨a, u, L, _, _, rfl, ⟨dx, by fail "hp"⟩, hL, b1, by fail "sq", b2, ?_⟩
      fail "ret"
      rename_i p9 H9 h9 f9 g9 m9 s9
      fail "go"
      refine g_catI (by fail "hp") h9 (by simp; omega) ?_
      fail "newM"
      rename_i pA HA nA gA mA hA sA
      refine hq _ _ sA mA ?_
      rw [hA]
      have e7 : ((16 : Int) - (([b.kind] ++ lows b.seq 6 ++ lows b.place 2).length : Int)).toNat = 7 := by simp
      rw [e7]
      rfl
end
def spCheck (K : PySem.W.Frag) (C : Addr) : Sp := fun vs H Q _ => ∃ (a : Addr) (v : V) (L : Lay) (n : Int) (b : Option Blk), vs = [.ref a, .int n, v] ∧ LayAt C H a L ∧ L.Ok ∧ Dp K H v (optD b) ∧ BlkOk b ∧ ∀ H', Same H H' → Q (.int (chk L n b)) H'
def ChkInv (R : Hp) (a : Addr) (v : V) (n : Int) (os : List Int) (i : Nat) (σ : St) (H : Hp) : Prop := ∃ x : Option V, σ = [some (.ref a), some (.int n), some v, some (.int ((os.take i).foldl chkStep (n + 1))), x] ∧ Same R H
section
variable {P : Program} {w : World} {K : PySem.W.Frag} {mg : Str → Option Value} {base : Heap}
theorem ok_check_of (T : Txt P K mg) : FnOk P w K mg base CX0 4 T.f_check_of T.fd_check_of ["layout", "address", "block"] (spCheck K T.C_Layout) := by
  have G_block_octets := ok_block_octets (P := P) (w := w) (base := base) T
  refine T.F_check_of.ok sc_check_of (fun vs H Q E h => ?_) (fun cdv A outer s H vs Q E hr h => ?_)
  · obtain ⟨a, v, L, n, b, rfl, ha, hL, hv, hb, hq⟩ := h
    rfl
  · obtain ⟨a, v, L, n, b, rfl, ha, hL, hv, hb, hq⟩ := h
    refine ⟨_, (pss_cons (ps_set (i := 3) sc_check_of.nd rfl (by first | exact Or.inl rfl | exact Or.inr rfl) (pe_op (opAddU (K := K)) (pv 1) pe_int))
      (pss_cons (ps_for PassesOwn.never rfl (pi_listK (K := K) (pe_call G_block_octets (hr.mono (by decide)) rfl T.g_block_octets T.F_block_octets.kp T.b_block_octets .nil pass0 (pa_cons (pv 0) (pa_cons (pv 2) pa_nil)))) (pg_name (i := 4) sc_check_of.nd rfl (by first | exact Or.inl rfl | exact Or.inr rfl)) (pss_one (ps_set (i := 3) sc_check_of.nd rfl (by first | exact Or.inl rfl | exact Or.inr rfl) (pe_op opModU (pe_op (opAddU (K := K)) (pe_op (opAddU (K := K)) (pe_op opMultU (pv 3) (pe_glob rfl T.g_FACTOR T.r_FACTOR)) (pv 4)) pe_int) (pe_glob rfl T.g_PRIME T.r_PRIME)))))
      (pss_one (ps_ret (pv 3))))), ?_⟩
    try dsimp only [cxOf]
    have r0 := Same.refl H
    fail "go"
    refine ⟨a, v, L, b, rfl, ha, hL, hv, hb, ?_⟩
    fail "ret"
    rename_i p H1 h1 f1 g1 m1 s1
    refine g_LsW (SqL.of h1) ?_
    refine for_list (K := K) (xs := (octs L b).map V.int) (ChkInv H1 a v n (octs L b)) ⟨none, rfl, Same.refl H1⟩ (fun i σ H2 _ ⟨_, _, s2⟩ => SqL.of (s2 _ _ h1)) ?_ ?_
    · rintro i x σ H2 hi ⟨x0, rfl, s2⟩
      obtain ⟨o, ho, rfl⟩ := map_get hi
      fail "go"
      refine ⟨some (.int o), ?_, s2⟩
      rw [take_snoc ho, List.foldl_append]; rfl
    · rintro σ H2 ⟨x0, rfl, s2⟩
      rw [List.length_map, List.take_length]
      fail "go"
      exact hq _ (s1.trans s2)
end
def spSealed (K : PySem.W.Frag) (C : Addr) : Sp := fun vs H Q _ => ∃ (a : Addr) (v : V) (L : Lay) (n : Int) (b : Option Blk), vs = [.ref a, .int n, v] ∧ LayAt C H a L ∧ L.Ok ∧ Dp K H v (optD b) ∧ BlkOk b ∧ ∀ w H', Same H H' → Dp K H' w (cellD (sealOf L n b)) → Q w H'
section
variable {P : Program} {w : World} {K : PySem.W.Frag} {mg : Str → Option Value} {base : Heap}
theorem ok_sealed (T : Txt P K mg) : FnOk P w K mg base CX0 5 T.f_sealed T.fd_sealed ["layout", "address", "block"] (spSealed K T.C_Layout) := by
  have G_check_of := ok_check_of (P := P) (w := w) (base := base) T
  refine T.F_sealed.ok sc_sealed (fun vs H Q E h => ?_) (fun cdv A outer s H vs Q E hr h => ?_)
  · obtain ⟨a, v, L, n, b, rfl, ha, hL, hv, hb, hq⟩ := h
    rfl
  · obtain ⟨a, v, L, n, b, rfl, ha, hL, hv, hb, hq⟩ := h
    refine ⟨_, (pss_cons (ps_if (pt_cmpR opIsU (pv 2) pe_non (nomark _)) (pss_one (ps_ret pe_non)) pss_nil)
      (pss_one (ps_ret (pe_tup (pa_cons (pv 2) (pa_cons (pe_call G_check_of (hr.mono (by decide)) rfl T.g_check_of T.F_check_of.kp T.b_check_of .nil pass0 (pa_cons (pv 0) (pa_cons (pv 1) (pa_cons (pv 2) pa_nil)))) pa_nil)))))), ?_⟩
    try dsimp only [cxOf]
    have r0 := Same.refl H
    rcases optV hv with ⟨rfl, rfl⟩ | ⟨c, t, rfl, rfl⟩
    · fail "go"
      exact hq _ _ r0 .non
    · fail "go"
      refine ⟨a, _, L, n, some c, rfl, ha, hL, hv, hb, fun H1 s1 => ?_⟩
      fail "go"
      refine ⟨by fail "sz", fun p n1 => ?_⟩
      have s2 := (Gr.newR (M := []) (o := HO.tup [.ref t, .int (chk L n (some c))]) (Same.refl H1) n1).same
      exact hq _ _ (s1.trans s2) (.tup (SqT.of upd_same) (.cons (dp_mono (s1.trans s2) hv) (.cons (.int _) .nil)))
end
def spSideWrite (K : PySem.W.Frag) (CL CS CD : Addr) : Sp := fun vs H Q _ => ∃ (R : Hp) (s d a l1 l2 l3 : Addr) (L : Lay) (m : Int) (us ws : List V) (v : V) (n : Nat) (b : Option Blk), vs = [.ref s, .int (n : Int), v] ∧ Same R H ∧ LayAt CL R a L ∧ L.Ok ∧ R l2 = none ∧ R l3 = none ∧ SideIn CS H s a m d ∧ DevAt CD H d a l1 l2 l3 ∧ H l2 = some (.lst us) ∧ H l3 = some (.lst ws) ∧ l2 ≠ l3 ∧ n < us.length ∧ ws.length ≤ 100 ∧ Dp K H v (optD b) ∧ BlkOk b ∧
  ∀ H' c w H1, Same H H1 → Dp K H1 c (cellD (sealOf L n b)) → Gr [l2, l3] R H1 R H' → H' l2 = some (.lst (us.set n c)) → H' l3 = some (.lst (ws ++ [w])) → Q .non H'
section
variable {P : Program} {w : World} {K : PySem.W.Frag} {mg : Str → Option Value} {base : Heap}
theorem ok_Side_write (T : Txt P K mg) : FnOk P w K mg base CX0 6 T.f_Side_write T.fd_Side_write ["self", "address", "block"] (spSideWrite K T.C_Layout T.C_Side T.C_Device) := by
  have cl_Side := T.cl_Side
  have a_Side_device := T.a_Side_device
  have a_Side_layout := T.a_Side_layout
  have G_Device_write := ok_Device_write (P := P) (w := w) (base := base) T
  have G_sealed := ok_sealed (P := P) (w := w) (base := base) T
  refine T.F_Side_write.ok sc_Side_write (fun vs H Q E h => ?_) (fun cdv A outer s H vs Q E hr h => ?_)
  · obtain ⟨R, s, d, a, l1, l2, l3, L, m, us, ws, v, n, b, rfl, sR, ha, hL, R2, R3, ⟨sx, hs⟩, ⟨dx, hd⟩, h2, h3, l23, hn, hw, dv, okb, hq⟩ := h
    rfl
  · obtain ⟨R, s, d, a, l1, l2, l3, L, m, us, ws, v, n, b, rfl, sR, ha, hL, R2, R3, ⟨sx, hs⟩, ⟨dx, hd⟩, h2, h3, l23, hn, hw, dv, okb, hq⟩ := h
    refine ⟨_, (pss_one (ps_expr (pe_meth (pe_fldK (K := K) (pv 0) rfl) T.cl_Device T.m_Device_write G_Device_write (hr.mono (by decide)) T.b_Device_write .nil pass0 (pa_cons (pv 1) (pa_cons (pe_call G_sealed (hr.mono (by decide)) rfl T.g_sealed T.F_sealed.kp T.b_sealed .nil pass0 (pa_cons (pe_fldK (K := K) (pv 0) rfl) (pa_cons (pv 1) (pa_cons (pv 2) pa_nil)))) pa_nil))))), ?_⟩
    try dsimp only [cxOf]
    fail "go"
    refine ⟨a, v, L, n, b, rfl, ha.mono sR, hL, dv, okb, fun c H1 s1 dc => ?_⟩
    have sR1 := sR.trans s1
    have hs1 := s1 _ _ hs
    fail "go"
    refine ⟨R, d, a, l1, l2, l3, us, ws, c, n, rfl, sR1, R2, R3, ⟨_, s1 _ _ hd⟩, s1 _ _ h2, s1 _ _ h3, l23, hn, hw, fun H' w g e2 e3 => ?_⟩
    fail "go"
    exact hq H' c w H1 s1 dc g e2 e3
end
def spHead (K : PySem.W.Frag) (C : Addr) : Sp := fun vs H Q _ => ∃ (a : Addr) (L : Lay) (n : Int), vs = [.ref a, .int n] ∧ LayAt C H a L ∧ ∀ p H', Same H H' → H p = none → H' p = some (.lst ((headOct L n).map V.int)) → Q (.ref p) H'
local macro_rules | `(tactic| fail "calls") => `(tactic| ((with_reducible show spOctets _ _ _ _); first | refine ⟨_, 6, rfl, by omega, ?_⟩ | refine ⟨_, 2, rfl, by omega, ?_⟩ | refine ⟨_, 4, rfl, by omega, ?_⟩ | refine ⟨_, 3, rfl, by omega, ?_⟩))
section
variable {P : Program} {w : World} {K : PySem.W.Frag} {mg : Str → Option Value} {base : Heap}
theorem ok_side_head (T : Txt P K mg) : FnOk P w K mg base CX0 2 T.f_side_head T.fd_side_head ["layout", "seat"] (spHead K T.C_Layout) := by
  have cl_Layout := T.cl_Layout
  have a_Layout_segment_blocks := T.a_Layout_segment_blocks
  have a_Layout_segments := T.a_Layout_segments
  have a_Layout_block_size := T.a_Layout_block_size
  have G_number_octets := ok_number_octets (P := P) (w := w) (base := base) T
  refine T.F_side_head.ok sc_side_head (fun vs H Q E h => ?_) (fun cdv A outer s H vs Q E hr h => ?_)
  · obtain ⟨a, L, n, rfl, ⟨dx, ha⟩, hq⟩ := h
    rfl
  · obtain ⟨a, L, n, rfl, ⟨dx, ha⟩, hq⟩ := h
    refine ⟨_, (pss_cons (ps_set (i := 2) sc_side_head.nd rfl (by first | exact Or.inl rfl | exact Or.inr rfl) (pe_op (opAddU (K := K)) (pe_op (opAddU (K := K)) (pe_callTy (callListU (K := K)) (by rfl) T.n_list (by decide +kernel) (pa_cons (pe_glob rfl T.g_LETTERS_labels T.r_LETTERS_labels) pa_nil)) (pe_lst (pa_cons pe_int (pa_cons (pv 1) (pa_cons (pe_fldK (K := K) (pv 0) rfl) (pa_cons (pe_fldK (K := K) (pv 0) rfl) pa_nil)))))) (pe_call G_number_octets (hr.mono (by decide)) rfl T.g_number_octets T.F_number_octets.kp T.b_number_octets .nil pass0 (pa_cons (pe_fldK (K := K) (pv 0) rfl) (pa_cons pe_int pa_nil)))))
      (pss_one (ps_ret (pe_op (opAddU (K := K)) (pv 2) (pe_op opMultU (pe_lst (pa_cons pe_int pa_nil)) (pe_op opSubU (pe_glob rfl T.g_HEAD T.r_HEAD) (pe_callB (callLenU (K := K)) (by rfl) T.n_len (by decide +kernel) (pa_cons (pv 2) pa_nil)))))))), ?_⟩
    try dsimp only [cxOf]
    have r0 := Same.refl H
    fail "go"
    refine g_listT (T.q_LETTERS_labels _) ?_
    fail "newM"
    rename_i p1 H1 n1 g1 m1 h1 s1
    fail "go"
    refine ⟨by fail "sz", ?_⟩
    fail "newM"
    rename_i p2 H2 n2 g2 m2 h2 s2
    refine g_catI (l := [83, 73, 68, 69]) (m := [2, n, L.seg, L.blk]) (by fail "hp") h2 (by simp) ?_
    fail "newM"
    rename_i p3 H3 n3 g3 m3 h3 s3
    fail "go"
    fail "ret"
    rename_i p4 H4 h4 f4 g4 m4 s4
    refine g_catI (by fail "hp") h4 (by simp) ?_
    fail "newM"
    rename_i p5 H5 n5 g5 m5 h5 s5
    fail "go"
    refine ⟨by fail "sz", ?_⟩
    fail "newM"
    rename_i p6 H6 n6 g6 m6 h6 s6
    fail "go"
    rw [List.length_map]
    refine g_repZ h6 (by simp) (by simp) ?_
    fail "newM"
    rename_i p7 H7 n7 g7 m7 h7 s7
    refine g_catI (by fail "hp") h7 (by simp) ?_
    fail "newM"
    rename_i p8 H8 n8 g8 m8 h8 s8
    refine hq _ _ s8 m8 ?_
    rw [h8]
    have e6 : ((16 : Int) - (([83, 73, 68, 69] ++ [2, n, L.seg, L.blk] ++ lows L.oct 2).length : Int)).toNat = 6 := by simp
    rw [e6]
    rfl
end
def spSize (C : Addr) : Sp := fun vs H Q _ => ∃ (a : Addr) (L : Lay), vs = [.ref a] ∧ LayAt C H a L ∧ Q (.int (1 + 16 + L.oct + 4)) H
section
variable {P : Program} {w : World} {K : PySem.W.Frag} {mg : Str → Option Value} {base : Heap}
theorem ok_cell_size (T : Txt P K mg) : FnOk P w K mg base CX0 1 T.f_cell_size T.fd_cell_size ["layout"] (spSize T.C_Layout) := by
  have cl_Layout := T.cl_Layout
  have a_Layout_block_size := T.a_Layout_block_size
  refine T.F_cell_size.ok sc_cell_size (fun vs H Q E h => ?_) (fun cdv A outer s H vs Q E hr h => ?_)
  · obtain ⟨a, L, rfl, ⟨dx, ha⟩, hq⟩ := h
    rfl
  · obtain ⟨a, L, rfl, ⟨dx, ha⟩, hq⟩ := h
    refine ⟨_, (pss_one (ps_ret (pe_op (opAddU (K := K)) (pe_op (opAddU (K := K)) (pe_op (opAddU (K := K)) pe_int (pe_glob rfl T.g_SPARE T.r_SPARE)) (pe_fldK (K := K) (pv 0) rfl)) (pe_glob rfl T.g_CHECK T.r_CHECK)))), ?_⟩
    try dsimp only [cxOf]
    have r0 := Same.refl H
    fail "go"
    exact hq
end
def spCellOcts (K : PySem.W.Frag) (C : Addr) : Sp := fun vs H Q _ => ∃ (a : Addr) (v : V) (L : Lay) (c : Cell), vs = [.ref a, v] ∧ LayAt C H a L ∧ L.Ok ∧ Dp K H v (cellD c) ∧ CellX L c ∧ ∀ p H', Same H H' → H p = none → H' p = some (.lst ((cellOcts L c).map V.int)) → Q (.ref p) H'
section
variable {P : Program} {w : World} {K : PySem.W.Frag} {mg : Str → Option Value} {base : Heap}
theorem ok_cell_octets (T : Txt P K mg) : FnOk P w K mg base CX0 4 T.f_cell_octets T.fd_cell_octets ["layout", "cell"] (spCellOcts K T.C_Layout) := by
  have G_cell_size := ok_cell_size (P := P) (w := w) (base := base) T
  have G_block_octets := ok_block_octets (P := P) (w := w) (base := base) T
  have G_number_octets := ok_number_octets (P := P) (w := w) (base := base) T
  refine T.F_cell_octets.ok sc_cell_octets (fun vs H Q E h => ?_) (fun cdv A outer s H vs Q E hr h => ?_)
  · obtain ⟨a, v, L, c, rfl, ha, hL, dv, hc, hq⟩ := h
    rfl
  · obtain ⟨a, v, L, c, rfl, ha, hL, dv, hc, hq⟩ := h
    refine ⟨_, (pss_cons (ps_if (pt_cmpR opIsU (pv 1) pe_non (nomark _)) (pss_one (ps_ret (pe_op opMultU (pe_lst (pa_cons pe_int pa_nil)) (pe_call G_cell_size (hr.mono (by decide)) rfl T.g_cell_size T.F_cell_size.kp T.b_cell_size .nil pass0 (pa_cons (pv 0) pa_nil))))) pss_nil)
      (pss_one (ps_ret (pe_op (opAddU (K := K)) (pe_op (opAddU (K := K)) (pe_lst (pa_cons pe_int pa_nil)) (pe_call G_block_octets (hr.mono (by decide)) rfl T.g_block_octets T.F_block_octets.kp T.b_block_octets .nil pass0 (pa_cons (pv 0) (pa_cons (pe_ix (ixU (K := K)) (pv 1) pe_int (fun _ _ => rfl)) pa_nil)))) (pe_call G_number_octets (hr.mono (by decide)) rfl T.g_number_octets T.F_number_octets.kp T.b_number_octets .nil pass0 (pa_cons (pe_ix (ixU (K := K)) (pv 1) pe_int (fun _ _ => rfl)) (pa_cons (pe_glob rfl T.g_CHECK T.r_CHECK) pa_nil))))))), ?_⟩
    try dsimp only [cxOf]
    have r0 := Same.refl H
    have o1 := hL.o1
    rcases cellV dv with ⟨rfl, rfl⟩ | ⟨b, k, t, u, rfl, rfl, ht, hu⟩
    · fail "go"
      refine ⟨by fail "sz", ?_⟩
      fail "newM"
      rename_i p1 H1 n1 g1 m1 h1 s1
      fail "go"
      refine ⟨a, L, rfl, ha.mono s1, ?_⟩
      refine g_repZ h1 (by omega) (by omega) ?_
      fail "newM"
      rename_i p2 H2 n2 g2 m2 h2 s2
      exact hq _ _ s2 m2 h2
    · fail "go"
      refine ⟨by fail "sz", ?_⟩
      fail "newM"
      rename_i p1 H1 n1 g1 m1 h1 s1
      fail "go"
      have hlen := octs_len hL hc.1
      refine ⟨a, u, L, b, rfl, ha.mono s1, hL, dp_mono s1 hu, blkOk_of hL hc.1, ?_⟩
      fail "ret"
      rename_i p2 H2 h2 f2 g2 m2 s2
      fail "go"
      refine g_catI (a := p1) (l := [1]) (g2.g.same _ _ h1) h2 (by simp; omega) ?_
      fail "newM"
      rename_i p3 H3 n3 g3 m3 h3 s3
      have ht3 := sqT_mono s3 ht
      fail "go"
      fail "ret"
      rename_i p4 H4 h4 f4 g4 m4 s4
      fail "go"
      refine g_catI (a := p3) (l := [1] ++ octs L b) (g4.g.same _ _ h3) h4 (by simp; omega) ?_
      fail "newM"
      rename_i p5 H5 n5 g5 m5 h5 s5
      refine hq _ _ s5 m5 ?_
      rw [h5]
      rfl
end
def spDevRead (K : PySem.W.Frag) (C : Addr) : Sp := fun vs H Q _ => ∃ (d a l1 l2 l3 : Addr) (us : List V) (v : V) (n : Nat), vs = [.ref d, .int (n : Int)] ∧ DevAt C H d a l1 l2 l3 ∧ SqL K H l2 us ∧ us[n]? = some v ∧ Q v H
section
variable {P : Program} {w : World} {K : PySem.W.Frag} {mg : Str → Option Value} {base : Heap}
theorem ok_Device_read (T : Txt P K mg) : FnOk P w K mg base CX0 1 T.f_Device_read T.fd_Device_read ["self", "address"] (spDevRead K T.C_Device) := by
  have cl_Device := T.cl_Device
  have a_Device_seen := T.a_Device_seen
  refine T.F_Device_read.ok sc_Device_read (fun vs H Q E h => ?_) (fun cdv A outer s H vs Q E hr h => ?_)
  · obtain ⟨d, a, l1, l2, l3, us, v, n, rfl, ⟨dx, hd⟩, hl, hv, hq⟩ := h
    rfl
  · obtain ⟨d, a, l1, l2, l3, us, v, n, rfl, ⟨dx, hd⟩, hl, hv, hq⟩ := h
    refine ⟨_, (pss_cons (ps_if (PW.pt (pw_or (pt_cmpR op_lt (pv 1) pe_int (nomark _)) (pw_or1 (pt_cmpR op_ge (pv 1) (pe_callB (callLenU (K := K)) (by rfl) T.n_len (by decide +kernel) (pa_cons (pe_fldK (K := K) (pv 0) rfl) pa_nil)) (nomark _))))) (pss_one (ps_ret pe_non)) pss_nil)
      (pss_one (ps_ret (pe_ix (ixU (K := K)) (pe_fldK (K := K) (pv 0) rfl) (pv 1) (fun _ _ => rfl))))), ?_⟩
    try dsimp only [cxOf]
    have r0 := Same.refl H
    have hn : n < us.length := (List.getElem?_eq_some_iff.mp hv).1
    fail "go"
    refine g_iteF (decide_eq_false (by omega)) ?_
    fail "go"
    refine g_ixL hl (atI_nat hv) ?_
    fail "go"
    exact hq
end
def spWriteSide (K : PySem.W.Frag) (CL CS CD : Addr) : Sp := fun vs H Q _ => ∃ (s d a l1 l2 l3 : Addr) (L : Lay) (n : Int) (us : List V) (cs : List Cell), vs = [.ref s] ∧ LayAt CL H a L ∧ L.Ok ∧ (0 ≤ L.device ∧ L.device < 900) ∧ SideIn CS H s a n d ∧ DevAt CD H d a l1 l2 l3 ∧ H l2 = some (.lst us) ∧ DpAll K H us (cs.map cellD) ∧ (cs.length : Int) = L.device + 2 ∧ (∀ c ∈ cs, CellX L c) ∧
  ∀ p H', Same H H' → H p = none → H' p = some (.lst ((imageOf L n cs).map V.int)) → Q (.ref p) H'
def WrInv (R : Hp) (s p : Addr) (L : Lay) (n : Int) (cs : List Cell) (i : Nat) (σ : St) (H : Hp) : Prop := ∃ x : Option V, σ = [some (.ref s), some (.ref p), x] ∧ Same R H ∧ H p = some (.lst ((headOct L n ++ cellsOcts L (cs.take i)).map V.int))
theorem take_snocC {cs : List Cell} {i : Nat} {c : Cell} (h : cs[i]? = some c) : cs.take (i + 1) = cs.take i ++ [c] := by
  rw [List.take_add_one, h]; rfl
theorem takeX {L : Lay} {cs : List Cell} (h : ∀ c ∈ cs, CellX L c) (i : Nat) : ∀ c ∈ cs.take i, CellX L c := fun c hc => h c (List.mem_of_mem_take hc)
section
variable {P : Program} {w : World} {K : PySem.W.Frag} {mg : Str → Option Value} {base : Heap}
theorem ok_write_side (T : Txt P K mg) : FnOk P w K mg base CX0 5 T.f_write_side T.fd_write_side ["side"] (spWriteSide K T.C_Layout T.C_Side T.C_Device) := by
  have cl_Side := T.cl_Side
  have cl_Layout := T.cl_Layout
  have a_Side_seat := T.a_Side_seat
  have a_Side_layout := T.a_Side_layout
  have a_Layout_device_blocks := T.a_Layout_device_blocks
  have a_Side_device := T.a_Side_device
  have G_side_head := ok_side_head (P := P) (w := w) (base := base) T
  have G_cell_octets := ok_cell_octets (P := P) (w := w) (base := base) T
  have G_Device_read := ok_Device_read (P := P) (w := w) (base := base) T
  refine T.F_write_side.ok sc_write_side (fun vs H Q E h => ?_) (fun cdv A outer s H vs Q E hr h => ?_)
  · obtain ⟨s, d, a, l1, l2, l3, L, n, us, cs, rfl, ha, hL, hdev, ⟨sx, hs⟩, hd, h2, du, hlen, hx, hq⟩ := h
    rfl
  · obtain ⟨s, d, a, l1, l2, l3, L, n, us, cs, rfl, ha, hL, hdev, ⟨sx, hs⟩, hd, h2, du, hlen, hx, hq⟩ := h
    refine ⟨_, (pss_cons (ps_set (i := 1) sc_write_side.nd rfl (by first | exact Or.inl rfl | exact Or.inr rfl) (pe_call G_side_head (hr.mono (by decide)) rfl T.g_side_head T.F_side_head.kp T.b_side_head .nil pass0 (pa_cons (pe_fldK (K := K) (pv 0) rfl) (pa_cons (pe_fldK (K := K) (pv 0) rfl) pa_nil))))
      (pss_cons (ps_for PassesOwn.never rfl (pi_range1 rfl T.n_range (pa_cons (pe_op (opAddU (K := K)) (pe_fldK (K := K) (pe_fldK (K := K) (pv 0) rfl) rfl) (pe_glob rfl T.g_LABELS T.r_LABELS)) pa_nil)) (pg_name (i := 2) sc_write_side.nd rfl (by first | exact Or.inl rfl | exact Or.inr rfl)) (pss_one (ps_expr (pe_bm PySem.F.plainAttrs_list PySem.F.slot_list_extend PySem.F.type_list_extend mt_extend (pv 1) (pa_cons (pe_call G_cell_octets (hr.mono (by decide)) rfl T.g_cell_octets T.F_cell_octets.kp T.b_cell_octets .nil pass0 (pa_cons (pe_fldK (K := K) (pv 0) rfl) (pa_cons (pe_meth (pe_fldK (K := K) (pv 0) rfl) T.cl_Device T.m_Device_read G_Device_read (hr.mono (by decide)) T.b_Device_read .nil pass0 (pa_cons (pv 2) pa_nil)) pa_nil))) pa_nil)))))
      (pss_one (ps_ret (pv 1))))), ?_⟩
    try dsimp only [cxOf]
    have r0 := Same.refl H
    have o1 := hL.o1
    obtain ⟨lx, haf⟩ := ha
    have ul : us.length = cs.length := by have := dpAll_len du; simpa using this
    fail "go"
    refine ⟨a, L, n, rfl, ⟨_, haf⟩, ?_⟩
    fail "ret"
    rename_i p H1 h1 f1 g1 m1 s1
    have haf1 := s1 _ _ haf
    have hs1 := s1 _ _ hs
    fail "go"
    have hN : (L.device + 2) = ((cs.length : Nat) : Int) := hlen.symm
    refine g_R1W (n := cs.length) hN (by omega) ?_
    have h1' : H1 p = some (.lst ((headOct L n ++ cellsOcts L (cs.take 0)).map V.int)) := by rw [h1]; simp [cellsOcts]
    refine for_range (lo := 0) (n := cs.length) (WrInv H s p L n cs) ⟨none, rfl, s1, h1'⟩ ?_ ?_
    · clear h1 h1' s1 g1 haf1 hs1 f1
      rintro i σ H2 hi ⟨x0, rfl, s2, hp2⟩
      rw [Int.zero_add]
      obtain ⟨c, hc⟩ : ∃ c, cs[i]? = some c := ⟨cs[i], List.getElem?_eq_getElem hi⟩
      obtain ⟨v, hv, dv⟩ := dpAll_get du (show (cs.map cellD)[i]? = some (cellD c) by rw [List.getElem?_map, hc]; rfl)
      have cx := hx c (List.mem_of_getElem? hc)
      have haf2 := s2 _ _ haf
      have hs2 := s2 _ _ hs
      obtain ⟨dx, hdx⟩ := hd
      have hd2 := s2 _ _ hdx
      have t1 := cellsOcts_len hL (takeX hx i)
      have t2 := cellOcts_len hL cx
      have t3 : (cs.take i).length = i := by rw [List.length_take]; omega
      rw [t3] at t1
      fail "go"
      refine ⟨d, a, l1, l2, l3, us, v, i, rfl, ⟨_, hd2⟩, SqL.of (s2 _ _ h2), hv, ?_⟩
      fail "go"
      refine ⟨a, v, L, c, rfl, ⟨_, haf2⟩, hL, dp_mono s2 dv, cx, ?_⟩
      fail "ret"
      rename_i q H3 h3 f3 g3 m3 s3
      fail "go"
      refine g_ext (l := p) (g3.g.same _ _ hp2) h3 ?_ ?_
      · rw [List.length_map, List.length_map, List.length_append, headOct_len]
        have z : sizeLine = 16777216 := sizeLine_eq
        rw [z]
        have : (i : Int) < 902 := by omega
        rcases o1 with e | e | e <;> rw [e] at t1 t2 <;> omega
      fail "mut"
      rename_i H4 g4 h4 s4
      fail "go"
      refine ⟨_, rfl, s4, ?_⟩
      rw [h4, take_snocC hc, cellsOcts_snoc, ← List.map_append, List.append_assoc]
    · rintro σ H2 ⟨x0, rfl, s2, hp2⟩
      rw [List.take_length] at hp2
      fail "go"
      exact hq _ _ s2 m1 hp2
end
def spNumOf (K : PySem.W.Frag) : Sp := fun vs H Q _ => ∃ (t : Addr) (l : List Int), vs = [.ref t] ∧ (SqL K H t (l.map V.int) ∨ SqT K H t (l.map V.int)) ∧ Q (.int (numOf l)) H
def NumInv (t : Addr) (l : List Int) (H0 : Hp) (i : Nat) (σ : St) (H : Hp) : Prop := ∃ x : Option V, σ = [some (.ref t), some (.int (numOf (l.drop (l.length - i)))), x] ∧ H = H0
theorem num_step {l : List Int} {i : Nat} {n : Int} (hi : i < l.length) (h : l[l.length - 1 - i]? = some n) : numOf (l.drop (l.length - (i + 1))) = numOf (l.drop (l.length - i)) * 256 + n := by
  obtain ⟨hl, rfl⟩ := List.getElem?_eq_some_iff.mp h
  have e : l.length - (i + 1) = l.length - 1 - i := by omega
  have e2 : l.length - i = l.length - 1 - i + 1 := by omega
  rw [e, e2, List.drop_eq_getElem_cons hl, numOf]
section
variable {P : Program} {w : World} {K : PySem.W.Frag} {mg : Str → Option Value} {base : Heap}
theorem ok_number_of (T : Txt P K mg) : FnOk P w K mg base CX0 1 T.f_number_of T.fd_number_of ["octets"] (spNumOf K) := by
  refine T.F_number_of.ok sc_number_of (fun vs H Q E h => ?_) (fun cdv A outer s H vs Q E hr h => ?_)
  · obtain ⟨t, l, rfl, ht, hq⟩ := h
    rfl
  · obtain ⟨t, l, rfl, ht, hq⟩ := h
    refine ⟨_, (pss_cons (ps_set (i := 1) sc_number_of.nd rfl (by first | exact Or.inl rfl | exact Or.inr rfl) pe_int)
      (pss_cons (ps_for PassesOwn.never rfl (pi_revK (K := K) (by rfl) T.n_reversed (pv 0)) (pg_name (i := 2) sc_number_of.nd rfl (by first | exact Or.inl rfl | exact Or.inr rfl)) (pss_one (ps_set (i := 1) sc_number_of.nd rfl (by first | exact Or.inl rfl | exact Or.inr rfl) (pe_op (opAddU (K := K)) (pe_op opMultU (pv 1) pe_int) (pv 2)))))
      (pss_one (ps_ret (pv 1))))), ?_⟩
    try dsimp only [cxOf]
    have r0 := Same.refl H
    fail "go"
    have i0 : NumInv t l H 0 ((L2.start N_number_of [V.ref t]).set 1 (some (.int 0))) H := ⟨none, by rw [Nat.sub_zero, List.drop_length]; rfl, rfl⟩
    rcases ht with ht | ht
    · refine ⟨t, _, rfl, .inl ⟨ht, ?_⟩⟩
      refine RT.for_Itv (NumInv t l H) i0 (fun i σ H2 ⟨_, _, e⟩ => e ▸ ht) ?_ ?_
      · rintro i x σ H2 hi hx ⟨x0, rfl, rfl⟩
        rw [List.length_map] at hi hx
        obtain ⟨n, hn, rfl⟩ := map_get hx
        fail "go"
        exact ⟨_, by rw [num_step hi hn]; rfl, rfl⟩
      · rintro σ H2 ⟨x0, rfl, rfl⟩
        rw [List.length_map, Nat.sub_self, List.drop_zero]
        fail "go"
        exact hq
    · refine ⟨t, _, rfl, .inr ⟨ht, ?_⟩⟩
      refine RT.for_ItvT (NumInv t l H) i0 (fun i σ H2 ⟨_, _, e⟩ => e ▸ ht) ?_ ?_
      · rintro i x σ H2 hi hx ⟨x0, rfl, rfl⟩
        rw [List.length_map] at hi hx
        obtain ⟨n, hn, rfl⟩ := map_get hx
        fail "go"
        exact ⟨_, by rw [num_step hi hn]; rfl, rfl⟩
      · rintro σ H2 ⟨x0, rfl, rfl⟩
        rw [List.length_map, Nat.sub_self, List.drop_zero]
        fail "go"
        exact hq
end
/-- an image that is read again: its head, its rows -/
structure ImgOk (L : Lay) (n : Int) (o : List Int) (rows : List (List Int)) : Prop where
  eq : o = headOct L n ++ rows.flatten
  n0 : 0 ≤ n
  n3 : n < 3
  len : (rows.length : Int) = L.device + 2
  each : ∀ r ∈ rows, (r.length : Int) = 21 + L.oct
theorem flat_len {z : Int} : ∀ {rows : List (List Int)}, (∀ r ∈ rows, (r.length : Int) = z) → ((rows.flatten).length : Int) = rows.length * z
  | [], _ => by simp
  | r :: t, h => by
    have ih := flat_len (rows := t) fun x hx => h x (List.mem_cons_of_mem _ hx)
    rw [List.flatten_cons, List.length_append, List.length_cons]
    push_cast
    rw [ih, h r List.mem_cons_self, Int.add_mul, Int.one_mul]
    omega
theorem ImgOk.olen {L : Lay} {n : Int} {o : List Int} {rows : List (List Int)} (h : ImgOk L n o rows) : (o.length : Int) = 16 + (L.device + 2) * (21 + L.oct) := by
  rw [h.eq, List.length_append, headOct_len]
  push_cast
  rw [flat_len h.each, h.len]
def spLayOf (K : PySem.W.Frag) (C : Addr) : Sp := fun vs H Q _ => ∃ (R : Hp) (t : Addr) (L : Lay) (n : Int) (o : List Int) (rows : List (List Int)), vs = [.ref t] ∧ Same R H ∧ L.Ok ∧ (0 ≤ L.device ∧ L.device < 900) ∧ ImgOk L n o rows ∧ SqL K H t (o.map V.int) ∧ ∀ p H', Same H H' → H p = none → LayAt C H' p L → Q (.ref p) H'
section
variable {P : Program} {w : World} {K : PySem.W.Frag} {mg : Str → Option Value} {base : Heap}
theorem ok_layout_of_side (T : Txt P K mg) : FnOk P w K mg base CX0 4 T.f_layout_of_side T.fd_layout_of_side ["octets"] (spLayOf K T.C_Layout) := by
  have cl_Layout := T.cl_Layout
  have a_Layout_device_blocks := T.a_Layout_device_blocks
  have G_Layout___init__ := ok_Layout___init__ (P := P) (w := w) (base := base) T
  have G_number_of := ok_number_of (P := P) (w := w) (base := base) T
  have G_cell_size := ok_cell_size (P := P) (w := w) (base := base) T
  have G_side_head := ok_side_head (P := P) (w := w) (base := base) T
  refine T.F_layout_of_side.ok sc_layout_of_side (fun vs H Q E h => ?_) (fun cdv A outer s H vs Q E hr h => ?_)
  · obtain ⟨R, t, L, n, o, rows, rfl, sR, hL, hdev, him, ht, hq⟩ := h
    rfl
  · obtain ⟨R, t, L, n, o, rows, rfl, sR, hL, hdev, him, ht, hq⟩ := h
    refine ⟨_, (pss_cons (ps_if (PW.pt (pw_or (pt_cmpR op_lt (pe_callB (callLenU (K := K)) (by rfl) T.n_len (by decide +kernel) (pa_cons (pv 0) pa_nil)) (pe_glob rfl T.g_HEAD T.r_HEAD) (nomark _)) (pw_or1 (pt_cmpR op_ge (pe_ix (ixU (K := K)) (pv 0) pe_int (fun _ _ => rfl)) (pe_glob rfl T.g_SEATS T.r_SEATS) (nomark _))))) (pss_one ps_never) pss_nil)
      (pss_cons (ps_try_only rfl rfl ⟨rfl, by decide, .inl T.g_InvalidFormat⟩ takes0 (fun W pn xe tk _ => (pss_one (ps_set (i := 1) sc_layout_of_side.nd rfl (by first | exact Or.inl rfl | exact Or.inr rfl) (pe_make T.mk_Layout G_Layout___init__ (hr.mono (by decide)) rfl T.g_Layout T.b_Layout___init__ .nil pass0 (pa_cons (pe_ix (ixU (K := K)) (pv 0) pe_int (fun _ _ => rfl)) (pa_cons (pe_ix (ixU (K := K)) (pv 0) pe_int (fun _ _ => rfl)) (pa_cons (pe_call G_number_of (hr.mono (by decide)) rfl T.g_number_of T.F_number_of.kp T.b_number_of .nil pass0 (pa_cons (pe_slice (slU (K := K)) (pv 0) (po_some pe_int) (po_some pe_int)) pa_nil)) pa_nil))))))) (fun a oe cls d pn _ _ => pss_one ps_never))
      (pss_cons (ps_set (i := 2) sc_layout_of_side.nd rfl (by first | exact Or.inl rfl | exact Or.inr rfl) (pe_op (opAddU (K := K)) (pe_glob rfl T.g_HEAD T.r_HEAD) (pe_op opMultU (pe_op (opAddU (K := K)) (pe_fldK (K := K) (pv 1) rfl) (pe_glob rfl T.g_LABELS T.r_LABELS)) (pe_call G_cell_size (hr.mono (by decide)) rfl T.g_cell_size T.F_cell_size.kp T.b_cell_size .nil pass0 (pa_cons (pv 1) pa_nil)))))
      (pss_cons (ps_if (PW.pt (pw_or (pt_cmpR (opNeU (K := K) hr.units) (pe_slice (slU (K := K)) (pv 0) po_none (po_some (pe_glob rfl T.g_HEAD T.r_HEAD))) (pe_call G_side_head (hr.mono (by decide)) rfl T.g_side_head T.F_side_head.kp T.b_side_head .nil pass0 (pa_cons (pv 1) (pa_cons (pe_ix (ixU (K := K)) (pv 0) pe_int (fun _ _ => rfl)) pa_nil))) (nomark _)) (pw_or1 (pt_cmpR (opNeU (K := K) hr.units) (pe_callB (callLenU (K := K)) (by rfl) T.n_len (by decide +kernel) (pa_cons (pv 0) pa_nil)) (pv 2) (nomark _))))) (pss_one ps_never) pss_nil)
      (pss_one (ps_ret (pv 1))))))), ?_⟩
    try dsimp only [cxOf]
    have r0 := Same.refl H
    have o1 := hL.o1
    have olen := him.olen
    have n0 := him.n0
    have n3 := him.n3
    have e0 : o = 83 :: 73 :: 68 :: 69 :: 2 :: n :: L.seg :: L.blk :: (lows L.oct 2 ++ (List.replicate 6 0 ++ rows.flatten)) := by rw [him.eq, headOct]; simp
    have big : 16 ≤ o.length := by rw [him.eq, List.length_append, headOct_len]; omega
    have d8 : (o.drop 8).take (10 - 8) = lows L.oct 2 := by
      rw [e0]
      show (lows L.oct 2 ++ _).take 2 = _
      exact List.take_left' (by simp)
    have t16 : o.take 16 = headOct L n := by rw [him.eq]; exact List.take_left' (headOct_len L n)
    have i5 : atI (o.map V.int) 5 = some (.int n) := (show atI _ ((5 : Nat) : Int) = _ from (atI_getD (by omega)).trans (by rw [e0]; rfl))
    have i6 : atI (o.map V.int) 6 = some (.int L.seg) := (show atI _ ((6 : Nat) : Int) = _ from (atI_getD (by omega)).trans (by rw [e0]; rfl))
    have i7 : atI (o.map V.int) 7 = some (.int L.blk) := (show atI _ ((7 : Nat) : Int) = _ from (atI_getD (by omega)).trans (by rw [e0]; rfl))
    have oc : 0 ≤ L.oct ∧ L.oct < 65536 := by omega
    fail "go"
    rw [List.length_map]
    refine g_iteF (decide_eq_false (by omega)) ?_
    fail "go"
    refine g_ixL ht i5 ?_
    fail "go"
    refine g_iteF (decide_eq_false (by omega)) ?_
    fail "go"
    refine g_ixL ht i6 ?_
    fail "go"
    refine g_ixL ht i7 ?_
    fail "go"
    refine g_slLI (i := 8) (j := 10) ht rfl rfl (by decide) (by omega) ?_
    rw [d8]
    fail "newM"
    rename_i p1 H1 n1 g1 m1 h1 s1
    fail "go"
    refine ⟨p1, lows L.oct 2, rfl, .inl (SqL.of h1), ?_⟩
    rw [numOf_lows 2 L.oct oc.1 (by show L.oct < 65536; omega)]
    fail "go"
    intro p dx np ndx nex
    have ms := s1.trans (made_same (C := T.C_Layout) np ndx)
    refine ⟨H, p, dx, L, rfl, ms, s1.free np, upd_same, hL, fun H9 s9 h9 => ⟨rfl, ?_⟩⟩
    have ht9 := sqL_mono s9 ht
    fail "go"
    refine ⟨p, L, rfl, ⟨_, h9⟩, ?_⟩
    fail "go"
    refine g_slLhi (j := 16) ht9 rfl (by omega) ?_
    rw [t16]
    fail "newM"
    rename_i p2 H2 n2 g2 m2 h2 s2
    have ht2 := sqL_mono s2 ht
    fail "go"
    refine g_ixL ht2 i5 ?_
    fail "go"
    refine ⟨p, L, n, rfl, ⟨_, g2.g.same _ _ h9⟩, ?_⟩
    fail "ret"
    rename_i p3 H3 h3 f3 g3 m3 s3
    have ht3 := sqL_mono s3 ht
    fail "go"
    refine g_neDa (.lst (SqL.of (g3.g.same _ _ h2)) (dpAll_ints _)) (.lst (SqL.of h3) (dpAll_ints _)) (la_shaped (la_lst (n := 0) la_ints)) (la_shaped (la_lst (n := 0) la_ints)) (.inl ⟨_, rfl⟩) ?_
    rw [eqv_same (by rw [clean]; exact clean_ints _)]
    fail "go"
    rw [List.length_map]
    refine g_iteN (fun z => absurd (by rw [olen, show (1 : Int) + 16 + L.oct + 4 = 21 + L.oct by omega]) z) (fun _ => ?_)
    fail "go"
    exact hq _ _ s3 (s1.free np) ⟨_, g3.g.same _ _ (g2.g.same _ _ h9)⟩
end
theorem atI_at9 {l : List Int} {z : Int} {j : Nat} (e : z = (j : Int)) (h : j < l.length) : atI (l.map V.int) z = some (.int (l.getD j 0)) := by rw [e]; exact atI_getD h
def spHalves (K : PySem.W.Frag) : Sp := fun vs H Q _ => ∃ (t : Addr) (l : List Int), vs = [.ref t] ∧ SqL K H t (l.map V.int) ∧ l.length ≤ 1000 ∧ ∀ p H', Same H H' → H p = none → H' p = some (.lst ((halves l).map V.int)) → Q (.ref p) H'
def HalfInv (R : Hp) (t p : Addr) (l : List Int) (i : Nat) (σ : St) (H : Hp) : Prop := ∃ x : Option V, σ = [some (.ref t), some (.ref p), x] ∧ Same R H ∧ H p = some (.lst (((List.range i).map fun (k : Nat) => l.getD (2 * k) 0 + 256 * l.getD (2 * k + 1) 0).map V.int))
section
variable {P : Program} {w : World} {K : PySem.W.Frag} {mg : Str → Option Value} {base : Heap}
theorem ok_numbers_of (T : Txt P K mg) : FnOk P w K mg base CX0 1 T.f_numbers_of T.fd_numbers_of ["octets"] (spHalves K) := by
  refine T.F_numbers_of.ok sc_numbers_of (fun vs H Q E h => ?_) (fun cdv A outer s H vs Q E hr h => ?_)
  · obtain ⟨t, l, rfl, ht, hl, hq⟩ := h
    rfl
  · obtain ⟨t, l, rfl, ht, hl, hq⟩ := h
    refine ⟨_, (pss_cons (ps_set (i := 1) sc_numbers_of.nd rfl (by first | exact Or.inl rfl | exact Or.inr rfl) (pe_lst pa_nil))
      (pss_cons (ps_for PassesOwn.never rfl (pi_range1 rfl T.n_range (pa_cons (pe_op opFloorDivU (pe_callB (callLenU (K := K)) (by rfl) T.n_len (by decide +kernel) (pa_cons (pv 0) pa_nil)) pe_int) pa_nil)) (pg_name (i := 2) sc_numbers_of.nd rfl (by first | exact Or.inl rfl | exact Or.inr rfl)) (pss_one (ps_expr (pe_bm PySem.F.plainAttrs_list PySem.F.slot_list_append PySem.F.type_list_append mt_append (pv 1) (pa_cons (pe_op (opAddU (K := K)) (pe_ix (ixU (K := K)) (pv 0) (pe_op opMultU pe_int (pv 2)) (fun _ _ => rfl)) (pe_op opMultU pe_int (pe_ix (ixU (K := K)) (pv 0) (pe_op (opAddU (K := K)) (pe_op opMultU pe_int (pv 2)) pe_int) (fun _ _ => rfl)))) pa_nil)))))
      (pss_one (ps_ret (pv 1))))), ?_⟩
    try dsimp only [cxOf]
    have r0 := Same.refl H
    fail "go"
    refine ⟨by fail "sz", ?_⟩
    fail "newM"
    rename_i p H1 n1 g1 m1 h1 s1
    fail "go"
    rw [List.length_map]
    fail "go"
    refine g_R1W (n := l.length / 2) (by omega) (by omega) ?_
    refine for_range (lo := 0) (n := l.length / 2) (HalfInv H t p l) ⟨none, rfl, s1, h1⟩ ?_ ?_
    · clear s1 h1 g1 r0
      rintro i σ H2 hi ⟨x0, rfl, s2, h2⟩
      rw [Int.zero_add]
      have ht2 := sqL_mono s2 ht
      fail "go"
      refine g_ixL ht2 (atI_at9 (j := 2 * i) (by omega) (by omega)) ?_
      fail "go"
      refine g_ixL ht2 (atI_at9 (j := 2 * i + 1) (by omega) (by omega)) ?_
      fail "go"
      fail "go"
      rename_i H3 g3 h3 s3
      refine ⟨_, rfl, s3, ?_⟩
      rw [h3, List.range_succ, List.map_append, List.map_append]; rfl
    · rintro σ H2 ⟨x0, rfl, s2, h2⟩
      fail "go"
      exact hq _ _ s2 m1 h2
end
section
variable {P : Program} {w : World} {K : PySem.W.Frag} {mg : Str → Option Value} {base : Heap}
theorem ok_used_of (T : Txt P K mg) : FnOk P w K mg base CX0 1 T.f_used_of T.fd_used_of ["octets", "last_id"] (fun _ _ _ _ => False) := T.F_used_of.ok sc_used_of (fun _ _ _ _ h => h.elim) (fun _ _ _ _ _ _ _ _ _ h => h.elim)
end
def spReadBody (K : PySem.W.Frag) (C : Addr) : Sp := fun vs H Q _ => ∃ (a t : Addr) (L : Lay) (k : Int) (l : List Int), vs = [.ref a, .int k, .ref t] ∧ SqL K H t (l.map V.int) ∧ 3 ≤ k ∧ l.length ≤ 300 ∧ ∀ p H', Same H H' → H p = none → H' p = some (.tup ((if k = 3 then l else halves l).map V.int)) → Q (.ref p) H'
section
variable {P : Program} {w : World} {K : PySem.W.Frag} {mg : Str → Option Value} {base : Heap}
theorem ok_read_body (T : Txt P K mg) : FnOk P w K mg base CX0 2 T.f_read_body T.fd_read_body ["layout", "kind", "octets"] (spReadBody K T.C_Layout) := by
  have cl_Layout := T.cl_Layout
  have a_Layout_payload := T.a_Layout_payload
  have a_Layout_last_id := T.a_Layout_last_id
  have G_numbers_of := ok_numbers_of (P := P) (w := w) (base := base) T
  have G_used_of := ok_used_of (P := P) (w := w) (base := base) T
  refine T.F_read_body.ok sc_read_body (fun vs H Q E h => ?_) (fun cdv A outer s H vs Q E hr h => ?_)
  · obtain ⟨a, t, L, k, l, rfl, ht, hk, hl, hq⟩ := h
    rfl
  · obtain ⟨a, t, L, k, l, rfl, ht, hk, hl, hq⟩ := h
    refine ⟨_, (pss_cons (ps_if (pt_cmpR (opEqU (K := K) hr.units) (pv 1) (pe_glob rfl T.g_DATA T.r_DATA) (nomark _)) (pss_one (ps_ret (pe_callTy (callTupU (K := K)) (by rfl) T.n_tuple (by decide +kernel) (pa_cons (pv 2) pa_nil)))) pss_nil)
      (pss_cons (ps_if (PW.pt (pw_and (pt_cmpR (opNeU (K := K) hr.units) (pv 1) (pe_glob rfl T.g_COMMIT T.r_COMMIT) (nomark _)) (pw_and1 (pt_cmpR (opNeU (K := K) hr.units) (pv 1) (pe_glob rfl T.g_MOVE T.r_MOVE) (nomark _))))) (pss_one (ps_ret (pe_callTy (callTupU (K := K)) (by rfl) T.n_tuple (by decide +kernel) (pa_cons (pe_call G_numbers_of (hr.mono (by decide)) rfl T.g_numbers_of T.F_numbers_of.kp T.b_numbers_of .nil pass0 (pa_cons (pv 2) pa_nil)) pa_nil)))) pss_nil)
      (pss_cons (ps_set (i := 3) sc_read_body.nd rfl (by first | exact Or.inl rfl | exact Or.inr rfl) (pe_op (opAddU (K := K)) (pe_ix (ixU (K := K)) (pv 2) pe_int (fun _ _ => rfl)) (pe_op opMultU pe_int (pe_ix (ixU (K := K)) (pv 2) pe_int (fun _ _ => rfl)))))
      (pss_cons (ps_if (PW.pt (pw_or (pt_cmpR op_gt (pv 3) (pe_fldK (K := K) (pv 0) rfl) (nomark _)) (pw_or1 (pt_cmpR op_gt (pe_ix (ixU (K := K)) (pv 2) pe_int (fun _ _ => rfl)) (pe_glob rfl T.g_MOST_ACTION T.r_MOST_ACTION) (nomark _))))) (pss_one (ps_ret pe_non)) pss_nil)
      (pss_cons (ps_set (i := 4) sc_read_body.nd rfl (by first | exact Or.inl rfl | exact Or.inr rfl) (pe_callTy (callTupU (K := K)) (by rfl) T.n_tuple (by decide +kernel) (pa_cons (pe_call G_numbers_of (hr.mono (by decide)) rfl T.g_numbers_of T.F_numbers_of.kp T.b_numbers_of .nil pass0 (pa_cons (pe_slice (slU (K := K)) (pv 2) (po_some (pe_glob rfl T.g_HEADER T.r_HEADER)) (po_some (pe_op (opAddU (K := K)) (pe_glob rfl T.g_HEADER T.r_HEADER) (pe_op opMultU pe_int (pv 3))))) pa_nil)) pa_nil)))
      (pss_cons (ps_if (pt_cmpR (opEqU (K := K) hr.units) (pv 1) (pe_glob rfl T.g_MOVE T.r_MOVE) (nomark _)) (pss_one (ps_ret (pv 4))) pss_nil)
      (pss_cons (ps_set (i := 5) sc_read_body.nd rfl (by first | exact Or.inl rfl | exact Or.inr rfl) (pe_slice (slU (K := K)) (pv 2) (po_some (pe_op (opAddU (K := K)) (pe_glob rfl T.g_HEADER T.r_HEADER) (pe_op opMultU pe_int (pe_fldK (K := K) (pv 0) rfl)))) po_none))
      (pss_one (ps_ret (pe_tup (pa_cons (pv 4) (pa_cons (pe_call G_used_of (hr.mono (by decide)) rfl T.g_used_of T.F_used_of.kp T.b_used_of .nil pass0 (pa_cons (pv 5) (pa_cons (pe_fldK (K := K) (pv 0) rfl) pa_nil))) (pa_cons (pe_ix (ixU (K := K)) (pv 2) pe_int (fun _ _ => rfl)) pa_nil))))))))))))), ?_⟩
    try dsimp only [cxOf]
    have r0 := Same.refl H
    fail "go"
    refine g_ite (fun e => ?_) (fun e => ?_)
    · fail "go"
      refine g_tupL ht ?_
      intro p np
      refine hq _ _ (Gr.newM (M := []) r0 np).rh np ?_
      rw [if_pos e]; exact upd_same
    fail "go"
    refine g_iteN (fun _ => ?_) (fun z => by omega)
    fail "go"
    refine g_iteN (fun _ => ?_) (fun z => by omega)
    fail "go"
    refine ⟨t, l, rfl, ht, by omega, ?_⟩
    fail "ret"
    rename_i p H1 h1 f1 g1 m1 s1
    fail "go"
    refine g_tupL (SqL.of h1) ?_
    fail "newM"
    rename_i q H2 n2 g2 m2 h2 s2
    refine hq _ _ s2 m2 ?_
    rw [h2, if_neg e]
end
def spReadBlock (K : PySem.W.Frag) (C : Addr) : Sp := fun vs H Q _ => ∃ (a t : Addr) (L : Lay) (b : Option Blk), vs = [.ref a, .ref t] ∧ LayAt C H a L ∧ L.Ok ∧ (∀ x, b = some x → BlkX L x) ∧ SqL K H t ((octs L b).map V.int) ∧ ∀ w H', Same H H' → Dp K H' w (optD b) → Q w H'
section
variable {P : Program} {w : World} {K : PySem.W.Frag} {mg : Str → Option Value} {base : Heap}
theorem ok_read_block (T : Txt P K mg) : FnOk P w K mg base CX0 4 T.f_read_block T.fd_read_block ["layout", "octets"] (spReadBlock K T.C_Layout) := by
  have G_read_body := ok_read_body (P := P) (w := w) (base := base) T
  have G_number_of := ok_number_of (P := P) (w := w) (base := base) T
  have G_block_octets := ok_block_octets (P := P) (w := w) (base := base) T
  refine T.F_read_block.ok sc_read_block (fun vs H Q E h => ?_) (fun cdv A outer s H vs Q E hr h => ?_)
  · obtain ⟨a, t, L, b, rfl, ha, hL, hb, ht, hq⟩ := h
    rfl
  · obtain ⟨a, t, L, b, rfl, ha, hL, hb, ht, hq⟩ := h
    refine ⟨_, (pss_cons (ps_set (i := 2) sc_read_block.nd rfl (by first | exact Or.inl rfl | exact Or.inr rfl) (pe_ix (ixU (K := K)) (pv 1) pe_int (fun _ _ => rfl)))
      (pss_cons (ps_if (PW.pt (pw_or (pt_cmpR op_lt (pv 2) (pe_glob rfl T.g_COMMIT T.r_COMMIT) (nomark _)) (pw_or1 (pt_cmpR op_gt (pv 2) (pe_glob rfl T.g_PART T.r_PART) (nomark _))))) (pss_one (ps_ret pe_non)) pss_nil)
      (pss_cons (ps_set (i := 3) sc_read_block.nd rfl (by first | exact Or.inl rfl | exact Or.inr rfl) (pe_call G_read_body (hr.mono (by decide)) rfl T.g_read_body T.F_read_body.kp T.b_read_body .nil pass0 (pa_cons (pv 0) (pa_cons (pv 2) (pa_cons (pe_slice (slU (K := K)) (pv 1) (po_some (pe_glob rfl T.g_SPARE T.r_SPARE)) po_none) pa_nil)))))
      (pss_cons (ps_if (pt_cmpR opIsU (pv 3) pe_non (nomark _)) (pss_one (ps_ret pe_non)) pss_nil)
      (pss_cons (ps_set (i := 4) sc_read_block.nd rfl (by first | exact Or.inl rfl | exact Or.inr rfl) (pe_tup (pa_cons (pv 2) (pa_cons (pe_call G_number_of (hr.mono (by decide)) rfl T.g_number_of T.F_number_of.kp T.b_number_of .nil pass0 (pa_cons (pe_slice (slU (K := K)) (pv 1) (po_some pe_int) (po_some pe_int)) pa_nil)) (pa_cons (pe_call G_number_of (hr.mono (by decide)) rfl T.g_number_of T.F_number_of.kp T.b_number_of .nil pass0 (pa_cons (pe_slice (slU (K := K)) (pv 1) (po_some pe_int) (po_some pe_int)) pa_nil)) (pa_cons (pv 3) pa_nil))))))
      (pss_cons (ps_if (pt_cmpR (opNeU (K := K) hr.units) (pe_call G_block_octets (hr.mono (by decide)) rfl T.g_block_octets T.F_block_octets.kp T.b_block_octets .nil pass0 (pa_cons (pv 0) (pa_cons (pv 4) pa_nil))) (pv 1) (nomark _)) (pss_one (ps_ret pe_non)) pss_nil)
      (pss_one (ps_ret (pv 4))))))))), ?_⟩
    try dsimp only [cxOf]
    have r0 := Same.refl H
    have o1 := hL.o1
    have hlen := octs_len hL hb
    rcases b with _ | b
    · have e0 : octs L none = 0 :: List.replicate (15 + L.oct).toNat 0 := by
        rw [octs, ← List.replicate_succ]
        congr 1
        omega
      rw [e0] at ht
      fail "go"
      refine g_ixL ht (show atI _ ((0 : Nat) : Int) = some (.int 0) from atI_getD (l := _ :: _) (by simp)) ?_
      fail "go"
      exact hq _ _ r0 .non
    have bx := hb b rfl
    have hf := bx.full
    have e0 : octs L (some b) = b.kind :: (lows b.seq 6 ++ (lows b.place 2 ++ (List.replicate 7 0 ++ found b.kind b.body))) := by
      rw [octs_full hf, headOf]; simp
    have ht0 := ht
    rw [e0] at ht
    have d16 : (octs L (some b)).drop 16 = found b.kind b.body := by
      rw [octs_full hf, List.drop_append_of_le_length (by rw [headOf_len]; omega), show (headOf b).drop 16 = [] from List.drop_eq_nil_of_le (by rw [headOf_len]; omega)]
      rfl
    have d1 : ((octs L (some b)).drop 1).take (7 - 1) = lows b.seq 6 := by
      rw [e0, List.drop_succ_cons, List.drop_zero]
      exact List.take_left' (by simp)
    have d7 : ((octs L (some b)).drop 7).take (9 - 7) = lows b.place 2 := by
      rw [e0, show (7 : Nat) = 6 + 1 from rfl, List.drop_succ_cons, List.drop_left' (by simp)]
      exact List.take_left' (by simp)
    have fl : (found b.kind b.body).length ≤ 256 := by
      rw [octs_full hf, List.length_append, headOf_len] at hlen
      omega
    have fb : (if b.kind = 3 then found b.kind b.body else halves (found b.kind b.body)) = b.body := by
      unfold found
      split
      · rfl
      · exact halves_pairs _
    have k3 := hf.k
    have k5 := bx.k5
    fail "go"
    refine g_ixL ht (show atI _ ((0 : Nat) : Int) = some (.int b.kind) from atI_getD (l := _ :: _) (by simp)) ?_
    fail "go"
    refine g_iteF (decide_eq_false (by omega)) ?_
    fail "go"
    refine g_iteF (decide_eq_false (by omega)) ?_
    fail "go"
    refine g_slLlo (i := 16) ht0 rfl (by omega) ?_
    rw [d16]
    fail "newM"
    rename_i p1 H1 n1 g1 m1 h1 s1
    fail "go"
    refine ⟨a, p1, L, b.kind, found b.kind b.body, rfl, SqL.of h1, k3, by omega, ?_⟩
    rw [fb]
    fail "ret"
    rename_i p2 H2 h2 f2 g2 m2 s2
    have ht2 := sqL_mono s2 ht0
    fail "go"
    refine g_slLI (i := 1) (j := 7) ht2 rfl rfl (by decide) (by omega) ?_
    rw [d1]
    fail "newM"
    rename_i p3 H3 n3 g3 m3 h3 s3
    fail "go"
    refine ⟨p3, lows b.seq 6, rfl, .inl (SqL.of h3), ?_⟩
    rw [numOf_lows 6 b.seq bx.s0 (by have := bx.s1; show b.seq < 281474976710656; exact this)]
    have ht3 := sqL_mono s3 ht0
    fail "go"
    refine g_slLI (i := 7) (j := 9) ht3 rfl rfl (by decide) (by omega) ?_
    rw [d7]
    fail "newM"
    rename_i p4 H4 n4 g4 m4 h4 s4
    fail "go"
    refine ⟨p4, lows b.place 2, rfl, .inl (SqL.of h4), ?_⟩
    rw [numOf_lows 2 b.place bx.p0 (by have := bx.p1; show b.place < 65536; exact this)]
    have h2' : H4 p2 = some (.tup (b.body.map V.int)) := g4.g.same _ _ (g3.g.same _ _ h2)
    clear h2 h3 h4 g1 g2 g3 g4 s1 s2 s3
    fail "go"
    refine ⟨by fail "sz", ?_⟩
    fail "newM"
    rename_i p5 H5 n5 g5 m5 h5 s5
    have db : Dp K H5 (.ref p5) b.d := .tup (SqT.of h5) (.cons (.int _) (.cons (.int _) (.cons (.int _) (.cons (.tup (SqT.of (g5.g.same _ _ h2')) (dpAll_ints _)) .nil))))
    fail "go"
    refine ⟨a, _, L, some b, rfl, ha.mono s5, hL, db, blkOk_of hL hb, ?_⟩
    fail "ret"
    rename_i p6 H6 h6 f6 g6 m6 s6
    have ht6 := sqL_mono s6 ht0
    fail "go"
    refine g_neDa (.lst (SqL.of h6) (dpAll_ints _)) (.lst ht6 (dpAll_ints _)) (la_shaped (la_lst (n := 0) la_ints)) (la_shaped (la_lst (n := 0) la_ints)) (.inl ⟨_, rfl⟩) ?_
    rw [eqv_same (by rw [clean]; exact clean_ints _)]
    fail "go"
    exact hq _ _ s6 (dp_mono g6.g.same db)
end
def rowOf (L : Lay) (r : List Int) (c : Cell) : Prop := (r = cellOcts L c ∧ CellX L c) ∨ (∃ x q, r = x :: q ∧ x ≠ 1 ∧ c = none)
def spReadCell (K : PySem.W.Frag) (C : Addr) : Sp := fun vs H Q _ => ∃ (a t : Addr) (L : Lay) (r : List Int) (c : Cell), vs = [.ref a, .ref t] ∧ LayAt C H a L ∧ L.Ok ∧ SqL K H t (r.map V.int) ∧ rowOf L r c ∧ ∀ w H', Same H H' → Dp K H' w (cellD c) → Q w H'
section
variable {P : Program} {w : World} {K : PySem.W.Frag} {mg : Str → Option Value} {base : Heap}
theorem ok_read_cell (T : Txt P K mg) : FnOk P w K mg base CX0 5 T.f_read_cell T.fd_read_cell ["layout", "octets"] (spReadCell K T.C_Layout) := by
  have cl_Layout := T.cl_Layout
  have a_Layout_block_size := T.a_Layout_block_size
  have G_number_of := ok_number_of (P := P) (w := w) (base := base) T
  have G_read_block := ok_read_block (P := P) (w := w) (base := base) T
  refine T.F_read_cell.ok sc_read_cell (fun vs H Q E h => ?_) (fun cdv A outer s H vs Q E hr h => ?_)
  · obtain ⟨a, t, L, r, c, rfl, ha, hL, ht, hrow, hq⟩ := h
    rfl
  · obtain ⟨a, t, L, r, c, rfl, ha, hL, ht, hrow, hq⟩ := h
    refine ⟨_, (pss_cons (ps_if (pt_cmpR (opNeU (K := K) hr.units) (pe_ix (ixU (K := K)) (pv 1) pe_int (fun _ _ => rfl)) pe_int (nomark _)) (pss_one (ps_ret pe_non)) pss_nil)
      (pss_cons (ps_set (i := 2) sc_read_cell.nd rfl (by first | exact Or.inl rfl | exact Or.inr rfl) (pe_op (opAddU (K := K)) (pe_op (opAddU (K := K)) pe_int (pe_glob rfl T.g_SPARE T.r_SPARE)) (pe_fldK (K := K) (pv 0) rfl)))
      (pss_one (ps_ret (pe_tup (pa_cons (pe_call G_read_block (hr.mono (by decide)) rfl T.g_read_block T.F_read_block.kp T.b_read_block .nil pass0 (pa_cons (pv 0) (pa_cons (pe_slice (slU (K := K)) (pv 1) (po_some pe_int) (po_some (pv 2))) pa_nil))) (pa_cons (pe_call G_number_of (hr.mono (by decide)) rfl T.g_number_of T.F_number_of.kp T.b_number_of .nil pass0 (pa_cons (pe_slice (slU (K := K)) (pv 1) (po_some (pv 2)) po_none) pa_nil)) pa_nil))))))), ?_⟩
    try dsimp only [cxOf]
    have r0 := Same.refl H
    have o1 := hL.o1
    rcases hrow with ⟨rfl, hc⟩ | ⟨x, q, rfl, hx, rfl⟩
    · rcases c with _ | ⟨b, k⟩
      · have e0 : cellOcts L none = 0 :: List.replicate (20 + L.oct).toNat 0 := by
          rw [cellOcts, ← List.replicate_succ]
          congr 1
          omega
        rw [e0] at ht
        fail "go"
        refine g_ixL ht (show atI _ ((0 : Nat) : Int) = some (.int 0) from atI_getD (l := _ :: _) (by simp)) ?_
        fail "go"
        exact hq _ _ r0 .non
      · have hlen := octs_len hL hc.1
        have hcl := cellOcts_len hL hc
        have ht0 := ht
        rw [cellOcts] at ht
        have d1 : ((cellOcts L (some (b, k))).drop 1).take (17 + L.oct.toNat - 1) = octs L b := by
          rw [cellOcts, List.drop_succ_cons, List.drop_zero]
          exact List.take_left' (by omega)
        have d2 : (cellOcts L (some (b, k))).drop (17 + L.oct.toNat) = lows k 4 := by
          rw [cellOcts, show 17 + L.oct.toNat = (16 + L.oct.toNat) + 1 by omega, List.drop_succ_cons]
          exact List.drop_left' (by omega)
        obtain ⟨dx, haf⟩ := ha
        fail "go"
        refine g_ixL ht (show atI _ ((0 : Nat) : Int) = some (.int 1) from atI_getD (l := _ :: _) (by simp)) ?_
        fail "go"
        refine g_slLI (i := 1) (j := 17 + L.oct.toNat) ht0 rfl (by omega) (by omega) (by omega) ?_
        rw [d1]
        fail "newM"
        rename_i p1 H1 n1 g1 m1 h1 s1
        fail "go"
        refine ⟨a, p1, L, b, rfl, ⟨_, s1 _ _ haf⟩, hL, hc.1, SqL.of h1, fun w H2 s2 dw => ?_⟩
        have s02 := s1.trans s2
        have ht2 := sqL_mono s02 ht0
        fail "go"
        refine g_slLlo (i := 17 + L.oct.toNat) ht2 (by omega) (by omega) ?_
        rw [d2]
        fail "newM"
        rename_i p3 H3 n3 g3 m3 h3 s3
        fail "go"
        refine ⟨p3, lows k 4, rfl, .inl (SqL.of h3), ?_⟩
        rw [numOf_lows 4 k hc.2.1 (by have := hc.2.2; show k < 4294967296; exact this)]
        fail "go"
        refine ⟨by fail "sz", ?_⟩
        fail "newM"
        rename_i p4 H4 n4 g4 m4 h4 s4
        exact hq _ _ s4 (.tup (SqT.of h4) (.cons (dp_mono (g3.g.same.trans g4.g.same) dw) (.cons (.int _) .nil)))
    · fail "go"
      refine g_ixL ht (show atI _ ((0 : Nat) : Int) = some (.int x) from atI_getD (l := _ :: _) (by simp)) ?_
      fail "go"
      refine g_iteN (fun _ => ?_) (fun z => absurd z hx)
      fail "go"
      exact hq _ _ r0 .non
end
theorem flat_row {z : Nat} : ∀ {rows : List (List Int)} {i : Nat} {r : List Int}, (∀ r ∈ rows, r.length = z) → rows[i]? = some r → (rows.flatten.drop (i * z)).take z = r
  | [], i, r, _, h => by simp at h
  | r0 :: t, 0, r, hz, h => by
    cases h
    rw [Nat.zero_mul, List.drop_zero, List.flatten_cons]
    exact List.take_left' (hz _ List.mem_cons_self)
  | r0 :: t, i + 1, r, hz, h => by
    have ih := flat_row (rows := t) (i := i) (fun x hx => hz x (List.mem_cons_of_mem _ hx)) (by simpa using h)
    rw [Nat.add_mul, Nat.one_mul, Nat.add_comm, List.flatten_cons, ← List.drop_drop, List.drop_left' (hz _ List.mem_cons_self)]
    exact ih
theorem only_cell (c : Cell) : tupOnly (cellD c) = true := by
  rcases c with _ | ⟨b, k⟩
  · simp [cellD, tupOnly]
  · cases b with
    | none => simp [cellD, optD, tupOnly, tupOnlyAll]
    | some b => simp [cellD, optD, tupOnly, tupOnlyAll, only_blk]
theorem take_snoc9 {cs : List Cell} {i : Nat} {c : Cell} (h : cs[i]? = some c) : cs.take (i + 1) = cs.take i ++ [c] := by
  rw [List.take_add_one, h]; rfl
def spReadSide (K : PySem.W.Frag) (CL CS CD : Addr) : Sp := fun vs H Q _ => ∃ (t : Addr) (L : Lay) (n : Int) (o : List Int) (rows : List (List Int)) (cs : List Cell), vs = [.ref t] ∧ L.Ok ∧ (0 ≤ L.device ∧ L.device < 900) ∧ ImgOk L n o rows ∧ SqL K H t (o.map V.int) ∧ rows.length = cs.length ∧ (∀ (i : Nat) (r : List Int) (c : Cell), rows[i]? = some r → cs[i]? = some c → rowOf L r c) ∧
  ∀ s a d l1 l2 l3 us H', Same H H' → LayAt CL H' a L → SideIn CS H' s a n d → DevAt CD H' d a l1 l2 l3 → H' l1 = some (.lst us) → H' l3 = some (.lst []) → DpAll K H' us (cs.map cellD) → Q (.ref s) H'
def RsInv (K : PySem.W.Frag) (R : Hp) (t a p : Addr) (z : Int) (cs : List Cell) (i : Nat) (σ : St) (H : Hp) : Prop := ∃ (x y : Option V) (us : List V) (R1 : Hp), σ = [some (.ref t), some (.ref a), some (.int z), some (.ref p), x, y] ∧ Same R R1 ∧ Same R1 H ∧ R1 p = none ∧ H p = some (.lst us) ∧ DpAll K R1 us ((cs.take i).map cellD)
section
variable {P : Program} {w : World} {K : PySem.W.Frag} {mg : Str → Option Value} {base : Heap}
theorem ok_read_side (T : Txt P K mg) : FnOk P w K mg base CX0 6 T.f_read_side T.fd_read_side ["octets"] (spReadSide K T.C_Layout T.C_Side T.C_Device) := by
  have cl_Layout := T.cl_Layout
  have a_Layout_device_blocks := T.a_Layout_device_blocks
  have G_layout_of_side := ok_layout_of_side (P := P) (w := w) (base := base) T
  have G_cell_size := ok_cell_size (P := P) (w := w) (base := base) T
  have G_read_cell := ok_read_cell (P := P) (w := w) (base := base) T
  have G_Side___init__ := ok_Side___init__ (P := P) (w := w) (base := base) T
  refine T.F_read_side.ok sc_read_side (fun vs H Q E h => ?_) (fun cdv A outer s H vs Q E hr h => ?_)
  · obtain ⟨t, L, n, o, rows, cs, rfl, hL, hdev, him, ht, hlen, hrow, hq⟩ := h
    rfl
  · obtain ⟨t, L, n, o, rows, cs, rfl, hL, hdev, him, ht, hlen, hrow, hq⟩ := h
    refine ⟨_, (pss_cons (ps_set (i := 1) sc_read_side.nd rfl (by first | exact Or.inl rfl | exact Or.inr rfl) (pe_call G_layout_of_side (hr.mono (by decide)) rfl T.g_layout_of_side T.F_layout_of_side.kp T.b_layout_of_side .nil pass0 (pa_cons (pv 0) pa_nil)))
      (pss_cons (ps_set (i := 2) sc_read_side.nd rfl (by first | exact Or.inl rfl | exact Or.inr rfl) (pe_call G_cell_size (hr.mono (by decide)) rfl T.g_cell_size T.F_cell_size.kp T.b_cell_size .nil pass0 (pa_cons (pv 1) pa_nil)))
      (pss_cons (ps_set (i := 3) sc_read_side.nd rfl (by first | exact Or.inl rfl | exact Or.inr rfl) (pe_lst pa_nil))
      (pss_cons (ps_for PassesOwn.never rfl (pi_range1 rfl T.n_range (pa_cons (pe_op (opAddU (K := K)) (pe_fldK (K := K) (pv 1) rfl) (pe_glob rfl T.g_LABELS T.r_LABELS)) pa_nil)) (pg_name (i := 4) sc_read_side.nd rfl (by first | exact Or.inl rfl | exact Or.inr rfl)) (pss_cons (ps_set (i := 5) sc_read_side.nd rfl (by first | exact Or.inl rfl | exact Or.inr rfl) (pe_op (opAddU (K := K)) (pe_glob rfl T.g_HEAD T.r_HEAD) (pe_op opMultU (pv 4) (pv 2))))
      (pss_one (ps_expr (pe_bm PySem.F.plainAttrs_list PySem.F.slot_list_append PySem.F.type_list_append mt_append (pv 3) (pa_cons (pe_call G_read_cell (hr.mono (by decide)) rfl T.g_read_cell T.F_read_cell.kp T.b_read_cell .nil pass0 (pa_cons (pv 1) (pa_cons (pe_slice (slU (K := K)) (pv 0) (po_some (pv 5)) (po_some (pe_op (opAddU (K := K)) (pv 5) (pv 2)))) pa_nil))) pa_nil))))))
      (pss_one (ps_ret (pe_make T.mk_Side G_Side___init__ (hr.mono (by decide)) rfl T.g_Side T.b_Side___init__ .nil pass0 (pa_cons (pv 1) (pa_cons (pe_ix (ixU (K := K)) (pv 0) pe_int (fun _ _ => rfl)) (pa_cons (pv 3) pa_nil)))))))))), ?_⟩
    try dsimp only [cxOf]
    have r0 := Same.refl H
    have o1 := hL.o1
    have olen := him.olen
    fail "go"
    refine ⟨H, t, L, n, o, rows, rfl, r0, hL, hdev, him, ht, fun a H1 s1 na ha => ?_⟩
    fail "go"
    refine ⟨a, L, rfl, ha, ?_⟩
    obtain ⟨z, hz⟩ : ∃ z : Nat, 1 + 16 + L.oct + 4 = (z : Int) := ⟨(1 + 16 + L.oct + 4).toNat, by omega⟩
    rw [hz]
    have each : ∀ r ∈ rows, r.length = z := fun r hr => by have := him.each r hr; omega
    have hN : L.device + 2 = ((cs.length : Nat) : Int) := by rw [← hlen]; exact him.len.symm
    have zb : z ≤ 300 := by omega
    have o5 : atI (o.map V.int) 5 = some (.int n) := by
      have big : 16 ≤ o.length := by rw [him.eq, List.length_append, headOct_len]; omega
      exact (show atI _ ((5 : Nat) : Int) = _ from (atI_getD (by omega)).trans (by rw [him.eq, headOct]; simp))
    have d16 : o.drop 16 = rows.flatten := by rw [him.eq]; exact List.drop_left' (headOct_len L n)
    have olen2 : o.length = 16 + cs.length * z := by
      have e : (o.length : Int) = ((16 + cs.length * z : Nat) : Int) := by
        rw [olen, hN, show (21 : Int) + L.oct = (z : Int) by omega]
        push_cast
        rfl
      exact_mod_cast e
    obtain ⟨lx, haf⟩ := ha
    fail "go"
    refine ⟨by fail "sz", ?_⟩
    fail "newM"
    rename_i p H2 n2 g2 m2 h2 s2
    have haf2 := g2.g.same _ _ haf
    have g2s := g2.g.same
    have ht9 : SqL K H1 t (o.map V.int) := sqL_mono s1 ht
    have s0H := s1
    fail "go"
    refine g_R1W (n := cs.length) hN (by omega) ?_
    refine for_range (lo := 0) (n := cs.length) (RsInv K H1 t a p z cs) ⟨none, none, [], H1, rfl, Same.refl _, g2s, n2, h2, .nil⟩ ?_ ?_
    · clear h2 s2 g2 g2s haf2 s1
      rintro i σ H3 hi ⟨x0, y0, us, R1, rfl, s01, s13, R1p, h3, du⟩
      rw [Int.zero_add]
      obtain ⟨c, hc⟩ : ∃ c, cs[i]? = some c := ⟨cs[i], List.getElem?_eq_getElem hi⟩
      obtain ⟨r, hr1⟩ : ∃ r, rows[i]? = some r := ⟨rows[i]'(by omega), List.getElem?_eq_getElem _⟩
      have hrc := hrow i r c hr1 hc
      have ul : us.length = i := by have := dpAll_len du; simp at this; omega
      have iz : i * z + z ≤ cs.length * z := by
        have := Nat.mul_le_mul_right z (show i + 1 ≤ cs.length by omega)
        rw [Nat.add_mul, Nat.one_mul] at this
        exact this
      have ht3 := sqL_mono (s01.trans s13) ht9
      have slice : (o.drop (16 + i * z)).take (16 + i * z + z - (16 + i * z)) = r := by
        rw [show 16 + i * z + z - (16 + i * z) = z by omega, ← List.drop_drop, d16]
        exact flat_row each hr1
      fail "go"
      refine g_slLI (i := 16 + i * z) (j := 16 + i * z + z) ht3 (by push_cast; rfl) (by push_cast; rfl) (by omega) (by omega) ?_
      rw [slice]
      fail "newM"
      rename_i q H4 n4 g4 m4 h4 s4
      have haf4 := s4 _ _ (s01 _ _ haf)
      have h34 := g4.g.same _ _ h3
      clear s13 ht3
      fail "go"
      refine ⟨a, q, L, r, c, rfl, ⟨_, haf4⟩, hL, SqL.of h4, hrc, fun w H5 s5 dw => ?_⟩
      have h35 := s5 _ _ h34
      have sRW : Same R1 (wo H5 p) := same_wo (s4.trans s5) R1p
      have dw5 := dp_wo h35 (only_cell c) dw
      have du5 := dpAll_mono sRW du
      have Wp : wo H5 p p = none := wo_self
      have sW : Same (wo H5 p) H5 := wo_same
      have s0W := s01.trans sRW
      generalize wo H5 p = RW at sRW dw5 du5 Wp sW s0W
      clear g4 h4 s4 s5 h34 haf4 sRW dw du
      fail "go"
      rename_i H6 g6 h6 s6
      refine ⟨_, _, us ++ [w], RW, rfl, s0W, s6, Wp, h6, ?_⟩
      rw [take_snoc9 hc, List.map_append]
      exact dpAll_app du5 (.cons dw5 .nil)
    · clear h2 s2 g2 g2s haf2 s1
      rintro σ H3 ⟨x0, y0, us, R1, rfl, s01, s13, R1p, h3, du⟩
      rw [List.take_length] at du
      have ht3 := sqL_mono (s01.trans s13) ht9
      have haf1 := s01 _ _ haf
      fail "go"
      refine g_ixL ht3 o5 ?_
      fail "go"
      intro x dx nx ndx nex
      have ms := made_same (C := T.C_Side) nx ndx
      refine ⟨R1, x, dx, a, n, .ref p, us, L, rfl, s13.trans ms, s13.free nx, upd_same, ⟨_, haf1⟩, hL, hdev, .inl ⟨p, rfl, SqL.of (ms _ _ h3)⟩, fun H' d l1 l2 l3 g _ _ _ _ _ _ _ _ hs hd e1 e2 e3 => ⟨rfl, ?_⟩⟩
      exact hq x a d l1 l2 l3 us H' (s0H.trans (s01.trans g.rh)) ⟨_, g.rh _ _ haf1⟩ hs hd e1 e3 (dpAll_mono g.rh du)
end
def spDevSure (C : Addr) : Sp := fun vs H Q _ => ∃ (d a l1 l2 l3 : Addr) (us : List V), vs = [.ref d] ∧ DevAt C H d a l1 l2 l3 ∧ H l1 = some (.lst us) ∧ ∀ p, H p = none → Q (.ref p) (upd H p (.lst us))
section
variable {P : Program} {w : World} {K : PySem.W.Frag} {mg : Str → Option Value} {base : Heap}
theorem ok_Device_sure_blocks (T : Txt P K mg) : FnOk P w K mg base CX0 1 T.f_Device_sure_blocks T.fd_Device_sure_blocks ["self"] (spDevSure T.C_Device) := by
  have cl_Device := T.cl_Device
  have a_Device_sure := T.a_Device_sure
  refine T.F_Device_sure_blocks.ok sc_Device_sure_blocks (fun vs H Q E h => ?_) (fun cdv A outer s H vs Q E hr h => ?_)
  · obtain ⟨d, a, l1, l2, l3, us, rfl, ⟨dx, hd⟩, h1, hq⟩ := h
    rfl
  · obtain ⟨d, a, l1, l2, l3, us, rfl, ⟨dx, hd⟩, h1, hq⟩ := h
    refine ⟨_, (pss_one (ps_ret (pe_callTy (callListU (K := K)) (by rfl) T.n_list (by decide +kernel) (pa_cons (pe_fldK (K := K) (pv 0) rfl) pa_nil)))), ?_⟩
    try dsimp only [cxOf]
    have r0 := Same.refl H
    fail "go"
    exact g_listL (SqL.of h1) hq
end
def spDevCut (C : Addr) : Sp := fun vs H Q _ => ∃ (d a l1 l2 l3 : Addr), vs = [.ref d] ∧ DevAt C H d a l1 l2 l3 ∧ Q (.bl false) H
section
variable {P : Program} {w : World} {K : PySem.W.Frag} {mg : Str → Option Value} {base : Heap}
theorem ok_Device_was_cut (T : Txt P K mg) : FnOk P w K mg base CX0 1 T.f_Device_was_cut T.fd_Device_was_cut ["self"] (spDevCut T.C_Device) := by
  have cl_Device := T.cl_Device
  have a_Device_dark := T.a_Device_dark
  refine T.F_Device_was_cut.ok sc_Device_was_cut (fun vs H Q E h => ?_) (fun cdv A outer s H vs Q E hr h => ?_)
  · obtain ⟨d, a, l1, l2, l3, rfl, ⟨dx, hd⟩, hq⟩ := h
    rfl
  · obtain ⟨d, a, l1, l2, l3, rfl, ⟨dx, hd⟩, hq⟩ := h
    refine ⟨_, (pss_one (ps_ret (pe_fldK (K := K) (pv 0) rfl))), ?_⟩
    try dsimp only [cxOf]
    have r0 := Same.refl H
    fail "go"
    exact hq
end
def spDevPend (C : Addr) : Sp := fun vs H Q _ => ∃ (d a l1 l2 l3 : Addr) (ws : List V), vs = [.ref d] ∧ DevAt C H d a l1 l2 l3 ∧ H l3 = some (.lst ws) ∧ Q (.int (ws.length : Int)) H
section
variable {P : Program} {w : World} {K : PySem.W.Frag} {mg : Str → Option Value} {base : Heap}
theorem ok_Device_pending (T : Txt P K mg) : FnOk P w K mg base CX0 1 T.f_Device_pending T.fd_Device_pending ["self"] (spDevPend T.C_Device) := by
  have cl_Device := T.cl_Device
  have a_Device_waiting := T.a_Device_waiting
  refine T.F_Device_pending.ok sc_Device_pending (fun vs H Q E h => ?_) (fun cdv A outer s H vs Q E hr h => ?_)
  · obtain ⟨d, a, l1, l2, l3, ws, rfl, ⟨dx, hd⟩, h3, hq⟩ := h
    rfl
  · obtain ⟨d, a, l1, l2, l3, ws, rfl, ⟨dx, hd⟩, h3, hq⟩ := h
    refine ⟨_, (pss_one (ps_ret (pe_callB (callLenU (K := K)) (by rfl) T.n_len (by decide +kernel) (pa_cons (pe_fldK (K := K) (pv 0) rfl) pa_nil)))), ?_⟩
    try dsimp only [cxOf]
    have r0 := Same.refl H
    fail "go"
    exact hq
end
def spSidePend (CS CD : Addr) : Sp := fun vs H Q _ => ∃ (s d a l1 l2 l3 : Addr) (n : Int) (ws : List V), vs = [.ref s] ∧ SideIn CS H s a n d ∧ DevAt CD H d a l1 l2 l3 ∧ H l3 = some (.lst ws) ∧ Q (.int (ws.length : Int)) H
section
variable {P : Program} {w : World} {K : PySem.W.Frag} {mg : Str → Option Value} {base : Heap}
theorem ok_Side_pending (T : Txt P K mg) : FnOk P w K mg base CX0 2 T.f_Side_pending T.fd_Side_pending ["self"] (spSidePend T.C_Side T.C_Device) := by
  have cl_Side := T.cl_Side
  have a_Side_device := T.a_Side_device
  have G_Device_pending := ok_Device_pending (P := P) (w := w) (base := base) T
  refine T.F_Side_pending.ok sc_Side_pending (fun vs H Q E h => ?_) (fun cdv A outer s H vs Q E hr h => ?_)
  · obtain ⟨s, d, a, l1, l2, l3, n, ws, rfl, ⟨sx, hs⟩, ⟨dx, hd⟩, h3, hq⟩ := h
    rfl
  · obtain ⟨s, d, a, l1, l2, l3, n, ws, rfl, ⟨sx, hs⟩, ⟨dx, hd⟩, h3, hq⟩ := h
    refine ⟨_, (pss_one (ps_ret (pe_meth0 (pe_fldK (K := K) (pv 0) rfl) T.cl_Device T.m_Device_pending G_Device_pending (hr.mono (by decide)) T.b_Device_pending .nil pass0))), ?_⟩
    try dsimp only [cxOf]
    have r0 := Same.refl H
    fail "go"
    exact ⟨d, a, l1, l2, l3, ws, rfl, ⟨_, hd⟩, h3, hq⟩
end
theorem la_cell (c : Cell) : LaD (cellD c) 3 := by
  rcases c with _ | ⟨b, k⟩
  · exact la_non
  · refine la_tup (la_cons ?_ (la_cons la_int la_non'))
    cases b with
    | none => exact la_non
    | some b => exact la_blk b
theorem clean_cell (c : Cell) : clean (cellD c) = true := by
  rcases c with _ | ⟨b, k⟩
  · rfl
  · cases b with
    | none => simp [cellD, optD, clean, cleanAll]
    | some b => simp [cellD, optD, clean, cleanAll, clean_blk]
theorem la_cells (cs : List Cell) : LaD (.list (cs.map cellD)) 4 := la_lst fun d h => by
  obtain ⟨c, _, rfl⟩ := List.mem_map.mp h
  exact la_cell c
theorem clean_cells : ∀ cs : List Cell, cleanAll (cs.map cellD) = true
  | [] => rfl
  | c :: r => by rw [List.map_cons, cleanAll, clean_cell, clean_cells r]; rfl
def spLawReads (K : PySem.W.Frag) (CL : Addr) : Sp := fun vs H Q _ => ∃ (t a c : Addr) (L : Lay) (n : Int) (o : List Int) (rows : List (List Int)) (us : List V) (cs : List Cell), vs = [.ref t, .ref a, .int n, .ref c] ∧ LayAt CL H a L ∧ L.Ok ∧ (0 ≤ L.device ∧ L.device < 900) ∧ ImgOk L n o rows ∧ SqL K H t (o.map V.int) ∧ rows.length = cs.length ∧ (∀ (i : Nat) (r : List Int) (c : Cell), rows[i]? = some r → cs[i]? = some c → rowOf L r c) ∧ SqL K H c us ∧ DpAll K H us (cs.map cellD) ∧ ∀ H', Same H H' → Q (.bl true) H'
section
variable {P : Program} {w : World} {K : PySem.W.Frag} {mg : Str → Option Value} {base : Heap}
theorem ok__law_reads (T : Txt P K mg) : FnOk P w K mg base CX0 7 T.f__law_reads T.fd__law_reads ["octets", "layout", "seat", "cells"] (spLawReads K T.C_Layout) := by
  have cl_Side := T.cl_Side
  have cl_Layout := T.cl_Layout
  have a_Side_device := T.a_Side_device
  have a_Side_seat := T.a_Side_seat
  have a_Layout_block_size := T.a_Layout_block_size
  have a_Side_layout := T.a_Side_layout
  have a_Layout_segment_blocks := T.a_Layout_segment_blocks
  have a_Layout_segments := T.a_Layout_segments
  have G_read_side := ok_read_side (P := P) (w := w) (base := base) T
  have G_Device_sure_blocks := ok_Device_sure_blocks (P := P) (w := w) (base := base) T
  have G_Device_was_cut := ok_Device_was_cut (P := P) (w := w) (base := base) T
  have G_Side_pending := ok_Side_pending (P := P) (w := w) (base := base) T
  refine T.F__law_reads.ok sc__law_reads (fun vs H Q E h => ?_) (fun cdv A outer s H vs Q E hr h => ?_)
  · obtain ⟨t, a, c, L, n, o, rows, us, cs, rfl, ha, hL, hdev, him, ht, hlen, hrow, hc, du, hq⟩ := h
    rfl
  · obtain ⟨t, a, c, L, n, o, rows, us, cs, rfl, ha, hL, hdev, him, ht, hlen, hrow, hc, du, hq⟩ := h
    refine ⟨_, (pss_cons (ps_set (i := 4) sc__law_reads.nd rfl (by first | exact Or.inl rfl | exact Or.inr rfl) (pe_call G_read_side (hr.mono (by decide)) rfl T.g_read_side T.F_read_side.kp T.b_read_side .nil pass0 (pa_cons (pe_callTy (callListU (K := K)) (by rfl) T.n_list (by decide +kernel) (pa_cons (pv 0) pa_nil)) pa_nil)))
      (pss_cons (ps_if (PW.pt (pw_or (pt_cmpR (opNeU (K := K) hr.units) (pe_fldK (K := K) (pv 4) rfl) (pv 2) (nomark _)) (pw_or (pt_cmpR (opNeU (K := K) hr.units) (pe_meth0 (pv 4) T.cl_Side T.m_Side_pending G_Side_pending (hr.mono (by decide)) T.b_Side_pending .nil pass0) pe_int (nomark _)) (pw_or (pt_truthK (K := K) (pe_meth0 (pe_fldK (K := K) (pv 4) rfl) T.cl_Device T.m_Device_was_cut G_Device_was_cut (hr.mono (by decide)) T.b_Device_was_cut .nil pass0) (by intro _; rfl)) (pw_or1 (pt_cmpR (opNeU (K := K) hr.units) (pe_meth0 (pe_fldK (K := K) (pv 4) rfl) T.cl_Device T.m_Device_sure_blocks G_Device_sure_blocks (hr.mono (by decide)) T.b_Device_sure_blocks .nil pass0) (pv 3) (nomark _))))))) (pss_one (ps_ret pe_bl)) pss_nil)
      (pss_cons (ps_set (i := 5) sc__law_reads.nd rfl (by first | exact Or.inl rfl | exact Or.inr rfl) (pe_tup (pa_cons (pe_fldK (K := K) (pe_fldK (K := K) (pv 4) rfl) rfl) (pa_cons (pe_fldK (K := K) (pe_fldK (K := K) (pv 4) rfl) rfl) (pa_cons (pe_fldK (K := K) (pe_fldK (K := K) (pv 4) rfl) rfl) pa_nil)))))
      (pss_one (ps_ret (pe_cmpR (opEqU (K := K) hr.units) (pv 5) (pe_tup (pa_cons (pe_fldK (K := K) (pv 1) rfl) (pa_cons (pe_fldK (K := K) (pv 1) rfl) (pa_cons (pe_fldK (K := K) (pv 1) rfl) pa_nil)))) (nomark _))))))), ?_⟩
    try dsimp only [cxOf]
    have r0 := Same.refl H
    fail "go"
    refine g_listL ht ?_
    fail "newM"
    rename_i p1 H1 n1 g1 m1 h1 s1
    fail "go"
    refine ⟨p1, L, n, o, rows, cs, rfl, hL, hdev, him, SqL.of h1, hlen, hrow, fun s a2 d l1 l2 l3 us2 H2 s2 ha2 hs hd e1 e3 du2 => ?_⟩
    obtain ⟨sx, hs⟩ := hs
    obtain ⟨dx, hd⟩ := hd
    obtain ⟨lx2, ha2⟩ := ha2
    have s02 := s1.trans s2
    obtain ⟨lx, ha⟩ := ha
    have ha02 := s02 _ _ ha
    clear g1 h1 s1 s2
    fail "go"
    refine g_iteN (fun z => absurd rfl z) (fun _ => ?_)
    fail "go"
    refine ⟨s, d, a2, l1, l2, l3, n, [], rfl, ⟨_, hs⟩, ⟨_, hd⟩, e3, ?_⟩
    fail "go"
    refine ⟨d, a2, l1, l2, l3, rfl, ⟨_, hd⟩, ?_⟩
    fail "go"
    refine ⟨false, rfl, ?_⟩
    fail "go"
    refine ⟨d, a2, l1, l2, l3, us2, rfl, ⟨_, hd⟩, e1, ?_⟩
    fail "newM"
    rename_i p3 H3 n3 g3 m3 h3 s3
    have hc3 := sqL_mono s3 hc
    have du3 := dpAll_mono s3 du
    have g3s := g3.g.same
    fail "go"
    refine g_neDa (.lst (SqL.of h3) (dpAll_mono g3s du2)) (.lst hc3 du3) (la_shaped (la_cells cs)) (la_shaped (la_cells cs)) (.inl ⟨_, rfl⟩) ?_
    rw [eqv_same (by rw [clean]; exact clean_cells cs)]
    have hs3 := g3s _ _ hs
    have hd3 := g3s _ _ hd
    have ha3 := g3s _ _ ha02
    have ha23 := g3s _ _ ha2
    clear g3 g3s h3 du2 du3 hs hd e1 e3 ha02 ha2
    fail "go"
    refine ⟨by fail "sz", ?_⟩
    fail "newM"
    rename_i p4 H4 n4 g4 m4 h4 s4
    fail "go"
    refine ⟨by fail "sz", ?_⟩
    fail "newM"
    rename_i p5 H5 n5 g5 m5 h5 s5
    have dd : ∀ {q : Addr}, H5 q = some (.tup [.int L.seg, .int L.blk, .int L.oct]) → Dp K H5 (.ref q) (.tuple ([L.seg, L.blk, L.oct].map PyData.int)) := fun h => .tup (SqT.of h) (dpAll_ints [L.seg, L.blk, L.oct])
    refine g_eqDa (dd (g5.g.same _ _ h4)) (dd h5) (la_shaped (la_tup (n := 0) la_ints)) (la_shaped (la_tup (n := 0) la_ints)) (.inl ⟨_, rfl⟩) ?_
    rw [eqv_same (by rw [clean]; exact clean_ints _)]
    exact hq _ s5
end
def spLawImage (K : PySem.W.Frag) (C : Addr) : Sp := fun vs H Q _ => ∃ (a t : Addr) (L : Lay) (n : Int) (us : List V) (cs : List Cell), vs = [.ref a, .int n, .ref t] ∧ LayAt C H a L ∧ L.Ok ∧ SqL K H t us ∧ DpAll K H us (cs.map cellD) ∧ (∀ c ∈ cs, CellX L c) ∧ cs.length ≤ 130 ∧ ∀ p H', Same H H' → H p = none → H' p = some (.lst ((imageOf L n cs).map V.int)) → Q (.ref p) H'
theorem takeX9 {L : Lay} {cs : List Cell} (h : ∀ c ∈ cs, CellX L c) (i : Nat) : ∀ c ∈ cs.take i, CellX L c := fun c hc => h c (List.mem_of_mem_take hc)
theorem take_snoc8 {cs : List Cell} {i : Nat} {c : Cell} (h : cs[i]? = some c) : cs.take (i + 1) = cs.take i ++ [c] := by
  rw [List.take_add_one, h]; rfl
def ImInv (R : Hp) (a t : Addr) (L : Lay) (n : Int) (cs : List Cell) (i : Nat) (σ : St) (H : Hp) : Prop := ∃ (p : Addr) (x : Option V), σ = [some (.ref a), some (.int n), some (.ref t), some (.ref p), x] ∧ Same R H ∧ R p = none ∧ H p = some (.lst ((headOct L n ++ cellsOcts L (cs.take i)).map V.int))
local macro_rules | `(tactic| fail "calls") => `(tactic| ((with_reducible show spLow _ _ _ _); first | refine ⟨_, 6, rfl, by omega, ?_⟩ | refine ⟨_, 2, rfl, by omega, ?_⟩ | refine ⟨_, 4, rfl, by omega, ?_⟩))
section
variable {P : Program} {w : World} {K : PySem.W.Frag} {mg : Str → Option Value} {base : Heap}
theorem ok__law_image (T : Txt P K mg) : FnOk P w K mg base CX0 3 T.f__law_image T.fd__law_image ["layout", "seat", "cells"] (spLawImage K T.C_Layout) := by
  have cl_Layout := T.cl_Layout
  have a_Layout_segment_blocks := T.a_Layout_segment_blocks
  have a_Layout_segments := T.a_Layout_segments
  have a_Layout_block_size := T.a_Layout_block_size
  have G__law_low := ok__law_low (P := P) (w := w) (base := base) T
  have G__law_octets := ok__law_octets (P := P) (w := w) (base := base) T
  refine T.F__law_image.ok sc__law_image (fun vs H Q E h => ?_) (fun cdv A outer s H vs Q E hr h => ?_)
  · obtain ⟨a, t, L, n, us, cs, rfl, ⟨lx, haf⟩, hL, ht, du, hx, hlen, hq⟩ := h
    rfl
  · obtain ⟨a, t, L, n, us, cs, rfl, ⟨lx, haf⟩, hL, ht, du, hx, hlen, hq⟩ := h
    refine ⟨_, (pss_cons (ps_set (i := 3) sc__law_image.nd rfl (by first | exact Or.inl rfl | exact Or.inr rfl) (pe_op (opAddU (K := K)) (pe_op (opAddU (K := K)) (pe_lst (pa_cons pe_int (pa_cons pe_int (pa_cons pe_int (pa_cons pe_int (pa_cons pe_int (pa_cons (pv 1) (pa_cons (pe_fldK (K := K) (pv 0) rfl) (pa_cons (pe_fldK (K := K) (pv 0) rfl) pa_nil))))))))) (pe_call G__law_low (hr.mono (by decide)) rfl T.g__law_low T.F__law_low.kp T.b__law_low .nil pass0 (pa_cons (pe_fldK (K := K) (pv 0) rfl) (pa_cons pe_int pa_nil)))) (pe_op opMultU (pe_lst (pa_cons pe_int pa_nil)) pe_int)))
      (pss_cons (ps_for PassesOwn.never rfl (pi_listK (K := K) (pv 2)) (pg_name (i := 4) sc__law_image.nd rfl (by first | exact Or.inl rfl | exact Or.inr rfl)) (pss_one (ps_if (pt_cmpR opIsU (pv 4) pe_non (nomark _)) (pss_one (ps_set (i := 3) sc__law_image.nd rfl (by first | exact Or.inl rfl | exact Or.inr rfl) (pe_op (opAddU (K := K)) (pv 3) (pe_op opMultU (pe_lst (pa_cons pe_int pa_nil)) (pe_op (opAddU (K := K)) pe_int (pe_fldK (K := K) (pv 0) rfl)))))) (pss_one (ps_set (i := 3) sc__law_image.nd rfl (by first | exact Or.inl rfl | exact Or.inr rfl) (pe_op (opAddU (K := K)) (pe_op (opAddU (K := K)) (pe_op (opAddU (K := K)) (pv 3) (pe_lst (pa_cons pe_int pa_nil))) (pe_call G__law_octets (hr.mono (by decide)) rfl T.g__law_octets T.F__law_octets.kp T.b__law_octets .nil pass0 (pa_cons (pv 0) (pa_cons (pe_ix (ixU (K := K)) (pv 4) pe_int (fun _ _ => rfl)) pa_nil)))) (pe_call G__law_low (hr.mono (by decide)) rfl T.g__law_low T.F__law_low.kp T.b__law_low .nil pass0 (pa_cons (pe_ix (ixU (K := K)) (pv 4) pe_int (fun _ _ => rfl)) (pa_cons pe_int pa_nil)))))))))
      (pss_one (ps_ret (pv 3))))), ?_⟩
    try dsimp only [cxOf]
    have r0 := Same.refl H
    have o1 := hL.o1
    fail "go"
    refine ⟨by fail "sz", ?_⟩
    fail "newM"
    rename_i p1 H1 n1 g1 m1 h1 s1
    fail "go"
    fail "ret"
    rename_i p2 H2 h2 f2 g2 m2 s2
    refine g_catI (l := [83, 73, 68, 69, 2, n, L.seg, L.blk]) (by fail "hp") h2 (by simp) ?_
    fail "newM"
    rename_i p3 H3 n3 g3 m3 h3 s3
    fail "go"
    refine ⟨by fail "sz", ?_⟩
    fail "newM"
    rename_i p4 H4 n4 g4 m4 h4 s4
    fail "go"
    refine g_repZ h4 (by decide) (by decide) ?_
    fail "newM"
    rename_i p5 H5 n5 g5 m5 h5 s5
    refine g_catI (by fail "hp") h5 (by simp) ?_
    fail "newM"
    rename_i p6 H6 n6 g6 m6 h6 s6
    have h6' : H6 p6 = some (.lst ((headOct L n ++ cellsOcts L (cs.take 0)).map V.int)) := by rw [h6]; simp [headOct, cellsOcts]
    clear g1 g2 g3 g4 g5 g6 h1 h2 h3 h4 h5 h6 s1 s2 s3 s4 s5
    have ul : us.length = cs.length := by have := dpAll_len du; simpa using this
    fail "go"
    refine g_LsW (sqL_mono s6 ht) ?_
    refine for_list (K := K) (xs := us) (ImInv H a t L n cs) ⟨p6, none, rfl, s6, m6, h6'⟩ (fun i σ HX _ ⟨_, _, _, sX, _⟩ => sqL_mono sX ht) ?_ ?_
    · clear h6' s6 m6
      rintro i v σ H7 hi ⟨p, x0, rfl, s7, m7, h7⟩
      obtain ⟨dd, hd, dv⟩ := dpAll_get' du hi
      rw [List.getElem?_map] at hd
      obtain ⟨c, hc, rfl⟩ := Option.map_eq_some_iff.mp hd
      have hil : i < cs.length := (List.getElem?_eq_some_iff.mp hc).1
      have cx := hx c (List.mem_of_getElem? hc)
      have haf7 := s7 _ _ haf
      have t1 := cellsOcts_len hL (takeX9 hx i)
      have t2 := cellOcts_len hL cx
      have t3 : (cs.take i).length = i := by rw [List.length_take]; omega
      rw [t3] at t1
      have len1 : (headOct L n ++ cellsOcts L (cs.take i)).length ≤ 40000 := by
        rw [List.length_append, headOct_len]
        have : (i : Int) < 130 := by omega
        rcases o1 with e | e | e <;> rw [e] at t1 <;> omega
      have fin : ∀ q H', Same H H' → H q = none → H' q = some (.lst (((headOct L n ++ cellsOcts L (cs.take i)) ++ cellOcts L c).map V.int)) → H' q = some (.lst ((headOct L n ++ cellsOcts L (cs.take (i + 1))).map V.int)) := fun q H' _ _ e => by
        rw [e, take_snoc8 hc, cellsOcts_snoc, List.append_assoc]
      generalize headOct L n ++ cellsOcts L (cs.take i) = front at h7 len1 fin
      rcases cellV dv with ⟨rfl, rfl⟩ | ⟨b, k, tt, u, rfl, rfl, htt, hu⟩
      · fail "go"
        refine ⟨by fail "sz", ?_⟩
        fail "newM"
        rename_i p8 H8 n8 g8 m8 h8 s8
        fail "go"
        refine g_repZ h8 (by omega) (by omega) ?_
        fail "newM"
        rename_i p9 H9 n9 g9 m9 h9 s9
        refine g_catI (a := p) (l := front) (by fail "hp") h9 (by rw [List.length_replicate]; omega) ?_
        fail "newM"
        rename_i pA HA nA gA mA hA sA
        fail "go"
        refine ⟨pA, _, rfl, sA, mA, fin pA HA sA mA ?_⟩
        rw [hA, cellOcts, show (1 : Int) + 16 + L.oct + 4 = 21 + L.oct by omega]
      · have ol := octs_len hL cx.1
        fail "go"
        refine ⟨by fail "sz", ?_⟩
        fail "newM"
        rename_i p8 H8 n8 g8 m8 h8 s8
        refine g_catI (a := p) (l := front) (m := [1]) (by fail "hp") h8 (by simp; omega) ?_
        fail "newM"
        rename_i p9 H9 n9 g9 m9 h9 s9
        have htt9 := sqT_mono s9 htt
        fail "go"
        refine ⟨a, u, L, b, rfl, ⟨_, s9 _ _ haf⟩, hL, dp_mono s9 hu, fullO_of cx.1, ?_⟩
        fail "ret"
        rename_i pA HA hA fA gA mA sA
        fail "go"
        refine g_catI (a := p9) (by fail "hp") hA (by simp; omega) ?_
        fail "newM"
        rename_i pB HB nB gB mB hB sB
        have httB := sqT_mono sB htt
        fail "go"
        fail "ret"
        rename_i pC HC hC fC gC mC sC
        fail "go"
        refine g_catI (a := pB) (by fail "hp") hC (by simp; omega) ?_
        fail "newM"
        rename_i pD HD nD gD mD hD sD
        fail "go"
        refine ⟨pD, _, rfl, sD, mD, fin pD HD sD mD ?_⟩
        rw [hD, cellOcts]
        simp
    · rintro σ H7 ⟨p, x0, rfl, s7, m7, h7⟩
      rw [ul, List.take_length] at h7
      fail "go"
      exact hq _ _ s7 m7 h7
end
open PySem.OEX in
def spImgInit (C : Addr) : Sp := fun vs H Q _ => ∃ (e : Addr) (x y z : V), vs = [.ref e, x, y, z] ∧ H e = some (exo e C none) ∧ ∀ d, H d = none → d ≠ e → Q .non (upd (upd (upd (upd H d (exd d [("part", x)])) e (exo e C (some d))) d (exd d [("fault", y), ("part", x)])) d (exd d [("number", z), ("fault", y), ("part", x)]))
def imgF : List (Str × V) := [("number", .int 0), ("fault", .str "not a side"), ("part", .str "image")]
open PySem.OEX in
theorem raise_img {C : Addr} {H : Hp} {E : XK} {Wd : Option Addr → Hp → Prop} (hE : ∀ d H', Same H H' → H' d = some (.xd imgF) → Wd (some d) H') (a : Addr) (na : H a = none) :
    spImgInit C [.ref a, .str "image", .str "not a side", .int 0] (upd H a (exo a C none)) (fun v H2 => v = .non ∧ ∃ (d : Addr) (fs : List (Str × V)), H2 a = some (exo a C (some d)) ∧ H2 d = some (exd d fs) ∧ H d = none ∧ Wd (some d) (upd (del H2 a) d (.xd fs))) E := by
  refine ⟨a, _, _, _, rfl, upd_same, fun d nd ne => ⟨rfl, d, imgF, ?_, upd_same, ?_, ?_⟩⟩
  · rw [upd_ne (Ne.symm ne), upd_ne (Ne.symm ne)]; exact upd_same
  · rw [upd_ne ne] at nd; exact nd
  · rw [upd_ne ne] at nd
    refine hE d _ (fun b o e => ?_) upd_same
    have hd : b ≠ d := ne_of_none e nd
    have ha : b ≠ a := ne_of_none e na
    rw [upd_ne hd, del_ne ha, upd_ne hd, upd_ne hd, upd_ne ha, upd_ne hd, upd_ne ha]
    exact e
section
variable {P : Program} {w : World} {K : PySem.W.Frag} {mg : Str → Option Value} {base : Heap}
theorem ok_InvalidImage___init__ (T : Txt P K mg) : FnOk P w K mg base CX0 1 T.f_InvalidImage___init__ T.fd_InvalidImage___init__ ["self", "part", "fault", "number"] (spImgInit T.C_InvalidImage) := by
  have a_InvalidImage_part := T.a_InvalidImage_part
  have a_InvalidImage_fault := T.a_InvalidImage_fault
  have a_InvalidImage_number := T.a_InvalidImage_number
  obtain ⟨oc, od, kV, doc, pm, an, ct, osl, efd, lk, hcd⟩ := T.F_InvalidImage___init__.ex
  rw [efd] at lk ⊢
  refine fn_super T.z_InvalidImage lk hcd sc_InvalidImage___init__ rfl rfl rfl (fun L => rfl) (fun L => rfl) (fun vs H Q E h => ?_) (fun A outer s H vs Q E hr h => ?_)
  · obtain ⟨e, x, y, z, rfl, ha, hq⟩ := h
    rfl
  · obtain ⟨e, x, y, z, rfl, ha, hq⟩ := h
    refine ⟨_, _, rfl, ha, _, (pss_cons (ps_ost (pv 0) (pv 1))
      (pss_cons (ps_ost (pv 0) (pv 2))
      (pss_one (ps_ost (pv 0) (pv 3))))), ?_⟩
    try dsimp only [NdefX.ncx, ncxH]
    unfold tOst
    fail "go"
    refine ⟨e, _, rfl, T.ox_InvalidImage, a_InvalidImage_part, .inl ⟨ha, fun d nd ne => ?_⟩⟩
    fail "go"
    refine ⟨e, _, rfl, T.ox_InvalidImage, a_InvalidImage_fault, .inr ⟨d, [("part", x)], upd_same, by rw [upd_ne ne, upd_same], (show (1 : Nat) ≤ 900 by decide), ?_⟩⟩
    fail "go"
    refine ⟨e, _, rfl, T.ox_InvalidImage, a_InvalidImage_number, .inr ⟨d, _, (upd_ne (Ne.symm ne)).trans upd_same, upd_same, (show (2 : Nat) ≤ 900 by decide), ?_⟩⟩
    fail "go"
    exact hq d nd ne
end
def spLayX (C CF : Addr) : Sp := fun vs H Q E => ∃ (R : Hp) (p dx : Addr) (L : Lay), vs = [.ref p, .int L.seg, .int L.blk, .int L.oct] ∧ Same R H ∧ R p = none ∧ H p = some (.ins C dx []) ∧ (L.Ok → ∀ H', Same R H' → H' p = some (.ins C dx L.flds) → Q .non H') ∧ (¬ L.Ok → ∀ H', Same R H' → E (.ref CF) none H')
section
variable {P : Program} {w : World} {K : PySem.W.Frag} {mg : Str → Option Value} {base : Heap}
theorem ok_Layout___init____x (T : Txt P K mg) : FnOk P w K mg base (L2N.CX P w) 2 T.f_Layout___init__ T.fd_Layout___init__ ["self", "segments", "segment_blocks", "block_size"] (spLayX T.C_Layout T.C_InvalidFormat) := by
  have cl_Layout := T.cl_Layout
  have a_Layout_segments := T.a_Layout_segments
  have a_Layout_segment_blocks := T.a_Layout_segment_blocks
  have a_Layout_block_size := T.a_Layout_block_size
  have a_Layout_payload := T.a_Layout_payload
  have a_Layout_limit := T.a_Layout_limit
  have a_Layout_last_id := T.a_Layout_last_id
  have a_Layout_fan := T.a_Layout_fan
  have a_Layout_region_blocks := T.a_Layout_region_blocks
  have a_Layout_device_blocks := T.a_Layout_device_blocks
  have G_parts_of := ok_parts_of (P := P) (w := w) (base := base) T
  refine Fun.okC T.F_Layout___init__ sc_Layout___init__ (fun vs H Q E h => ?_) (fun cdv A outer s H vs Q E hr h => ?_)
  · obtain ⟨R, p, dx, L, rfl, sR, Rp, hp, hq, hE⟩ := h
    rfl
  · obtain ⟨R, p, dx, L, rfl, sR, Rp, hp, hq, hE⟩ := h
    refine ⟨_, (pss_cons (ps_if (PW.pt (pw_or (pt_cmpR op_lt (pv 1) (pe_glob rfl T.g_LEAST_SEGMENTS T.r_LEAST_SEGMENTS) (nomark _)) (pw_or1 (pt_cmpR op_gt (pv 1) (pe_glob rfl T.g_MOST_SEGMENTS T.r_MOST_SEGMENTS) (nomark _))))) (pss_one (L2N.ps_raise rfl (L2N.takes_of rfl rfl rfl rfl) (L2N.pmk_own PySem.F.excBase_ValueError T.xP_InvalidFormat T.g_InvalidFormat T.kP_InvalidFormat (raises_own T.bP_InvalidFormat T.tP_InvalidFormat) rfl))) pss_nil)
      (pss_cons (ps_if (PW.pt (pw_or (pt_cmpR op_lt (pv 2) (pe_glob rfl T.g_LEAST_BLOCKS T.r_LEAST_BLOCKS) (nomark _)) (pw_or1 (pt_cmpR op_gt (pv 2) (pe_glob rfl T.g_MOST_BLOCKS T.r_MOST_BLOCKS) (nomark _))))) (pss_one (L2N.ps_raise rfl (L2N.takes_of rfl rfl rfl rfl) (L2N.pmk_own PySem.F.excBase_ValueError T.xP_InvalidFormat T.g_InvalidFormat T.kP_InvalidFormat (raises_own T.bP_InvalidFormat T.tP_InvalidFormat) rfl))) pss_nil)
      (pss_cons (ps_if (pt_cmpR (opNinF (K := K)) (pv 3) (pe_tup (pa_cons pe_int (pa_cons pe_int (pa_cons pe_int pa_nil)))) (by rfl)) (pss_one (L2N.ps_raise rfl (L2N.takes_of rfl rfl rfl rfl) (L2N.pmk_own PySem.F.excBase_ValueError T.xP_InvalidFormat T.g_InvalidFormat T.kP_InvalidFormat (raises_own T.bP_InvalidFormat T.tP_InvalidFormat) rfl))) pss_nil)
      (pss_cons (ps_fld (pv 0) (pv 1) rfl)
      (pss_cons (ps_fld (pv 0) (pv 2) rfl)
      (pss_cons (ps_fld (pv 0) (pv 3) rfl)
      (pss_cons (ps_fld (pv 0) (pe_op opSubU (pv 2) pe_int) rfl)
      (pss_cons (ps_fld (pv 0) (pe_op opMultU (pe_op opSubU (pv 1) pe_int) (pe_fldK (K := K) (pv 0) rfl)) rfl)
      (pss_cons (ps_fld (pv 0) (pe_op (opAddU (K := K)) (pe_fldK (K := K) (pv 0) rfl) (pe_fldK (K := K) (pv 0) rfl)) rfl)
      (pss_cons (ps_fld (pv 0) (pe_op opFloorDivU (pv 3) pe_int) rfl)
      (pss_cons (ps_if (pt_cmpR op_gt (pe_op (opAddU (K := K)) (pe_op (opAddU (K := K)) (pe_glob rfl T.g_HEAD_OCTETS T.r_HEAD_OCTETS) (pe_op opMultU pe_int (pe_fldK (K := K) (pv 0) rfl))) (pe_call G_parts_of (hr.mono (by decide)) rfl T.g_parts_of T.F_parts_of.kp T.b_parts_of .nil pass0 (pa_cons (pe_fldK (K := K) (pv 0) rfl) (pa_cons pe_int pa_nil)))) (pv 3) (nomark _)) (pss_one (L2N.ps_raise rfl (L2N.takes_of rfl rfl rfl rfl) (L2N.pmk_own PySem.F.excBase_ValueError T.xP_InvalidFormat T.g_InvalidFormat T.kP_InvalidFormat (raises_own T.bP_InvalidFormat T.tP_InvalidFormat) rfl))) pss_nil)
      (pss_cons (ps_set (i := 4) sc_Layout___init__.nd rfl (by first | exact Or.inl rfl | exact Or.inr rfl) (pe_op (opAddU (K := K)) (pe_op (opAddU (K := K)) (pe_op (opAddU (K := K)) (pe_op opMultU (pe_op (opAddU (K := K)) (pe_glob rfl T.g_SLOTS T.r_SLOTS) pe_int) (pe_fldK (K := K) (pv 0) rfl)) (pe_glob rfl T.g_SLOTS T.r_SLOTS)) pe_int) (pv 1)))
      (pss_cons (ps_fld (pv 0) (pe_call G_parts_of (hr.mono (by decide)) rfl T.g_parts_of T.F_parts_of.kp T.b_parts_of .nil pass0 (pa_cons (pe_op opMultU pe_int (pv 4)) (pa_cons (pv 3) pa_nil))) rfl)
      (pss_one (ps_fld (pv 0) (pe_op (opAddU (K := K)) (pe_op opMultU pe_int (pe_fldK (K := K) (pv 0) rfl)) (pe_op opMultU (pv 1) (pv 2))) rfl))))))))))))))), ?_⟩
    try dsimp only [cxOf]
    fail "go"
    refine g_ite (fun e => ?_) (fun e1 => ?_)
    · fail "go"
      exact hE (fun ok => by have := ok.s1; omega) _ sR
    fail "go"
    refine g_ite (fun e => ?_) (fun e2 => ?_)
    · fail "go"
      exact hE (fun ok => by have := ok.s2; omega) _ sR
    fail "go"
    refine g_ite (fun e => ?_) (fun e3 => ?_)
    · fail "go"
      exact hE (fun ok => by have := ok.b1; omega) _ sR
    fail "go"
    refine g_ite (fun e => ?_) (fun e4 => ?_)
    · fail "go"
      exact hE (fun ok => by have := ok.b2; omega) _ sR
    fail "go"
    refine ⟨by fail "sz", ?_⟩
    fail "newR"
    rename_i t H1 R1 n1 g1 h1 r1
    fail "go"
    refine g_ninF (.inr (SqT.of (r1 _ _ h1))) rfl rfl ?_
    rw [show ([V.int 64, .int 128, .int 256] : List V) = [64, 128, 256].map V.int from rfl, inV_ints]
    fail "go"
    refine g_iteN (fun e => ?_) (fun e5 => ?_)
    · fail "go"
      refine hE (fun ok => e ?_) _ (g1.rr.trans r1)
      have := ok.o1
      simp only [List.mem_cons, List.not_mem_nil, or_false]
      exact this
    have o1 : L.oct = 64 ∨ L.oct = 128 ∨ L.oct = 256 := by simpa using e5
    fail "go"
    have ep : partsOf ((L.seg - 2) * (L.blk - 1) + (L.blk - 1)) 8 = partsOf L.lastId 8 := rfl
    rw [ep]
    refine g_ite (fun e => ?_) (fun e6 => ?_)
    · exact hE (fun ok => by have := ok.fits; unfold Lay.payload at this; omega) _ (g1.rr.trans (by assumption))
    have ok : L.Ok := ⟨by omega, by omega, by omega, by omega, o1, by unfold Lay.payload; omega⟩
    fail "go"
    rename_i H2 g2 h2 s2
    exact hq ok _ (g1.rr.trans s2) h2
end
section
variable {P : Program} {w : World} {K : PySem.W.Frag} {mg : Str → Option Value} {base : Heap}
theorem ok_InvalidImage___init____h (T : Txt P K mg) : L2H.FnH P w K mg base CX0 1 T.f_InvalidImage___init__ T.fd_InvalidImage___init__ ["self", "part", "fault", "number"] (spImgInit T.C_InvalidImage) := by
  have a_InvalidImage_part := T.a_InvalidImage_part
  have a_InvalidImage_fault := T.a_InvalidImage_fault
  have a_InvalidImage_number := T.a_InvalidImage_number
  obtain ⟨oc, od, kV, doc, pm, an, ct, osl, efd, lk, hcd⟩ := T.F_InvalidImage___init__.ex
  rw [efd] at lk ⊢
  refine fn_superH T.z_InvalidImage lk hcd sc_InvalidImage___init__ rfl rfl rfl (fun L => rfl) (fun L => rfl) (fun vs H Q E h => ?_) (fun A outer s H vs Q E p hot hr h => ?_)
  · obtain ⟨e, x, y, z, rfl, ha, hq⟩ := h
    rfl
  · obtain ⟨e, x, y, z, rfl, ha, hq⟩ := h
    refine ⟨_, _, rfl, ha, _, (pss_cons (ps_ost (pv 0) (pv 1))
      (pss_cons (ps_ost (pv 0) (pv 2))
      (pss_one (ps_ost (pv 0) (pv 3))))), ?_⟩
    try dsimp only [NdefX.ncx, ncxH]
    unfold tOst
    fail "go"
    refine ⟨e, _, rfl, T.ox_InvalidImage, a_InvalidImage_part, .inl ⟨ha, fun d nd ne => ?_⟩⟩
    fail "go"
    refine ⟨e, _, rfl, T.ox_InvalidImage, a_InvalidImage_fault, .inr ⟨d, [("part", x)], upd_same, by rw [upd_ne ne, upd_same], (show (1 : Nat) ≤ 900 by decide), ?_⟩⟩
    fail "go"
    refine ⟨e, _, rfl, T.ox_InvalidImage, a_InvalidImage_number, .inr ⟨d, _, (upd_ne (Ne.symm ne)).trans upd_same, upd_same, (show (2 : Nat) ≤ 900 by decide), ?_⟩⟩
    fail "go"
    exact hq d nd ne
end
def ImgBad (o : List Int) : Prop := ∀ (L : Lay) (n : Int), L.Ok → n < 3 → o.take 16 = headOct L n → (o.length : Int) = 16 + (L.device + 2) * (21 + L.oct) → False
theorem boom {C : Addr} {E : XK} {H : Hp} {σ : St} (hE : ∀ d H', Same H H' → H' d = some (.xd imgF) → E (.ref C) (some d) H') :
    tMkO C (spImgInit C) [] (tCons (tC (.str "image")) (tCons (tC (.str "not a side")) (tCons (tC (.int 0)) tNil))) σ H fun cls d H' => E cls d H' :=
  ⟨(show (3 : Nat) ≤ 1000 by decide), fun a na => raise_img (Wd := fun d H' => E (.ref C) d H') hE a na⟩
theorem eqv_ints9 (l m : List Int) : PyData.eqv (.list (l.map PyData.int)) (.list (m.map PyData.int)) = decide (l = m) :=
  eqv_dec (by rw [clean]; exact clean_ints l) (by rw [clean]; exact clean_ints m) (by rw [decide_eq_true_iff]; exact ⟨fun h => by rw [h], fun h => ints_inj (by injection h)⟩)
def spLayOfX (K : PySem.W.Frag) (CI : Addr) : Sp := fun vs H _ E => ∃ (t : Addr) (o : List Int), vs = [.ref t] ∧ SqL K H t (o.map V.int) ∧ o.length ≤ 400000 ∧ ImgBad o ∧ ∀ d H', Same H H' → H' d = some (.xd imgF) → E (.ref CI) (some d) H'
section
variable {P : Program} {w : World} {K : PySem.W.Frag} {mg : Str → Option Value} {base : Heap}
theorem ok_layout_of_side__x (T : Txt P K mg) : FnOk P w K mg base (L2.CX P w) 4 T.f_layout_of_side T.fd_layout_of_side ["octets"] (spLayOfX K T.C_InvalidImage) := by
  have cl_Layout := T.cl_Layout
  have a_Layout_device_blocks := T.a_Layout_device_blocks
  have G_InvalidImage___init__ := ok_InvalidImage___init__ (P := P) (w := w) (base := base) T
  have G_Layout___init____x := ok_Layout___init____x (P := P) (w := w) (base := base) T
  have G_number_of := ok_number_of (P := P) (w := w) (base := base) T
  have G_InvalidImage___init____h := ok_InvalidImage___init____h (P := P) (w := w) (base := base) T
  have G_cell_size := ok_cell_size (P := P) (w := w) (base := base) T
  have G_side_head := ok_side_head (P := P) (w := w) (base := base) T
  refine Fun.okC T.F_layout_of_side sc_layout_of_side (fun vs H Q E h => ?_) (fun cdv A outer s H vs Q E hr h => ?_)
  · obtain ⟨t, o, rfl, ht, hlen, hbad, hE⟩ := h
    rfl
  · obtain ⟨t, o, rfl, ht, hlen, hbad, hE⟩ := h
    refine ⟨_, (pss_cons (ps_if (PW.pt (pw_or (pt_cmpR op_lt (pe_callB (callLenU (K := K)) (by rfl) T.n_len (by decide +kernel) (pa_cons (pv 0) pa_nil)) (pe_glob rfl T.g_HEAD T.r_HEAD) (nomark _)) (pw_or1 (pt_cmpR op_ge (pe_ix (ixU (K := K)) (pv 0) pe_int (fun _ _ => rfl)) (pe_glob rfl T.g_SEATS T.r_SEATS) (nomark _))))) (pss_one (ps_raise rfl (takes_of rfl rfl rfl rfl) (pmk_oex T.ox_InvalidImage T.iC_InvalidImage T.tI_InvalidImage G_InvalidImage___init__ (hr.mono (by decide)) T.b_InvalidImage___init__ .nil pass0 rfl T.g_InvalidImage (pa_cons pe_str (pa_cons pe_str (pa_cons pe_int pa_nil)))))) pss_nil)
      (pss_cons (L2H.ps_try_onlyX rfl rfl ⟨rfl, by decide, .inl T.g_InvalidFormat⟩ (L2H.passesAt_of rfl) (takes_of rfl rfl rfl rfl) (fun W pn xe tk _ _ => (pss_one (ps_set (i := 1) sc_layout_of_side.nd rfl (by first | exact Or.inl rfl | exact Or.inr rfl) (pe_make (E := fun cls d H => ∀ σ, W cls d σ H) T.mk_Layout G_Layout___init____x (hr.mono (by decide)) rfl T.g_Layout T.b_Layout___init__ .nil (L2N.passes_call tk (fun _ _ σ _ h => h σ)) (pa_cons (pe_ix (ixU (K := K)) (pv 0) pe_int (fun _ _ => rfl)) (pa_cons (pe_ix (ixU (K := K)) (pv 0) pe_int (fun _ _ => rfl)) (pa_cons (pe_call G_number_of (hr.mono (by decide)) rfl T.g_number_of T.F_number_of.kp T.b_number_of .nil pass0 (pa_cons (pe_slice (slU (K := K)) (pv 0) (po_some pe_int) (po_some pe_int)) pa_nil)) pa_nil))))))) (fun a oe cls d pn hz hf tk hot => (pss_one (L2H.ps_raiseHN hot tk (L2H.pmk5_oexH T.ox_InvalidImage T.iC_InvalidImage T.tI_InvalidImage G_InvalidImage___init____h (L2H.RoomH.mono (j := 2) (k := 3) ⟨hr.dp, hr.un⟩ (by decide)) hot T.b_InvalidImage___init__ pass0 rfl T.g_InvalidImage (pa_cons pe_str (pa_cons pe_str (pa_cons pe_int pa_nil))))))))
      (pss_cons (ps_set (i := 2) sc_layout_of_side.nd rfl (by first | exact Or.inl rfl | exact Or.inr rfl) (pe_op (opAddU (K := K)) (pe_glob rfl T.g_HEAD T.r_HEAD) (pe_op opMultU (pe_op (opAddU (K := K)) (pe_fldK (K := K) (pv 1) rfl) (pe_glob rfl T.g_LABELS T.r_LABELS)) (pe_call G_cell_size (hr.mono (by decide)) rfl T.g_cell_size T.F_cell_size.kp T.b_cell_size .nil pass0 (pa_cons (pv 1) pa_nil)))))
      (pss_cons (ps_if (PW.pt (pw_or (pt_cmpR (opNeU (K := K) hr.units) (pe_slice (slU (K := K)) (pv 0) po_none (po_some (pe_glob rfl T.g_HEAD T.r_HEAD))) (pe_call G_side_head (hr.mono (by decide)) rfl T.g_side_head T.F_side_head.kp T.b_side_head .nil pass0 (pa_cons (pv 1) (pa_cons (pe_ix (ixU (K := K)) (pv 0) pe_int (fun _ _ => rfl)) pa_nil))) (nomark _)) (pw_or1 (pt_cmpR (opNeU (K := K) hr.units) (pe_callB (callLenU (K := K)) (by rfl) T.n_len (by decide +kernel) (pa_cons (pv 0) pa_nil)) (pv 2) (nomark _))))) (pss_one (ps_raise rfl (takes_of rfl rfl rfl rfl) (pmk_oex T.ox_InvalidImage T.iC_InvalidImage T.tI_InvalidImage G_InvalidImage___init__ (hr.mono (by decide)) T.b_InvalidImage___init__ .nil pass0 rfl T.g_InvalidImage (pa_cons pe_str (pa_cons pe_str (pa_cons pe_int pa_nil)))))) pss_nil)
      (pss_one (ps_ret (pv 1))))))), ?_⟩
    try dsimp only [cxOf]
    have r0 := Same.refl H
    have bang : ∀ (σ : St) (H1 : Hp), Same H H1 → tMkO T.C_InvalidImage (spImgInit T.C_InvalidImage) [] (tCons (tC (.str "image")) (tCons (tC (.str "not a side")) (tCons (tC (.int 0)) tNil))) σ H1 fun cls d H' => E cls d H' :=
      fun σ H1 s => boom fun d H' s' e => hE d H' (s.trans s') e
    fail "go"
    rw [List.length_map]
    refine g_ite (fun e => ?_) (fun e16 => ?_)
    · fail "go"
      exact bang _ _ r0
    fail "go"
    refine g_ixL ht (show atI _ ((5 : Nat) : Int) = _ from atI_getD (by omega)) ?_
    fail "go"
    refine g_ite (fun e => ?_) (fun e5 => ?_)
    · fail "go"
      exact bang _ _ r0
    fail "go"
    refine g_ixL ht (show atI _ ((6 : Nat) : Int) = _ from atI_getD (by omega)) ?_
    fail "go"
    refine g_ixL ht (show atI _ ((7 : Nat) : Int) = _ from atI_getD (by omega)) ?_
    fail "go"
    refine g_slLI (i := 8) (j := 10) ht rfl rfl (by decide) (by omega) ?_
    fail "newM"
    rename_i p1 H1 n1 g1 m1 h1 s1
    fail "go"
    refine ⟨p1, _, rfl, .inl (SqL.of h1), ?_⟩
    fail "go"
    intro p dx np ndx nex
    have ms := s1.trans (made_same (C := T.C_Layout) np ndx)
    refine ⟨H, p, dx, ⟨o.getD 6 0, o.getD 7 0, numOf ((o.drop 8).take (10 - 8))⟩, rfl, ms, s1.free np, upd_same, fun ok H9 s9 h9 => ⟨rfl, ?_⟩, fun nok H9 s9 => ?_⟩
    · have o1 := ok.o1
      generalize hL : Lay.mk (o.getD 6 0) (o.getD 7 0) (numOf ((o.drop 8).take (10 - 8))) = L at ok h9 o1
      have ht9 := sqL_mono s9 ht
      clear g1 h1 s1 ms
      fail "go"
      refine ⟨p, L, rfl, ⟨_, h9⟩, ?_⟩
      fail "go"
      refine g_slLhi (j := 16) ht9 rfl (by omega) ?_
      fail "newM"
      rename_i p2 H2 n2 g2 m2 h2 s2
      have ht2 := sqL_mono s2 ht
      fail "go"
      refine g_ixL ht2 (show atI _ ((5 : Nat) : Int) = _ from atI_getD (by omega)) ?_
      fail "go"
      refine ⟨p, L, o.getD 5 0, rfl, ⟨_, g2.g.same _ _ h9⟩, ?_⟩
      fail "ret"
      rename_i p3 H3 h3 f3 g3 m3 s3
      have ht3 := sqL_mono s3 ht
      fail "go"
      refine g_neDa (.lst (SqL.of (g3.g.same _ _ h2)) (dpAll_ints _)) (.lst (SqL.of h3) (dpAll_ints _)) (la_shaped (la_lst (n := 0) la_ints)) (la_shaped (la_lst (n := 0) la_ints)) (.inl ⟨_, rfl⟩) ?_
      rw [eqv_ints9]
      fail "go"
      refine g_iteN (fun e => ?_) (fun eh => ?_)
      · fail "go"
        exact bang _ _ s3
      fail "go"
      rw [List.length_map]
      refine g_iteN (fun e => ?_) (fun el => ?_)
      · fail "go"
        exact bang _ _ s3
      exact (hbad L (o.getD 5 0) ok (by omega) eh (by rw [el, show (1 : Int) + 16 + L.oct + 4 = 21 + L.oct by omega])).elim
    · intro σ
      refine ⟨true, T.em_InvalidFormat_InvalidFormat, fun _ a na => ?_, fun z => nomatch z⟩
      exact bang _ _ s9
end
def spReadSideX (K : PySem.W.Frag) (CI : Addr) : Sp := fun vs H _ E => ∃ (t : Addr) (o : List Int), vs = [.ref t] ∧ SqL K H t (o.map V.int) ∧ o.length ≤ 400000 ∧ ImgBad o ∧ ∀ d H', Same H H' → H' d = some (.xd imgF) → E (.ref CI) (some d) H'
section
variable {P : Program} {w : World} {K : PySem.W.Frag} {mg : Str → Option Value} {base : Heap}
theorem ok_read_side__x (T : Txt P K mg) : FnOk P w K mg base (L2.CX P w) 6 T.f_read_side T.fd_read_side ["octets"] (spReadSideX K T.C_InvalidImage) := by
  have cl_Layout := T.cl_Layout
  have a_Layout_device_blocks := T.a_Layout_device_blocks
  have G_layout_of_side__x := ok_layout_of_side__x (P := P) (w := w) (base := base) T
  have G_cell_size := ok_cell_size (P := P) (w := w) (base := base) T
  have G_read_cell := ok_read_cell (P := P) (w := w) (base := base) T
  have G_Side___init__ := ok_Side___init__ (P := P) (w := w) (base := base) T
  refine Fun.okC T.F_read_side sc_read_side (fun vs H Q E h => ?_) (fun cdv A outer s H vs Q E hr h => ?_)
  · obtain ⟨t, o, rfl, ht, hlen, hbad, hE⟩ := h
    rfl
  · obtain ⟨t, o, rfl, ht, hlen, hbad, hE⟩ := h
    refine ⟨_, (pss_cons (ps_set (i := 1) sc_read_side.nd rfl (by first | exact Or.inl rfl | exact Or.inr rfl) (pe_callS G_layout_of_side__x (hr.mono (by decide)) rfl T.g_layout_of_side T.F_layout_of_side.kp T.b_layout_of_side (fun σ => passAt (takes_of rfl rfl rfl rfl) σ) (pa_cons (pv 0) pa_nil)))
      (pss_cons (ps_set (i := 2) sc_read_side.nd rfl (by first | exact Or.inl rfl | exact Or.inr rfl) (pe_call G_cell_size (hr.mono (by decide)) rfl T.g_cell_size T.F_cell_size.kp T.b_cell_size .nil pass0 (pa_cons (pv 1) pa_nil)))
      (pss_cons (ps_set (i := 3) sc_read_side.nd rfl (by first | exact Or.inl rfl | exact Or.inr rfl) (pe_lst pa_nil))
      (pss_cons (ps_for PassesOwn.leaving rfl (pi_range1 rfl T.n_range (pa_cons (pe_op (opAddU (K := K)) (pe_fldK (K := K) (pv 1) rfl) (pe_glob rfl T.g_LABELS T.r_LABELS)) pa_nil)) (pg_name (i := 4) sc_read_side.nd rfl (by first | exact Or.inl rfl | exact Or.inr rfl)) (pss_cons (ps_set (i := 5) sc_read_side.nd rfl (by first | exact Or.inl rfl | exact Or.inr rfl) (pe_op (opAddU (K := K)) (pe_glob rfl T.g_HEAD T.r_HEAD) (pe_op opMultU (pv 4) (pv 2))))
      (pss_one (ps_expr (pe_bm PySem.F.plainAttrs_list PySem.F.slot_list_append PySem.F.type_list_append mt_append (pv 3) (pa_cons (pe_call G_read_cell (hr.mono (by decide)) rfl T.g_read_cell T.F_read_cell.kp T.b_read_cell .nil pass0 (pa_cons (pv 1) (pa_cons (pe_slice (slU (K := K)) (pv 0) (po_some (pv 5)) (po_some (pe_op (opAddU (K := K)) (pv 5) (pv 2)))) pa_nil))) pa_nil))))))
      (pss_one (ps_ret (pe_make T.mk_Side G_Side___init__ (hr.mono (by decide)) rfl T.g_Side T.b_Side___init__ .nil pass0 (pa_cons (pv 1) (pa_cons (pe_ix (ixU (K := K)) (pv 0) pe_int (fun _ _ => rfl)) (pa_cons (pv 3) pa_nil)))))))))), ?_⟩
    try dsimp only [cxOf]
    have r0 := Same.refl H
    fail "go"
    exact ⟨t, o, rfl, ht, hlen, hbad, fun d H' s e => hE d H' s e⟩
end
def spRefuses (K : PySem.W.Frag) : Sp := fun vs H Q _ => ∃ (t : Addr) (o : List Int), vs = [.ref t] ∧ SqL K H t (o.map V.int) ∧ o.length ≤ 400000 ∧ ImgBad o ∧ ∀ H', Same H H' → Q (.bl true) H'
section
variable {P : Program} {w : World} {K : PySem.W.Frag} {mg : Str → Option Value} {base : Heap}
theorem ok__law_refuses (T : Txt P K mg) : FnOk P w K mg base CX0 7 T.f__law_refuses T.fd__law_refuses ["octets"] (spRefuses K) := by
  have a_InvalidImage_number := T.a_InvalidImage_number
  have a_InvalidImage_fault := T.a_InvalidImage_fault
  have a_InvalidImage_part := T.a_InvalidImage_part
  have G_read_side__x := ok_read_side__x (P := P) (w := w) (base := base) T
  refine T.F__law_refuses.ok sc__law_refuses (fun vs H Q E h => ?_) (fun cdv A outer s H vs Q E hr h => ?_)
  · obtain ⟨t, o, rfl, ht, hlen, hbad, hq⟩ := h
    rfl
  · obtain ⟨t, o, rfl, ht, hlen, hbad, hq⟩ := h
    refine ⟨_, (pss_cons (ps_set (i := 1) sc__law_refuses.nd rfl (by first | exact Or.inl rfl | exact Or.inr rfl) (pe_callTy (callListU (K := K)) (by rfl) T.n_list (by decide +kernel) (pa_cons (pv 0) pa_nil)))
      (pss_cons (ps_try_as (i := 2) rfl rfl sc__law_refuses.nd rfl rfl ⟨rfl, by decide, .inl T.g_SegmentError⟩ takes0 (fun W pn xe tk _ => (pss_one (ps_expr (pe_callS G_read_side__x (hr.mono (by decide)) rfl T.g_read_side T.F_read_side.kp T.b_read_side (fun σ => passAt tk σ) (pa_cons (pv 1) pa_nil))))) (fun a oe cls d pn hz hf => (pss_one (ps_ret (pe_and (pe_callB (call_isX hz) (by rfl) T.n_isinstance (by decide +kernel) (pa_cons (pv 2) (pa_cons (pe_glob (v := .ref T.C_InvalidImage) rfl T.g_InvalidImage rfl) pa_nil))) (pe_and (pe_cmpR (opEqU (K := K) hr.units) (pe_tup (pa_cons (pe_xf T.xf_InvalidImage T.a_InvalidImage_part hz hf (pv 2)) (pa_cons (pe_xf T.xf_InvalidImage T.a_InvalidImage_fault hz hf (pv 2)) (pa_cons (pe_xf T.xf_InvalidImage T.a_InvalidImage_number hz hf (pv 2)) pa_nil)))) (pe_tup (pa_cons pe_str (pa_cons pe_str (pa_cons pe_int pa_nil)))) (nomark _)) (pe_one (pe_cmpR (opEqU (K := K) hr.units) (pv 1) (pv 0) (nomark _)))))))))
      (pss_one (ps_ret pe_bl)))), ?_⟩
    try dsimp only [cxOf]
    have r0 := Same.refl H
    fail "go"
    refine g_listL ht ?_
    fail "newM"
    rename_i p1 H1 n1 g1 m1 h1 s1
    fail "go"
    refine ⟨p1, o, rfl, SqL.of h1, hlen, hbad, fun d H2 s2 e2 => ?_⟩
    refine ⟨true, T.em_InvalidImage_SegmentError, fun _ a na => ?_, fun z => nomatch z⟩
    have s02 := s1.trans s2
    have h12 := s2 _ _ h1
    clear g1 s1 s2 h1
    unfold tXf
    fail "go"
    refine ⟨_, rfl, T.is_InvalidImage_InvalidImage, ?_⟩
    fail "go"
    refine ⟨rfl, rfl, d, imgF, .str "image", rfl, e2, rfl, ?_⟩
    fail "go"
    refine ⟨rfl, rfl, d, imgF, .str "not a side", rfl, e2, rfl, ?_⟩
    fail "go"
    refine ⟨rfl, rfl, d, imgF, .int 0, rfl, e2, rfl, ?_⟩
    fail "go"
    refine ⟨by fail "sz", ?_⟩
    fail "newM"
    rename_i p3 H3 n3 g3 m3 h3 s3
    fail "go"
    refine ⟨by fail "sz", ?_⟩
    fail "newM"
    rename_i p4 H4 n4 g4 m4 h4 s4
    have dd : ∀ {q : Addr}, H4 q = some (.tup [.str "image", .str "not a side", .int 0]) → Dp K H4 (.ref q) (.tuple [.str "image", .str "not a side", .int 0]) := fun h => .tup (SqT.of h) (.cons (.str _) (.cons (.str _) (.cons (.int _) .nil)))
    refine g_eqDa (dd (g4.g.same _ _ h3)) (dd h4) (by decide +kernel) (by decide +kernel) (.inl ⟨_, rfl⟩) ?_
    rw [show PyData.eqv (.tuple [.str "image", .str "not a side", .int 0]) (.tuple [.str "image", .str "not a side", .int 0]) = true by decide +kernel]
    have h14 := g4.g.same _ _ (g3.g.same _ _ h12)
    have ht4 := sqL_mono s4 ht
    fail "go"
    refine g_eqDa (.lst (SqL.of h14) (dpAll_ints _)) (.lst ht4 (dpAll_ints _)) (la_shaped (la_lst (n := 0) la_ints)) (la_shaped (la_lst (n := 0) la_ints)) (.inl ⟨_, rfl⟩) ?_
    rw [eqv_ints9, decide_eq_true rfl]
    exact hq _ s4
end
def spLaw (K : PySem.W.Frag) : Sp := fun vs H Q _ => ∃ (a : Addr) (ns : List Int), vs = [.ref a] ∧ SqL K H a (ns.map V.int) ∧ ns.length ≤ 63 ∧ ∀ H', Q (.bl true) H'
theorem lays_dev : ∀ L ∈ lays, 0 < L.device ∧ L.device < 120 := by
  intro L h
  simp only [lays, List.mem_cons, List.not_mem_nil, or_false] at h
  rcases h with rfl | rfl | rfl | rfl | rfl | rfl <;> exact ⟨by decide, by decide⟩
theorem seg_tells : ∀ L ∈ lays, ∀ s ∈ (List.range 17).map (fun (k : Nat) => (k : Int)), s ≠ L.seg → (Lay.mk s L.blk L.oct).device ≠ L.device := by decide +kernel
theorem blk_tells : ∀ L ∈ lays, ∀ s ∈ (List.range 33).map (fun (k : Nat) => (k : Int)), s ≠ L.blk → (Lay.mk L.seg s L.oct).device ≠ L.device := by decide +kernel
theorem oct_tells : ∀ L ∈ lays, ∀ z ∈ ([64, 128, 256] : List Int), z ≠ L.oct → ((Lay.mk L.seg L.blk z).device + 2) * (21 + z) ≠ (L.device + 2) * (21 + L.oct) := by decide +kernel
theorem mem_rng {n : Nat} {s : Int} (h0 : 0 ≤ s) (h1 : s < n) : s ∈ (List.range n).map (fun (k : Nat) => (k : Int)) := by
  obtain ⟨k, rfl⟩ := Int.eq_ofNat_of_zero_le h0
  exact List.mem_map.mpr ⟨k, List.mem_range.mpr (by omega), rfl⟩
theorem head_eq (L : Lay) (n : Int) : headOct L n = [83, 73, 68, 69, 2, n, L.seg, L.blk, L.oct % 256, L.oct / 256 % 256, 0, 0, 0, 0, 0, 0] := rfl
theorem oct_low {L L' : Lay} (h : L.Ok) (h' : L'.Ok) (e1 : L.oct % 256 = L'.oct % 256) (e2 : L.oct / 256 % 256 = L'.oct / 256 % 256) : L.oct = L'.oct := by
  have := h.o1; have := h'.o1; omega
theorem mul_inj {a b z : Int} (h : (a + 2) * z = (b + 2) * z) (hz : 0 < z) : a = b := by
  have := Int.eq_of_mul_eq_mul_right (by omega) h
  omega
/-- an octet of the head that is another one -/
theorem bad_head {L : Lay} {n : Int} (hL : L ∈ lays) (n0 : 0 ≤ n) (n3 : n < 3) {rest : List Int} {i : Nat} (hi : i < 16) {v : Int} (hv : v ≠ (headOct L n).getD i 0) (h5 : i = 5 → ¬ v < 3) (hlen : ((headOct L n ++ rest).length : Int) = 16 + (L.device + 2) * (21 + L.oct)) :
    ImgBad ((headOct L n ++ rest).set i v) := by
  intro L' n' ok' n3' ht hl
  have ok := lays_ok L hL
  rw [List.length_set, hlen] at hl
  have hl := Int.add_left_cancel hl
  have ht : (headOct L n).set i v = headOct L' n' := by
    rw [← ht, List.set_append_left _ _ (by rw [headOct_len]; exact hi)]
    exact (List.take_left' (by rw [List.length_set, headOct_len])).symm
  rw [head_eq, head_eq] at ht
  rw [head_eq] at hv
  have s1 := ok.s1; have s2 := ok.s2; have b1 := ok.b1; have b2 := ok.b2
  have s1' := ok'.s1; have s2' := ok'.s2; have b1' := ok'.b1; have b2' := ok'.b2
  have ol := @oct_low L L' ok ok'
  have o1 := ok.o1
  have h5' := h5
  clear h5
  obtain ⟨sg, bk, oc⟩ := L
  obtain ⟨sg', bk', oc'⟩ := L'
  simp only at *
  match i, hi with
  | 0, _ => simp only [List.set_cons_zero, List.cons.injEq] at ht; exact hv (by simp; omega)
  | 1, _ => simp only [List.set_cons_zero, List.set_cons_succ, List.cons.injEq] at ht; exact hv (by simp; omega)
  | 2, _ => simp only [List.set_cons_zero, List.set_cons_succ, List.cons.injEq] at ht; exact hv (by simp; omega)
  | 3, _ => simp only [List.set_cons_zero, List.set_cons_succ, List.cons.injEq] at ht; exact hv (by simp; omega)
  | 4, _ => simp only [List.set_cons_zero, List.set_cons_succ, List.cons.injEq] at ht; exact hv (by simp; omega)
  | 5, _ => simp only [List.set_cons_zero, List.set_cons_succ, List.cons.injEq] at ht; exact h5' rfl (by omega)
  | 6, _ =>
    simp only [List.set_cons_zero, List.set_cons_succ, List.cons.injEq] at ht
    obtain ⟨_, _, _, _, _, _, e6, e7, e8, e9, _⟩ := ht
    have eo := ol e8 e9
    subst eo e7 e6
    exact seg_tells _ hL v (mem_rng (by omega) (by omega)) (by simpa using hv) (mul_inj hl (by omega)).symm
  | 7, _ =>
    simp only [List.set_cons_zero, List.set_cons_succ, List.cons.injEq] at ht
    obtain ⟨_, _, _, _, _, _, e6, e7, e8, e9, _⟩ := ht
    have eo := ol e8 e9
    subst eo e7 e6
    exact blk_tells _ hL v (mem_rng (by omega) (by omega)) (by simpa using hv) (mul_inj hl (by omega)).symm
  | 8, _ =>
    simp only [List.set_cons_zero, List.set_cons_succ, List.cons.injEq] at ht
    obtain ⟨_, _, _, _, _, _, e6, e7, e8, e9, _⟩ := ht
    subst e7 e6
    refine oct_tells _ hL oc' (by have := ok'.o1; simpa using this) (fun z => hv ?_) hl.symm
    have z : oc' = oc := z
    rw [e8, z]; simp
  | 9, _ =>
    simp only [List.set_cons_zero, List.set_cons_succ, List.cons.injEq] at ht
    obtain ⟨_, _, _, _, _, _, e6, e7, e8, e9, _⟩ := ht
    subst e7 e6
    refine oct_tells _ hL oc' (by have := ok'.o1; simpa using this) (fun z => hv ?_) hl.symm
    have z : oc' = oc := z
    rw [e9, z]; simp
  | 10, _ => simp only [List.set_cons_zero, List.set_cons_succ, List.cons.injEq] at ht; exact hv (by simp; omega)
  | 11, _ => simp only [List.set_cons_zero, List.set_cons_succ, List.cons.injEq] at ht; exact hv (by simp; omega)
  | 12, _ => simp only [List.set_cons_zero, List.set_cons_succ, List.cons.injEq] at ht; exact hv (by simp; omega)
  | 13, _ => simp only [List.set_cons_zero, List.set_cons_succ, List.cons.injEq] at ht; exact hv (by simp; omega)
  | 14, _ => simp only [List.set_cons_zero, List.set_cons_succ, List.cons.injEq] at ht; exact hv (by simp; omega)
  | 15, _ => simp only [List.set_cons_zero, List.set_cons_succ, List.cons.injEq] at ht; exact hv (by simp; omega)
  | n + 16, h => omega
/-- another length -/
theorem bad_len {L : Lay} {n : Int} (hL : L.Ok) {o o' : List Int} (ho : o.take 16 = headOct L n) (hlen : (o.length : Int) = 16 + (L.device + 2) * (21 + L.oct)) (ht : o'.take 16 = o.take 16) (hne : o'.length ≠ o.length) : ImgBad o' := by
  intro L' n' ok' _ ht' hl
  rw [ht, ho, head_eq, head_eq] at ht'
  simp only [List.cons.injEq] at ht'
  obtain ⟨_, _, _, _, _, _, e6, e7, e8, e9, _⟩ := ht'
  have eo := oct_low hL ok' e8 e9
  obtain ⟨sg, bk, oc⟩ := L
  obtain ⟨sg', bk', oc'⟩ := L'
  simp only at e6 e7 eo
  subst e6 e7 eo
  omega
theorem bad_short {o : List Int} (h : o.length < 16) : ImgBad o := by
  intro L' n' _ _ ht _
  have := congrArg List.length ht
  rw [headOct_len, List.length_take] at this
  omega
theorem flat_set {z : Nat} : ∀ {rows : List (List Int)} {i : Nat} {r : List Int} {w : Int}, (∀ r ∈ rows, r.length = z) → 0 < z → rows[i]? = some r → rows.flatten.set (i * z) w = (rows.set i (r.set 0 w)).flatten
  | [], i, r, w, _, _, h => by simp at h
  | r0 :: t, 0, r, w, hz, z0, h => by
    cases h
    have := hz r0 List.mem_cons_self
    rw [Nat.zero_mul, List.flatten_cons, List.set_append_left _ _ (by omega), List.set_cons_zero, List.flatten_cons]
  | r0 :: t, i + 1, r, w, hz, z0, h => by
    have ih := flat_set (rows := t) (i := i) (w := w) (fun x hx => hz x (List.mem_cons_of_mem _ hx)) z0 (by simpa using h)
    have h0 := hz r0 List.mem_cons_self
    rw [Nat.add_mul, Nat.one_mul, List.flatten_cons, List.set_append_right _ _ (by omega), h0, show i * z + z - z = i * z by omega, ih, List.set_cons_succ, List.flatten_cons]
theorem dp_wo2 {K : PySem.W.Frag} {R R' H H' : Hp} {l2 l3 : Addr} {u2 u3 : List V} {d : PyData} {v : V} (h2 : H l2 = some (.lst u2)) (h3 : H l3 = some (.lst u3)) (ne : l2 ≠ l3) (t : tupOnly d = true) (g : Gr [l2, l3] R H R' H') (h : Dp K H v d) : Dp K H' v d := by
  have e := dp_wo h2 t h
  have h3' : wo H l2 l3 = some (.lst u3) := by unfold wo; rw [if_neg (Ne.symm ne)]; exact h3
  have e := dp_wo h3' t e
  refine dp_mono (fun b o q => ?_) e
  unfold wo at q
  split at q
  · cases q
  · split at q
    · cases q
    · exact g.hh _ _ (by simp; exact ⟨by assumption, by assumption⟩) q
theorem dp_wo1 {K : PySem.W.Frag} {R R' H H' : Hp} {D : Addr} {u : List V} {d : PyData} {v : V} (h2 : H D = some (.lst u)) (t : tupOnly d = true) (g : Gr [D] R H R' H') (h : Dp K H v d) : Dp K H' v d := by
  refine dp_mono (fun b o q => ?_) (dp_wo h2 t h)
  unfold wo at q
  split at q
  · cases q
  · exact g.hh _ _ (by simp; assumption) q
theorem only_cells : ∀ cs : List Cell, tupOnlyAll (cs.map cellD) = true
  | [] => by simp [tupOnlyAll]
  | c :: r => by rw [List.map_cons, tupOnlyAll, only_cell, only_cells r]; rfl
def Inv9 (K : PySem.W.Frag) (CS CD : Addr) (R0 : Hp) (L : Lay) (a b p D : Addr) (n : Int) (i : Nat) (σ : St) (H : Hp) : Prop := ∃ (s d l1 l2 l3 : Addr) (us vs : List V) (cs : List Cell) (x6 x7 x8 x9 xA xB xC : Option V),
  σ = [some (.ref a), some (.ref b), some (.ref p), some (.int n), some (.ref D), some (.ref s), x6, x7, x8, x9, xA, xB, xC] ∧ Same R0 H ∧ H D = some (.lst us) ∧ DpAll K H us (cs.map cellD) ∧ (cs.length : Int) = L.device + 2 ∧ (∀ c ∈ cs, CellX L c) ∧
  SideIn CS H s p n d ∧ DevAt CD H d p l1 l2 l3 ∧ H l2 = some (.lst vs) ∧ DpAll K H vs (cs.map cellD) ∧ l2 ≠ D
theorem dp_nones {K : PySem.W.Frag} {H : Hp} : ∀ k : Nat, DpAll K H (List.replicate k .non) ((List.replicate k (none : Cell)).map cellD)
  | 0 => .nil
  | k + 1 => by rw [List.replicate_succ, List.replicate_succ, List.map_cons]; exact .cons .non (dp_nones k)
theorem img_ok {L : Lay} {n : Int} (hL : L.Ok) (n0 : 0 ≤ n) (n3 : n < 3) {cs : List Cell} (hl : (cs.length : Int) = L.device + 2) (cx : ∀ c ∈ cs, CellX L c) : ImgOk L n (imageOf L n cs) (cs.map (cellOcts L)) :=
  ⟨by unfold imageOf cellsOcts; rw [List.flatMap_def], n0, n3, by rw [List.length_map]; exact hl, fun r hr => by
    obtain ⟨c, hc, rfl⟩ := List.mem_map.mp hr
    exact cellOcts_len hL (cx c hc)⟩
theorem rows_ok {L : Lay} {cs : List Cell} (cx : ∀ c ∈ cs, CellX L c) (i : Nat) (r : List Int) (c : Cell) (hr : (cs.map (cellOcts L))[i]? = some r) (hc : cs[i]? = some c) : rowOf L r c := by
  rw [List.getElem?_map, hc] at hr
  cases hr
  exact .inl ⟨rfl, cx c (List.mem_of_getElem? hc)⟩
theorem ixN_nat {n j : Nat} (h : j < n) : ixN n (j : Int) = some j := by
  unfold ixN
  simp
  omega
theorem atI_nat9 {l : List Int} {z : Int} {j : Nat} (e : z = (j : Int)) (h : j < l.length) : atI (l.map V.int) z = some (.int (l.getD j 0)) := by rw [e]; exact atI_getD h
theorem cut_m1 {xs : List Int} (h : 1 ≤ xs.length) : cutV (xs.map V.int) none (some (-1)) = (xs.take (xs.length - 1)).map V.int := by
  have e : HT.sIx (xs.map V.int).length (xs.map V.int).length (some (-1)) = xs.length - 1 := by
    show (if (-1 : Int) < 0 then ((-1 : Int) + ((xs.map V.int).length : Int)).toNat else min (-1 : Int).toNat (xs.map V.int).length) = _
    rw [if_pos (by decide), List.length_map]
    omega
  unfold cutV
  rw [e, HT.sIx_none, List.drop_zero, Nat.sub_zero, List.map_take]
theorem pick01 {x j : Int} (h : 0 ≤ j ∧ j < 2) (hx : x ≠ 1) : ∃ q : Int, atI [V.int 0, .int x] j = some (.int q) ∧ q ≠ 1 := by
  have : j = 0 ∨ j = 1 := by omega
  rcases this with rfl | rfl
  · exact ⟨0, rfl, by decide⟩
  · exact ⟨x, rfl, hx⟩
/-- an image of which one row's first octet is another one -/
theorem img_set {L : Lay} {n : Int} {o : List Int} {rows : List (List Int)} {z k : Nat} {r : List Int} {w : Int} (h : ImgOk L n o rows) (hz : 21 + L.oct = (z : Int)) (z0 : 0 < z) (hr : rows[k]? = some r) : ImgOk L n (o.set (16 + k * z) w) (rows.set k (r.set 0 w)) := by
  have each : ∀ r ∈ rows, r.length = z := fun r hr => by have := h.each r hr; omega
  refine ⟨?_, h.n0, h.n3, by rw [List.length_set]; exact h.len, fun x hx => ?_⟩
  · rw [h.eq, List.set_append_right _ _ (by rw [headOct_len]; omega), headOct_len, show 16 + k * z - 16 = k * z by omega, flat_set each z0 hr]
  · rcases List.mem_or_eq_of_mem_set hx with hx | rfl
    · exact h.each x hx
    · rw [List.length_set]; exact h.each r (List.mem_of_getElem? hr)
local macro_rules | `(tactic| fail "calls") => `(tactic| ((with_reducible show spTake _ _ _ _); refine ⟨_, _, _, rfl, by fail "hp", by fail "ar", by fail "ar", ?_⟩; fail "mut"))
section
variable {P : Program} {w : World} {K : PySem.W.Frag} {mg : Str → Option Value} {base : Heap}
theorem ok_law (T : Txt P K mg) : FnOk P w K mg base CX0 8 T.f_law T.fd_law ["script"] (spLaw K) := by
  have cl_Layout := T.cl_Layout
  have a_Layout_device_blocks := T.a_Layout_device_blocks
  have a_Layout_block_size := T.a_Layout_block_size
  have G__law_number := ok__law_number (P := P) (w := w) (base := base) T
  have G__law_layout := ok__law_layout (P := P) (w := w) (base := base) T
  have G__law_take := ok__law_take (P := P) (w := w) (base := base) T
  have G_Side___init__ := ok_Side___init__ (P := P) (w := w) (base := base) T
  have G__law_cell := ok__law_cell (P := P) (w := w) (base := base) T
  have G__law_block := ok__law_block (P := P) (w := w) (base := base) T
  have G_Side_write := ok_Side_write (P := P) (w := w) (base := base) T
  have G__law_sealed := ok__law_sealed (P := P) (w := w) (base := base) T
  have G_write_side := ok_write_side (P := P) (w := w) (base := base) T
  have G__law_reads := ok__law_reads (P := P) (w := w) (base := base) T
  have G__law_image := ok__law_image (P := P) (w := w) (base := base) T
  have G__law_refuses := ok__law_refuses (P := P) (w := w) (base := base) T
  refine T.F_law.ok sc_law (fun vs H Q E h => ?_) (fun cdv A outer s H vs Q E hr h => ?_)
  · obtain ⟨a, ns, rfl, hS, hlen, hq⟩ := h
    rfl
  · obtain ⟨a, ns, rfl, hS, hlen, hq⟩ := h
    refine ⟨_, (pss_cons (ps_set (i := 1) sc_law.nd rfl (by first | exact Or.inl rfl | exact Or.inr rfl) (pe_lst (pa_cons (pe_call G__law_number (hr.mono (by decide)) rfl T.g__law_number T.F__law_number.kp T.b__law_number .nil pass0 (pa_cons (pv 0) (pa_cons pe_int pa_nil))) pa_nil)))
      (pss_cons (ps_set (i := 2) sc_law.nd rfl (by first | exact Or.inl rfl | exact Or.inr rfl) (pe_call G__law_layout (hr.mono (by decide)) rfl T.g__law_layout T.F__law_layout.kp T.b__law_layout .nil pass0 (pa_cons (pv 1) pa_nil)))
      (pss_cons (ps_set (i := 3) sc_law.nd rfl (by first | exact Or.inl rfl | exact Or.inr rfl) (pe_call G__law_take (hr.mono (by decide)) rfl T.g__law_take T.F__law_take.kp T.b__law_take .nil pass0 (pa_cons (pv 1) (pa_cons pe_int pa_nil))))
      (pss_cons (ps_set (i := 4) sc_law.nd rfl (by first | exact Or.inl rfl | exact Or.inr rfl) (pe_op opMultU (pe_lst (pa_cons pe_non pa_nil)) (pe_op (opAddU (K := K)) (pe_fldK (K := K) (pv 2) rfl) pe_int)))
      (pss_cons (ps_set (i := 5) sc_law.nd rfl (by first | exact Or.inl rfl | exact Or.inr rfl) (pe_make T.mk_Side G_Side___init__ (hr.mono (by decide)) rfl T.g_Side T.b_Side___init___2 T.d_Side___init___2 pass0 (pa_cons (pv 2) (pa_cons (pv 3) pa_nil))))
      (pss_cons (ps_for PassesOwn.never rfl (pi_range1 rfl T.n_range (pa_cons (pe_call G__law_take (hr.mono (by decide)) rfl T.g__law_take T.F__law_take.kp T.b__law_take .nil pass0 (pa_cons (pv 1) (pa_cons pe_int pa_nil))) pa_nil)) (pg_name (i := 6) sc_law.nd rfl (by first | exact Or.inl rfl | exact Or.inr rfl)) (pss_cons (ps_set (i := 7) sc_law.nd rfl (by first | exact Or.inl rfl | exact Or.inr rfl) (pe_lst (pa_cons (pe_call G__law_number (hr.mono (by decide)) rfl T.g__law_number T.F__law_number.kp T.b__law_number .nil pass0 (pa_cons (pv 0) (pa_cons (pe_op (opAddU (K := K)) pe_int (pv 6)) pa_nil))) pa_nil)))
      (pss_cons (ps_set (i := 8) sc_law.nd rfl (by first | exact Or.inl rfl | exact Or.inr rfl) (pe_call G__law_take (hr.mono (by decide)) rfl T.g__law_take T.F__law_take.kp T.b__law_take .nil pass0 (pa_cons (pv 7) (pa_cons (pe_op (opAddU (K := K)) (pe_fldK (K := K) (pv 2) rfl) pe_int) pa_nil))))
      (pss_cons (ps_asg (pe_call G__law_cell (hr.mono (by decide)) rfl T.g__law_cell T.F__law_cell.kp T.b__law_cell .nil pass0 (pa_cons (pv 2) (pa_cons (pv 8) (pa_cons (pv 7) pa_nil)))) (pg_sub (pv 4) (pv 8) set_list))
      (pss_cons (ps_set (i := 5) sc_law.nd rfl (by first | exact Or.inl rfl | exact Or.inr rfl) (pe_make T.mk_Side G_Side___init__ (hr.mono (by decide)) rfl T.g_Side T.b_Side___init__ .nil pass0 (pa_cons (pv 2) (pa_cons (pv 3) (pa_cons (pv 4) pa_nil)))))
      (pss_one (ps_if (pt_cmpR (opEqU (K := K) hr.units) (pe_call G__law_take (hr.mono (by decide)) rfl T.g__law_take T.F__law_take.kp T.b__law_take .nil pass0 (pa_cons (pv 7) (pa_cons pe_int pa_nil))) pe_int (nomark _)) (pss_cons (ps_set (i := 9) sc_law.nd rfl (by first | exact Or.inl rfl | exact Or.inr rfl) (pe_call G__law_block (hr.mono (by decide)) rfl T.g__law_block T.F__law_block.kp T.b__law_block .nil pass0 (pa_cons (pv 2) (pa_cons (pv 7) pa_nil))))
      (pss_cons (ps_expr (pe_meth (pv 5) T.cl_Side T.m_Side_write G_Side_write (hr.mono (by decide)) T.b_Side_write .nil pass0 (pa_cons (pv 8) (pa_cons (pv 9) pa_nil))))
      (pss_one (ps_asg (pe_call G__law_sealed (hr.mono (by decide)) rfl T.g__law_sealed T.F__law_sealed.kp T.b__law_sealed .nil pass0 (pa_cons (pv 2) (pa_cons (pv 8) (pa_cons (pv 9) pa_nil)))) (pg_sub (pv 4) (pv 8) set_list))))) pss_nil)))))))
      (pss_cons (ps_set (i := 10) sc_law.nd rfl (by first | exact Or.inl rfl | exact Or.inr rfl) (pe_call G_write_side (hr.mono (by decide)) rfl T.g_write_side T.F_write_side.kp T.b_write_side .nil pass0 (pa_cons (pv 5) pa_nil)))
      (pss_cons (ps_if (PW.pt (pw_or (pt_not (pt_truthK (K := K) (pe_callB (callIsU (K := K)) (by rfl) T.n_isinstance (by decide +kernel) (pa_cons (pv 10) (pa_cons (pe_bltn (v := .ty "list") (by rfl) T.n_list (by decide +kernel) rfl) pa_nil))) (by intro _; rfl))) (pw_or (pt_cmpR (opNeU (K := K) hr.units) (pv 10) (pe_call G__law_image (hr.mono (by decide)) rfl T.g__law_image T.F__law_image.kp T.b__law_image .nil pass0 (pa_cons (pv 2) (pa_cons (pv 3) (pa_cons (pv 4) pa_nil)))) (nomark _)) (pw_or1 (pt_not (pt_truthK (K := K) (pe_call G__law_reads (hr.mono (by decide)) rfl T.g__law_reads T.F__law_reads.kp T.b__law_reads .nil pass0 (pa_cons (pv 10) (pa_cons (pv 2) (pa_cons (pv 3) (pa_cons (pv 4) pa_nil))))) (by intro _; rfl))))))) (pss_one (ps_ret pe_bl)) pss_nil)
      (pss_cons (ps_set (i := 1) sc_law.nd rfl (by first | exact Or.inl rfl | exact Or.inr rfl) (pe_lst (pa_cons (pe_call G__law_number (hr.mono (by decide)) rfl T.g__law_number T.F__law_number.kp T.b__law_number .nil pass0 (pa_cons (pv 0) (pa_cons pe_int pa_nil))) pa_nil)))
      (pss_cons (ps_set (i := 11) sc_law.nd rfl (by first | exact Or.inl rfl | exact Or.inr rfl) (pe_call G__law_take (hr.mono (by decide)) rfl T.g__law_take T.F__law_take.kp T.b__law_take .nil pass0 (pa_cons (pv 1) (pa_cons pe_int pa_nil))))
      (pss_cons (ps_set (i := 12) sc_law.nd rfl (by first | exact Or.inl rfl | exact Or.inr rfl) (pe_callTy (callListU (K := K)) (by rfl) T.n_list (by decide +kernel) (pa_cons (pv 10) pa_nil)))
      (pss_cons (ps_asg (pe_op opModU (pe_callTy callIntU (by rfl) T.n_int (by decide +kernel) (pa_cons (pe_op (opAddU (K := K)) (pe_op (opAddU (K := K)) (pe_ix (ixU (K := K)) (pv 12) (pv 11) (fun _ _ => rfl)) pe_int) (pe_call G__law_take (hr.mono (by decide)) rfl T.g__law_take T.F__law_take.kp T.b__law_take .nil pass0 (pa_cons (pv 1) (pa_cons pe_int pa_nil)))) pa_nil)) pe_int) (pg_sub (pv 12) (pv 11) set_list))
      (pss_cons (ps_if (PW.pt (pw_and (pt_cmpR (opEqU (K := K) hr.units) (pv 11) pe_int (nomark _)) (pw_and1 (pt_cmpR op_lt (pe_ix (ixU (K := K)) (pv 12) pe_int (fun _ _ => rfl)) pe_int (nomark _))))) (pss_one (ps_if (pt_not (pt_truthK (K := K) (pe_call G__law_reads (hr.mono (by decide)) rfl T.g__law_reads T.F__law_reads.kp T.b__law_reads .nil pass0 (pa_cons (pv 12) (pa_cons (pv 2) (pa_cons (pe_ix (ixU (K := K)) (pv 12) pe_int (fun _ _ => rfl)) (pa_cons (pv 4) pa_nil))))) (by intro _; rfl))) (pss_one (ps_ret pe_bl)) pss_nil)) (pss_one (ps_if (pt_not (pt_truthK (K := K) (pe_call G__law_refuses (hr.mono (by decide)) rfl T.g__law_refuses T.F__law_refuses.kp T.b__law_refuses .nil pass0 (pa_cons (pv 12) pa_nil)) (by intro _; rfl))) (pss_one (ps_ret pe_bl)) pss_nil)))
      (pss_cons (ps_if (PW.pt (pw_or (pt_not (pt_truthK (K := K) (pe_call G__law_refuses (hr.mono (by decide)) rfl T.g__law_refuses T.F__law_refuses.kp T.b__law_refuses .nil pass0 (pa_cons (pe_slice (slU (K := K)) (pv 10) po_none (po_some (pe_un un_neg pe_int))) pa_nil)) (by intro _; rfl))) (pw_or (pt_not (pt_truthK (K := K) (pe_call G__law_refuses (hr.mono (by decide)) rfl T.g__law_refuses T.F__law_refuses.kp T.b__law_refuses .nil pass0 (pa_cons (pe_op (opAddU (K := K)) (pv 10) (pe_lst (pa_cons pe_int pa_nil))) pa_nil)) (by intro _; rfl))) (pw_or1 (pt_not (pt_truthK (K := K) (pe_call G__law_refuses (hr.mono (by decide)) rfl T.g__law_refuses T.F__law_refuses.kp T.b__law_refuses .nil pass0 (pa_cons (pe_slice (slU (K := K)) (pv 10) po_none (po_some (pe_call G__law_take (hr.mono (by decide)) rfl T.g__law_take T.F__law_take.kp T.b__law_take .nil pass0 (pa_cons (pv 1) (pa_cons pe_int pa_nil))))) pa_nil)) (by intro _; rfl))))))) (pss_one (ps_ret pe_bl)) pss_nil)
      (pss_cons (ps_set (i := 8) sc_law.nd rfl (by first | exact Or.inl rfl | exact Or.inr rfl) (pe_call G__law_take (hr.mono (by decide)) rfl T.g__law_take T.F__law_take.kp T.b__law_take .nil pass0 (pa_cons (pv 1) (pa_cons (pe_op (opAddU (K := K)) (pe_fldK (K := K) (pv 2) rfl) pe_int) pa_nil))))
      (pss_cons (ps_set (i := 12) sc_law.nd rfl (by first | exact Or.inl rfl | exact Or.inr rfl) (pe_callTy (callListU (K := K)) (by rfl) T.n_list (by decide +kernel) (pa_cons (pv 10) pa_nil)))
      (pss_cons (ps_asg (pe_ix (ixU (K := K)) (pe_lst (pa_cons pe_int (pa_cons (pe_op (opAddU (K := K)) pe_int (pe_call G__law_take (hr.mono (by decide)) rfl T.g__law_take T.F__law_take.kp T.b__law_take .nil pass0 (pa_cons (pv 1) (pa_cons pe_int pa_nil)))) pa_nil))) (pe_call G__law_take (hr.mono (by decide)) rfl T.g__law_take T.F__law_take.kp T.b__law_take .nil pass0 (pa_cons (pv 1) (pa_cons pe_int pa_nil))) (fun _ _ => rfl)) (pg_sub (pv 12) (pe_op (opAddU (K := K)) pe_int (pe_op opMultU (pv 8) (pe_op (opAddU (K := K)) pe_int (pe_fldK (K := K) (pv 2) rfl)))) set_list))
      (pss_one (ps_ret (pe_call G__law_reads (hr.mono (by decide)) rfl T.g__law_reads T.F__law_reads.kp T.b__law_reads .nil pass0 (pa_cons (pv 12) (pa_cons (pv 2) (pa_cons (pv 3) (pa_cons (pe_op (opAddU (K := K)) (pe_op (opAddU (K := K)) (pe_slice (slU (K := K)) (pv 4) po_none (po_some (pv 8))) (pe_lst (pa_cons pe_non pa_nil))) (pe_slice (slU (K := K)) (pv 4) (po_some (pe_op (opAddU (K := K)) (pv 8) pe_int)) po_none)) pa_nil)))))))))))))))))))))))), ?_⟩
    try dsimp only [cxOf]
    have r0 := Same.refl H
    fail "go"
    refine ⟨_, _, _, rfl, hS, by omega, ?_⟩
    fail "go"
    refine ⟨by fail "sz", ?_⟩
    fail "newM"
    rename_i b H1 n1 g1 m1 h1 s1
    fail "go"
    refine ⟨H, b, _, rfl, s1, m1, h1, fun p H2 L s2 np hb2 ha hL => ?_⟩
    obtain ⟨m, hb2⟩ := hb2
    obtain ⟨lx, haf⟩ := ha
    have hOk := lays_ok L hL
    obtain ⟨d0, d1⟩ := lays_dev L hL
    have pb : p ≠ b := by rintro rfl; rw [haf] at hb2; cases hb2
    have sHW : Same H (wo H2 b) := same_wo s2 m1
    have haf2 : wo H2 b p = some (.ins T.C_Layout lx L.flds) := by unfold wo; rw [if_neg pb]; exact haf
    have hS2 := sqL_mono sHW hS
    have Wb : wo H2 b b = none := wo_self
    have sW : Same (wo H2 b) H2 := wo_same
    generalize wo H2 b = R2 at sHW haf2 hS2 Wb sW
    clear haf sHW s2 s1 g1 h1 n1 r0 hS
    fail "go"
    rename_i H3 g3 h3 s3
    have c0 : 0 ≤ m % 3 ∧ m % 3 < 3 := ⟨Int.emod_nonneg _ (by decide), Int.emod_lt_of_pos _ (by decide)⟩
    generalize m % 3 = seat at c0 ⊢
    clear g3
    refine ⟨by fail "sz", ?_⟩
    fail "newM"
    rename_i p4 H4 n4 g4 m4 h4 s4
    have hb4 := g4.g.same _ _ h3
    clear g4 h3 s3 hb2 sW
    fail "go"
    refine g_rep h4 (by omega) (by omega) (by simp only [List.length_cons, List.length_nil]; fail "sz") ?_
    rw [show (List.replicate (L.device + 2).toNat [V.non]).flatten = List.replicate (L.device + 2).toNat V.non by simp]
    fail "newM"
    rename_i D H5 n5 g5 m5 h5 s5
    have hb5 := g5.g.same _ _ hb4
    have Db : D ∉ [b] := by rw [List.mem_singleton]; exact (ne_of_none hb4 n5).symm
    clear g5 h4 s4 hb4
    fail "go"
    intro x dx nx ndx nex
    have ms := made_same (C := T.C_Side) nx ndx
    have hD := ms _ _ h5
    have hb := ms _ _ hb5
    refine ⟨R2, x, dx, p, seat, .non, _, L, rfl, s5.trans ms, s5.free nx, upd_same, ⟨_, haf2⟩, hOk, ⟨by omega, by omega⟩, .inr ⟨rfl, rfl⟩, fun H6 d l1 l2 l3 g nd n1 n2 n3 e12 e13 e23 edx hs hd e1 e2 e3 => ⟨rfl, ?_⟩⟩
    have Dx : D ∉ [x] := by rw [List.mem_singleton]; exact ne_of_none h5 nx
    have bx : b ∉ [x] := by rw [List.mem_singleton]; exact ne_of_none hb5 nx
    have hD6 := g.hh _ _ Dx hD
    have hb6 := g.hh _ _ bx hb
    have l2D : l2 ≠ D := (ne_of_none hD n2).symm
    have l2b : l2 ∉ [b] := by rw [List.mem_singleton]; exact (ne_of_none hb n2).symm
    have s6 := g.rh
    obtain ⟨sx, hs⟩ := hs
    obtain ⟨ddx, hd⟩ := hd
    have xb : x ∉ [b] := by rw [List.mem_singleton]; rintro rfl; rw [hs] at hb6; cases hb6
    have db : d ∉ [b] := by rw [List.mem_singleton]; rintro rfl; rw [hd] at hb6; cases hb6
    clear g h5 s5 hD hb hb5 e1 e3
    fail "go"
    rename_i H7 g7 h7 s7
    have hD7 := g7.g.hh _ _ Db hD6
    have e27 := g7.g.hh _ _ l2b e2
    have hs7 := g7.g.hh _ _ xb hs
    have hd7 := g7.g.hh _ _ db hd
    have R0a : Same R2 (wo H7 D) := same_wo s7 m5
    have R0D : wo H7 D D = none := wo_self
    have R0H : Same (wo H7 D) H7 := wo_same
    have haf0 := R0a _ _ haf2
    have hS0 := sqL_mono R0a hS2
    generalize wo H7 D = R0 at R0a R0D R0H haf0 hS0
    have mN : 0 ≤ m / 3 % 21 ∧ m / 3 % 21 < 21 := ⟨Int.emod_nonneg _ (by decide), Int.emod_lt_of_pos _ (by decide)⟩
    clear g7 h7 s7 hs hd e2 hD6 hb6 s6 R0a haf2 hS2 Wb xb db Db l2b bx Dx
    refine g_R1W (n := (m / 3 % 21).toNat) (by omega) (by omega) ?_
    refine for_range (lo := 0) (n := (m / 3 % 21).toNat) (Inv9 K T.C_Side T.C_Device R0 L a b p D seat) ⟨x, d, l1, l2, l3, _, _, List.replicate (L.device + 2).toNat none, none, none, none, none, none, none, none, rfl, R0H, hD7, dp_nones _, by rw [List.length_replicate]; omega, fun c hc => by rw [List.eq_of_mem_replicate hc]; trivial, ⟨_, hs7⟩, ⟨_, hd7⟩, e27, dp_nones _, l2D⟩ ?_ ?_
    · clear hD7 e27 hs7 hd7 R0H l2D e12 e13 e23 edx nd n1 n2 n3
      rintro i σ H8 hi ⟨s, d, l1, l2, l3, us, vs, cs, x6, x7, x8, x9, xA, xB, xC, rfl, s08, hD, du, clen, cx, hs, hd, h2, dv, l2D⟩
      rw [Int.zero_add]
      have R1a : Same R0 (wo H8 D) := same_wo s08 R0D
      have R1D : wo H8 D D = none := wo_self
      have s18 : Same (wo H8 D) H8 := wo_same
      have du1 := dpAll_wo hD (only_cells cs) du
      have haf1 := R1a _ _ haf0
      have hS1 := sqL_mono R1a hS0
      have ul : us.length = cs.length := by have := dpAll_len du; simpa using this
      generalize wo H8 D = R1 at R1a R1D s18 du1 haf1 hS1
      clear hs hd h2 dv l2D du s08
      fail "go"
      refine ⟨_, _, _, rfl, sqL_mono s18 hS1, by omega, ?_⟩
      fail "go"
      refine ⟨by fail "sz", ?_⟩
      fail "newM"
      rename_i q H9 n9 g9 m9 h9 s9
      generalize lawNumber ns (2 + (i : Int)) = N at h9
      have hD9 := g9.g.same _ _ hD
      have Dq : D ∉ [q] := by rw [List.mem_singleton]; exact ne_of_none hD n9
      have qD : q ∉ [D] := by rw [List.mem_singleton]; exact (ne_of_none hD n9).symm
      clear g9 hD s18 n9
      fail "go"
      rename_i H10 g10 h10 s10
      have hD10 := g10.g.hh _ _ Dq hD9
      have a0 := Int.emod_nonneg N (b := L.device + 2) (by omega)
      have a1 := Int.emod_lt_of_pos N (b := L.device + 2) (by omega)
      obtain ⟨n, hn⟩ := Int.eq_ofNat_of_zero_le a0
      rw [hn] at a1 ⊢
      have nl : n < cs.length := by omega
      clear g10 h9 hD9 s9 hn a0
      refine ⟨R1, p, q, L, (n : Int), _, rfl, s10, ⟨_, haf1⟩, hL, by omega, by omega, m9, h10, ?_⟩
      rintro v R2 H11 c g11 ⟨m11, hq11⟩ dc ccx
      have hD11 := g11.hh _ _ Dq hD10
      have R2D : R2 D = none := g11.fr _ _ hD10 R1D
      have R2q : R2 q = none := g11.fr _ _ h10 m9
      have s11 := g11.rh
      have haf2 := g11.rr _ _ haf1
      have du2 : DpAll K R2 (us.set n v) ((cs.set n c).map cellD) := by
        rw [List.map_set]
        exact dpAll_set n (dpAll_mono g11.rr du1) dc
      have R2a := R1a.trans g11.rr
      have cx2 : ∀ c' ∈ cs.set n c, CellX L c' := fun c' h => by
        rcases List.mem_or_eq_of_mem_set h with h | rfl
        · exact cx _ h
        · exact ccx
      have clen2 : ((cs.set n c).length : Int) = L.device + 2 := by rw [List.length_set]; exact clen
      have ul2 : n < (us.set n v).length := by rw [List.length_set]; omega
      clear g11 du1 haf1 R1a s10 hD10 R1D m9 hS1 h10 cx dc
      fail "go"
      refine g_setL (j := n) hD11 (by unfold ixN; simp; omega) ?_
      fail "mut"
      rename_i H12 g12 hD12 s12
      have hq12 := g12.g.hh _ _ qD hq11
      clear g12 hD11 hq11 s11
      generalize us.set n v = us2 at du2 hD12 ul2
      generalize cs.set n c = cs2 at du2 cx2 clen2
      fail "go"
      intro x dx nx ndx nex
      have ms := made_same (C := T.C_Side) nx ndx
      have hDm := ms _ _ hD12
      have hqm := ms _ _ hq12
      refine ⟨R2, x, dx, p, seat, .ref D, us2, L, rfl, s12.trans ms, s12.free nx, upd_same, ⟨_, haf2⟩, hOk, ⟨by omega, by omega⟩, .inl ⟨D, rfl, SqL.of hDm⟩, fun H13 d l1 l2 l3 g nd n1 n2 n3 e12 e13 e23 edx hs hd e1 e2 e3 => ⟨rfl, ?_⟩⟩
      have hD13 := g.hh _ _ (by rw [List.mem_singleton]; exact ne_of_none hD12 nx) hDm
      have hq13 := g.hh _ _ (by rw [List.mem_singleton]; exact ne_of_none hq12 nx) hqm
      have R2l2 : R2 l2 = none := s12.free (ms.free n2)
      have R2l3 : R2 l3 = none := s12.free (ms.free n3)
      have l2D : l2 ≠ D := (ne_of_none hDm n2).symm
      have l3D : l3 ≠ D := (ne_of_none hDm n3).symm
      have l2q : l2 ≠ q := (ne_of_none hqm n2).symm
      have l3q : l3 ≠ q := (ne_of_none hqm n3).symm
      obtain ⟨sx, hs⟩ := hs
      obtain ⟨ddx, hd⟩ := hd
      have xq : x ≠ q := by rintro rfl; rw [hs] at hq13; cases hq13
      have dq : d ≠ q := by rintro rfl; rw [hd] at hq13; cases hq13
      have s13 := g.rh
      clear g hDm hqm hD12 hq12 s12 ms n1 n2 n3 nd nx ndx nex e1
      fail "go"
      rename_i H14 g14 h14 s14
      have hD14 := g14.g.hh _ _ Dq hD13
      have hs14 := g14.g.hh _ _ (by simpa using xq) hs
      have hd14 := g14.g.hh _ _ (by simpa using dq) hd
      have e214 := g14.g.hh _ _ (by simpa using l2q) e2
      have e314 := g14.g.hh _ _ (by simpa using l3q) e3
      clear g14 hD13 hs hd e2 e3 hq13 s13
      refine g_ite (fun e => ?_) (fun e => ?_)
      · fail "go"
        refine ⟨R2, p, q, L, _, rfl, s14, ⟨_, haf2⟩, hL, R2q, h14, ?_⟩
        rintro bv R3 H15 k g15 ⟨m15, hq15⟩ dk bx
        have hD15 := g15.hh _ _ Dq hD14
        have hs15 := g15.hh _ _ (by simpa using xq) hs14
        have hd15 := g15.hh _ _ (by simpa using dq) hd14
        have e215 := g15.hh _ _ (by simpa using l2q) e214
        have e315 := g15.hh _ _ (by simpa using l3q) e314
        have R3l2 := g15.fr _ _ e214 R2l2
        have R3l3 := g15.fr _ _ e314 R2l3
        have R3D := g15.fr _ _ hD14 R2D
        have s15 := g15.rh
        have haf3 := g15.rr _ _ haf2
        have du3 := dpAll_mono g15.rr du2
        have R3a := R2a.trans g15.rr
        have okb := blkOk_of hOk (b := some k) (fun x hx => by cases hx; exact bx)
        clear g15 hD14 hs14 hd14 e214 e314 s14 h14
        fail "go"
        refine ⟨R3, x, d, p, l1, l2, l3, L, seat, us2, [], bv, n, some k, rfl, s15, ⟨_, haf3⟩, hOk, R3l2, R3l3, ⟨_, hs15⟩, ⟨_, hd15⟩, e215, e315, e23, ul2, by decide, dp_mono s15 dk, okb, fun H17 cv w H16 s16 dcv g17 f2 f3 => ?_⟩
        have l2s : x ∉ [l2, l3] := by
          rw [List.mem_cons, List.mem_singleton]
          rintro (rfl | rfl)
          · rw [hs15] at e215; cases e215
          · rw [hs15] at e315; cases e315
        have l2d : d ∉ [l2, l3] := by
          rw [List.mem_cons, List.mem_singleton]
          rintro (rfl | rfl)
          · rw [hd15] at e215; cases e215
          · rw [hd15] at e315; cases e315
        have hD17 := g17.hh _ _ (by simp; exact ⟨l2D.symm, l3D.symm⟩) (s16 _ _ hD15)
        have hs17 := g17.hh _ _ l2s (s16 _ _ hs15)
        have hd17 := g17.hh _ _ l2d (s16 _ _ hd15)
        have dc17 := dp_wo2 (s16 _ _ e215) (s16 _ _ e315) e23 (only_cell _) g17 dcv
        have s17 := g17.rh
        clear g17 hD15 hs15 hd15 e215 e315 dcv s16 s15
        fail "go"
        refine ⟨p, bv, L, n, some k, rfl, ⟨_, s17 _ _ haf3⟩, hOk, dp_mono s17 dk, bx.full, ⟨fun z => (nomatch z), fun k' ek pz Hz sz nz hz => ?_⟩⟩
        cases ek
        have hDz := sz _ _ hD17
        have hsz := sz _ _ hs17
        have hdz := sz _ _ hd17
        have f2z := sz _ _ f2
        have dcz := dp_mono sz dc17
        have sZ := s17.trans sz
        have pzD : pz ∉ [D] := by rw [List.mem_singleton]; exact (ne_of_none hD17 nz).symm
        clear hD17 hs17 hd17 f2 dc17 s17
        fail "go"
        refine g_setL (j := n) hDz (by unfold ixN; simp; omega) ?_
        fail "mut"
        rename_i H18 g18 h18 s18
        have xD : x ∉ [D] := by rw [List.mem_singleton]; rintro rfl; rw [hsz] at hDz; cases hDz
        have dD : d ∉ [D] := by rw [List.mem_singleton]; rintro rfl; rw [hdz] at hDz; cases hDz
        have dpz : Dp K H18 (.ref pz) (cellD (sealOf L n (some k))) := .tup (SqT.of (g18.g.hh _ _ pzD hz)) (.cons (dp_mono s18 dk) (.cons (.int _) .nil))
        have dcw : Dp K H18 cv (cellD (sealOf L n (some k))) := dp_wo1 hDz (only_cell _) g18.g dcz
        have du18 := dpAll_mono s18 du3
        have cr := fold_range (octs L (some k)) ((n : Int) + 1) (by omega)
        refine ⟨x, d, l1, l2, l3, us2.set n (.ref pz), us2.set n cv, cs2.set n (sealOf L n (some k)), _, _, _, _, _, _, _, rfl, R3a.trans s18, h18, ?_, by rw [List.length_set]; exact clen2, ?_, ⟨_, g18.g.hh _ _ xD hsz⟩, ⟨_, g18.g.hh _ _ dD hdz⟩, g18.g.hh _ _ (by simpa using l2D) f2z, ?_, l2D⟩
        · rw [List.map_set]; exact dpAll_set n du18 dpz
        · intro c' h
          rcases List.mem_or_eq_of_mem_set h with h | rfl
          · exact cx2 _ h
          · exact ⟨fun x hx => (by cases hx; exact bx), cr.1, by have := cr.2; unfold chk; omega⟩
        · rw [List.map_set]; exact dpAll_set n du18 dcw
      · exact ⟨x, d, l1, l2, l3, us2, us2, cs2, _, _, _, _, _, _, _, rfl, R2a.trans s14, hD14, dpAll_mono s14 du2, clen2, cx2, ⟨_, hs14⟩, ⟨_, hd14⟩, e214, dpAll_mono s14 du2, l2D⟩
    · rintro σ H8 ⟨s, d, l1, l2, l3, us, vs, cs, x6, x7, x8, x9, xA, xB, xC, rfl, s08, hD, du, clen, cx, hs, hd, h2, dv, l2D⟩
      have haf8 := s08 _ _ haf0
      have hS8 := sqL_mono s08 hS0
      clear hD7 e27 hs7 hd7 R0H e12 e13 e23 edx nd n1 n2 n3 s08 haf0 hS0 R0D
      have r8 := Same.refl H8
      fail "go"
      refine ⟨s, d, p, l1, l2, l3, L, seat, vs, cs, rfl, ⟨_, haf8⟩, hOk, ⟨by omega, by omega⟩, hs, hd, h2, dv, clen, cx, ?_⟩
      fail "ret"
      rename_i po H9 h9 f9 g9 m9 s9
      clear hs hd h2 dv
      fail "go"
      refine g_isi (ty_lst (SqL.of h9)) (kit_ty (r := true) (by decide +kernel)) ⟨true, rfl, ?_⟩
      fail "go"
      refine ⟨p, D, L, seat, us, cs, rfl, ⟨_, s9 _ _ haf8⟩, hOk, SqL.of (s9 _ _ hD), dpAll_mono s9 du, cx, by omega, ?_⟩
      fail "ret"
      rename_i pi H10 h10 f10 g10 m10 s10
      have h910 := g10.g.same _ _ h9
      clear g9 g10 s9 h9 f9 f10
      fail "go"
      refine g_neDa (.lst (SqL.of h910) (dpAll_ints _)) (.lst (SqL.of h10) (dpAll_ints _)) (la_shaped (la_lst (n := 0) la_ints)) (la_shaped (la_lst (n := 0) la_ints)) (.inl ⟨_, rfl⟩) ?_
      rw [eqv_same (by rw [clean]; exact clean_ints _)]
      have him := img_ok hOk c0.1 c0.2 clen cx
      have hrow := rows_ok cx
      have o1 := hOk.o1
      have olen := him.olen
      fail "go"
      refine ⟨po, p, D, L, seat, imageOf L seat cs, cs.map (cellOcts L), us, cs, rfl, ⟨_, s10 _ _ haf8⟩, hOk, ⟨by omega, by omega⟩, him, SqL.of h910, by rw [List.length_map], hrow, SqL.of (s10 _ _ hD), dpAll_mono s10 du, fun H11 s11 => ?_⟩
      have ho11 := s11 _ _ h910
      have s811 := s10.trans s11
      clear h10 h910 s10 s11 m9 m10
      have haf11 := s811 _ _ haf8
      have hD11 := s811 _ _ hD
      have du11 := dpAll_mono s811 du
      have hS11 := sqL_mono s811 hS8
      have take16 : (imageOf L seat cs).take 16 = headOct L seat := List.take_left' (headOct_len L seat)
      have oeq : imageOf L seat cs = headOct L seat ++ cellsOcts L cs := rfl
      have big : (imageOf L seat cs).length ≤ 40000 ∧ 17 ≤ (imageOf L seat cs).length := by
        rcases o1 with e | e | e <;> rw [e] at olen <;> omega
      clear s811 haf8 hD du hS8 r8
      have r11 := Same.refl H11
      generalize imageOf L seat cs = o at him olen ho11 take16 oeq big
      fail "go"
      refine ⟨true, rfl, ?_⟩
      fail "go"
      refine ⟨_, _, _, rfl, hS11, by decide, ?_⟩
      fail "go"
      refine ⟨by fail "sz", ?_⟩
      fail "newM"
      rename_i b2 H12 n12 g12 m12 h12 s12
      generalize lawNumber ns 1 = N1 at h12
      clear g12
      fail "go"
      rename_i H13 g13 h13 s13
      have ho13 := s13 _ _ ho11
      clear g13 h12 s12
      have t0 : 0 ≤ N1 % 16 := Int.emod_nonneg _ (by decide)
      have t1 : N1 % 16 < 16 := Int.emod_lt_of_pos _ (by decide)
      obtain ⟨i, hi⟩ := Int.eq_ofNat_of_zero_le t0
      rw [hi] at t1 ⊢
      clear hi t0
      refine g_listL (SqL.of ho13) ?_
      fail "newM"
      rename_i ch H14 n14 g14 m14 h14 s14
      have hb14 := g14.g.same _ _ h13
      have chb : ch ∉ [b2] := by rw [List.mem_singleton]; exact (ne_of_none h13 n14).symm
      have bch : b2 ∉ [ch] := by rw [List.mem_singleton]; exact ne_of_none h13 n14
      clear g14 h13 s13 ho13
      fail "go"
      refine g_ixL (SqL.of h14) (atI_nat9 rfl (by omega)) ?_
      fail "go"
      rename_i H15 g15 h15 s15
      have h145 := g15.g.hh _ _ chb h14
      clear g15 h14 hb14 s14
      refine g_setL (j := i) h145 (by unfold ixN; simp; omega) ?_
      fail "mut"
      rename_i H16 g16 h16 s16
      have hb16 := g16.g.hh _ _ bch h15
      rw [← List.map_set] at h16
      clear g16 h15 s15 h145
      have hgd : o.getD i 0 = (headOct L seat).getD i 0 := by rw [List.getD_eq_getElem?_getD, List.getD_eq_getElem?_getD, oeq, List.getElem?_append_left (by rw [headOct_len]; omega)]
      have hv0 : 0 ≤ o.getD i 0 ∧ o.getD i 0 < 256 := by
        rw [hgd, head_eq]
        have s1 := hOk.s1; have s2 := hOk.s2; have b1 := hOk.b1; have b2' := hOk.b2
        match i, t1 with
        | 0, _ => simp
        | 1, _ => simp
        | 2, _ => simp
        | 3, _ => simp
        | 4, _ => simp
        | 5, _ => simp; omega
        | 6, _ => simp; omega
        | 7, _ => simp; omega
        | 8, _ => simp; omega
        | 9, _ => simp; omega
        | 10, _ => simp
        | 11, _ => simp
        | 12, _ => simp
        | 13, _ => simp
        | 14, _ => simp
        | 15, _ => simp
        | n + 16, h => omega
      have hw : ∀ t : Int, 0 ≤ t → t < 250 → (o.getD i 0 + 1 + t) % 256 ≠ o.getD i 0 ∧ 0 ≤ (o.getD i 0 + 1 + t) % 256 := fun t h0 h1 => by omega
      have hw := hw (N1 / 16 % 250) (Int.emod_nonneg _ (by decide)) (Int.emod_lt_of_pos _ (by decide))
      generalize (o.getD i 0 + 1 + N1 / 16 % 250) % 256 = w at h16 hw ⊢
      have s1116 : Same H11 H16 := s16
      have bad : (i = 5 → ¬ w < 3) → ImgBad (o.set i w) := fun h5 => by
        rw [oeq]
        exact bad_head hL c0.1 c0.2 (by omega) (by rw [← hgd]; exact hw.1) h5 (by rw [← oeq]; exact olen)
      have lset : (o.set i w).length ≤ 400000 := by rw [List.length_set]; omega
      refine g_seqIN (fun σ' H' => σ' = [some (.ref a), some (.ref b2), some (.ref p), some (.int seat), some (.ref D), some (.ref s), x6, x7, x8, x9, some (.ref po), some (.int (i : Int)), some (.ref ch)] ∧ Same H16 H') ?_ (fun Nx rest => ?_)
      · clear bad lset
        rintro σ' H17 ⟨rfl, s17⟩
        have hb17 := s17 _ _ hb16
        have sB := s16.trans s17
        have hoB := sB _ _ ho11
        clear s16 h16 hb16 s17
        fail "go"
        refine g_slL (SqL.of hoB) ?_
        rw [cut_m1 (by omega)]
        fail "newM"
        rename_i q1 H18 n18 g18 m18 h18 s18
        have hb18 := g18.g.same _ _ hb17
        clear g18 sB hb17
        fail "go"
        refine ⟨q1, o.take (o.length - 1), rfl, SqL.of h18, by rw [List.length_take]; omega, bad_len hOk take16 olen (by rw [List.take_take, Nat.min_eq_left (by omega)]) (by rw [List.length_take]; omega), fun H19 s19 => ?_⟩
        have sC := s18.trans s19
        have hb19 := s19 _ _ hb18
        have hoC := sC _ _ ho11
        clear s18 s19 hb18 h18 hoB
        fail "go"
        refine ⟨true, rfl, ?_⟩
        fail "go"
        refine ⟨by fail "sz", ?_⟩
        fail "newM"
        rename_i q2 H20 n20 g20 m20 h20 s20
        refine g_catI (a := po) (l := o) (m := [0]) (g20.g.same _ _ hoC) h20 (by simp; omega) ?_
        fail "newM"
        rename_i q3 H21 n21 g21 m21 h21 s21
        have hb21 := g21.g.same _ _ (g20.g.same _ _ hb19)
        clear g20 g21 s20 h20 hb19 sC hoC
        fail "go"
        refine ⟨q3, o ++ [0], rfl, SqL.of h21, by rw [List.length_append, List.length_singleton]; omega, bad_len hOk take16 olen (by rw [List.take_append_of_le_length (by omega)]) (by rw [List.length_append, List.length_singleton]; omega), fun H22 s22 => ?_⟩
        have sD := s21.trans s22
        have hb22 := s22 _ _ hb21
        clear s21 s22 hb21 h21
        fail "go"
        refine ⟨true, rfl, ?_⟩
        fail "go"
        rename_i H23 g23 h23 s23
        have hoD := s23 _ _ ho11
        have u0 : 0 ≤ N1 / 16 / 250 % 16 ∧ N1 / 16 / 250 % 16 < 16 := ⟨Int.emod_nonneg _ (by decide), Int.emod_lt_of_pos _ (by decide)⟩
        clear g23 sD hb22
        refine g_slLhi (j := (N1 / 16 / 250 % 16).toNat) (SqL.of hoD) (by omega) (by omega) ?_
        fail "newM"
        rename_i q4 H24 n24 g24 m24 h24 s24
        have hb24 := g24.g.same _ _ h23
        clear g24 s23 h23 hoD
        fail "go"
        refine ⟨q4, _, rfl, SqL.of h24, by rw [List.length_take]; omega, bad_short (by rw [List.length_take]; omega), fun H25 s25 => ?_⟩
        have sE := s24.trans s25
        have hb25 := s25 _ _ hb24
        clear s24 s25 hb24 h24
        have haE := sE _ _ haf11
        fail "go"
        refine ⟨true, rfl, ?_⟩
        fail "go"
        rename_i H26 g26 h26 s26
        have hoF := s26 _ _ ho11
        clear g26 sE hb25 haE
        generalize N1 / 16 / 250 / 16 = N2 at h26 ⊢
        have v0 := Int.emod_nonneg N2 (b := L.device + 2) (by omega)
        have v1 := Int.emod_lt_of_pos N2 (b := L.device + 2) (by omega)
        obtain ⟨k, hk⟩ := Int.eq_ofNat_of_zero_le v0
        rw [hk] at v1 ⊢
        clear hk v0
        refine g_listL (SqL.of hoF) ?_
        fail "newM"
        rename_i ch2 H27 n27 g27 m27 h27 s27
        have hb27 := g27.g.same _ _ h26
        have chb2 : ch2 ∉ [b2] := by rw [List.mem_singleton]; exact (ne_of_none h26 n27).symm
        clear g27 s26 h26 hoF
        fail "go"
        rename_i H28 g28 h28 s28
        have hc28 := g28.g.hh _ _ chb2 h27
        clear g28 h27 hb27 s27
        refine ⟨by fail "sz", ?_⟩
        fail "newM"
        rename_i q5 H29 n29 g29 m29 h29 s29
        have hb29 := g29.g.same _ _ h28
        have hc29 := g29.g.same _ _ hc28
        have q5b : q5 ∉ [b2] := by rw [List.mem_singleton]; exact (ne_of_none h28 n29).symm
        clear g29 s28 h28 hc28
        fail "go"
        rename_i H30 g30 h30 s30
        have h30q := g30.g.hh _ _ q5b h29
        have hc30 := g30.g.hh _ _ chb2 hc29
        clear g30 h29 hc29 hb29 s29 h30
        have w0 : 0 ≤ N2 / (L.device + 2) % 254 := Int.emod_nonneg _ (by decide)
        obtain ⟨w2, hw2, hw1⟩ := pick01 (x := 2 + N2 / (L.device + 2) % 254) (j := N2 / (L.device + 2) / 254 % 2) ⟨Int.emod_nonneg _ (by decide), Int.emod_lt_of_pos _ (by decide)⟩ (by omega)
        refine g_ixL (SqL.of h30q) hw2 ?_
        have ha30 := s30 _ _ haf11
        obtain ⟨z, hz⟩ : ∃ z : Nat, 21 + L.oct = (z : Int) := ⟨(21 + L.oct).toNat, by omega⟩
        have zb : 0 < z ∧ z ≤ 300 := by omega
        fail "go"
        have clN : L.device + 2 = ((cs.length : Nat) : Int) := clen.symm
        have kc : k < cs.length := by omega
        have kzz : k * z + z ≤ cs.length * z := by
          have := Nat.mul_le_mul_right z (show k + 1 ≤ cs.length by omega)
          rw [Nat.add_mul, Nat.one_mul] at this
          exact this
        have olen2 : o.length = 16 + cs.length * z := by
          have e : (o.length : Int) = ((16 + cs.length * z : Nat) : Int) := by
            rw [olen, clN, hz]
            push_cast
            rfl
          exact_mod_cast e
        have ek : (16 : Int) + (k : Int) * (21 + L.oct) = ((16 + k * z : Nat) : Int) := by
          rw [hz]
          push_cast
          rfl
        have ul : us.length = cs.length := by have := dpAll_len du11; simpa using this
        obtain ⟨c, hc⟩ : ∃ c, cs[k]? = some c := ⟨cs[k], List.getElem?_eq_getElem kc⟩
        have hrk : (cs.map (cellOcts L))[k]? = some (cellOcts L c) := by rw [List.getElem?_map, hc]; rfl
        have cxc := cx c (List.mem_of_getElem? hc)
        have him2 := img_set (w := w2) him hz zb.1 hrk
        rw [ek]
        refine g_setL (j := 16 + k * z) hc30 (ixN_nat (by rw [List.length_map, olen2]; omega)) ?_
        fail "mut"
        rename_i H31 g31 h31 s31
        rw [← List.map_set] at h31
        have hD31 := s31 _ _ hD11
        clear g31 hc30 h30q s30 ha30
        fail "go"
        refine g_slL (SqL.of hD31) ?_
        rw [cut_hi (hi := k) (by omega)]
        fail "newM"
        rename_i q6 H32 n32 g32 m32 h32 s32
        have h312 := g32.g.same _ _ h31
        clear h31 s31
        fail "go"
        refine ⟨by fail "sz", ?_⟩
        fail "newM"
        rename_i q7 H33 n33 g33 m33 h33 s33
        refine g_cat (a := q6) (g33.g.same _ _ h32) h33 (by rw [List.length_take]; fail "sz") ?_
        fail "newM"
        rename_i q8 H34 n34 g34 m34 h34 s34
        have h314 := g34.g.same _ _ (g33.g.same _ _ h312)
        have hD34 := s34 _ _ hD11
        clear g32 g33 g34 h32 h33 s32 s33 h312 hD31
        fail "go"
        refine g_slL (SqL.of hD34) ?_
        rw [show (k : Int) + 1 = ((k + 1 : Nat) : Int) by push_cast; rfl, cut_lo (lo := k + 1) (by omega)]
        fail "newM"
        rename_i q9 H35 n35 g35 m35 h35 s35
        refine g_cat (a := q8) (g35.g.same _ _ h34) h35 (by rw [List.length_append, List.length_take, List.length_drop, List.length_singleton]; fail "sz") ?_
        rw [show us.take k ++ [V.non] ++ us.drop (k + 1) = us.set k .non by rw [List.set_eq_take_append_cons_drop, if_pos (by omega), List.append_assoc]; rfl]
        fail "newM"
        rename_i qA H36 n36 g36 m36 h36 s36
        have h316 := g36.g.same _ _ (g35.g.same _ _ h314)
        have du36 : DpAll K H36 (us.set k .non) ((cs.set k none).map cellD) := by
          rw [List.map_set]
          exact dpAll_set k (dpAll_mono s36 du11) .non
        refine ⟨ch2, p, qA, L, seat, _, _, _, cs.set k none, rfl, ⟨_, s36 _ _ haf11⟩, hOk, ⟨by omega, by omega⟩, him2, SqL.of h316, by rw [List.length_set, List.length_set, List.length_map], ?_, SqL.of h36, du36, fun H37 s37 => ?_⟩
        · intro j' r c' hr hc'
          by_cases hj : j' = k
          · subst hj
            rw [List.getElem?_set_self (by omega)] at hc'
            rw [List.getElem?_set_self (by rw [List.length_map]; omega)] at hr
            cases hc'
            cases hr
            have l0 := cellOcts_len hOk cxc
            cases hco : cellOcts L c with
            | nil => rw [hco] at l0; simp at l0; omega
            | cons y ys => exact .inr ⟨w2, ys, by rw [List.set_cons_zero], hw1, rfl⟩
          · rw [List.getElem?_set_ne (Ne.symm hj)] at hc' hr
            exact hrow j' r c' hr hc'
        · exact hq _
      · fail "go"
        refine g_ite (fun e5 => ?_) (fun e5 => ?_)
        · have i5 : i = 5 := by omega
          have w5 : (o.set i w).getD 5 0 = w := by
            rw [i5, List.getD_eq_getElem?_getD, List.getElem?_set_self (by omega)]; rfl
          fail "go"
          refine g_ixL (SqL.of h16) ((show atI _ ((5 : Nat) : Int) = _ from atI_getD (by rw [List.length_set]; omega)).trans (by rw [w5])) ?_
          fail "go"
          refine g_ite (fun e3 => ?_) (fun e3 => ?_)
          · fail "go"
            refine g_ixL (SqL.of h16) ((show atI _ ((5 : Nat) : Int) = _ from atI_getD (by rw [List.length_set]; omega)).trans (by rw [w5])) ?_
            have him5 : ImgOk L w (o.set i w) (cs.map (cellOcts L)) := ⟨by
              rw [him.eq, i5, List.set_append_left _ _ (by rw [headOct_len]; decide)]; rfl, hw.2, e3, him.len, him.each⟩
            fail "go"
            refine ⟨ch, p, D, L, w, o.set i w, cs.map (cellOcts L), us, cs, rfl, ⟨_, s16 _ _ haf11⟩, hOk, ⟨by omega, by omega⟩, him5, SqL.of h16, by rw [List.length_map], hrow, SqL.of (s16 _ _ hD11), dpAll_mono s16 du11, fun H17 s17 => ?_⟩
            fail "go"
            refine ⟨true, rfl, ?_⟩
            fail "go"
            exact rest _ _ ⟨rfl, s17⟩
          · fail "go"
            refine ⟨ch, o.set i w, rfl, SqL.of h16, lset, bad (fun _ => e3), fun H17 s17 => ?_⟩
            fail "go"
            refine ⟨true, rfl, ?_⟩
            fail "go"
            exact rest _ _ ⟨rfl, s17⟩
        · fail "go"
          refine ⟨ch, o.set i w, rfl, SqL.of h16, lset, bad (fun z => absurd (by rw [z]; rfl) e5), fun H17 s17 => ?_⟩
          fail "go"
          refine ⟨true, rfl, ?_⟩
          fail "go"
          exact rest _ _ ⟨rfl, s17⟩
end
theorem all_mk {l : PySem.W.OpenLaw} {w : World} {K : PySem.W.Frag} {h : Heap} {mg : Str → Option Value} {fa C_Layout C_Device C_Side C_InvalidImage C_InvalidFormat C_SegmentError f__law_number f__law_take f_parts_of f_Layout___init__ f__law_layout f_Device___init__ f_Side___init__ f__law_block f__law_low f__law_octets f__law_check f__law_sealed f__law_cell f_Device__count_command f_Device_write f_number_octets f_summary_octets f_bits_of f_pairs_of f_body_octets f_block_octets f_check_of f_sealed f_Side_write f_side_head f_cell_size f_cell_octets f_Device_read f_write_side f_number_of f_layout_of_side f_numbers_of f_used_of f_read_body f_read_block f_read_cell f_read_side f_Device_sure_blocks f_Device_was_cut f_Device_pending f_Side_pending f__law_reads f__law_image f_InvalidImage___init__ f__law_refuses f_law : Addr} {t_MOST_SEGMENTS t_LEAST_SEGMENTS t_MOST_BLOCKS t_LEAST_BLOCKS t_HEAD_OCTETS t_SLOTS t_LABELS t_COMMIT t_MOVE t_DATA t_SPARE t_FACTOR t_PRIME t_HEAD t_CHECK t_SEATS t_MOST_ACTION t_HEADER t_PART : Tok}
    {od0 an0 : Option Addr} {sl0 : Array (Option Value)} {oc0 kV0 dc0 pm0 cd0 ct0 : Value}
    {od1 an1 : Option Addr} {sl1 : Array (Option Value)} {oc1 kV1 dc1 pm1 cd1 ct1 : Value}
    {od2 an2 : Option Addr} {sl2 : Array (Option Value)} {oc2 kV2 dc2 pm2 cd2 ct2 : Value}
    {od3 an3 : Option Addr} {sl3 : Array (Option Value)} {oc3 kV3 dc3 pm3 cd3 ct3 : Value}
    {od4 an4 : Option Addr} {sl4 : Array (Option Value)} {oc4 kV4 dc4 pm4 cd4 ct4 : Value}
    {od5 an5 : Option Addr} {sl5 : Array (Option Value)} {oc5 kV5 dc5 pm5 cd5 ct5 : Value}
    {dT5 : Addr} {dO5 : Option Addr} {dN5 : Nat} {dS5 : Array (Option Value)}
    {od6 an6 : Option Addr} {sl6 : Array (Option Value)} {oc6 kV6 dc6 pm6 cd6 ct6 : Value}
    {dT6 : Addr} {dO6 : Option Addr} {dN6 : Nat} {dS6 : Array (Option Value)}
    {od7 an7 : Option Addr} {sl7 : Array (Option Value)} {oc7 kV7 dc7 pm7 cd7 ct7 : Value}
    {od8 an8 : Option Addr} {sl8 : Array (Option Value)} {oc8 kV8 dc8 pm8 cd8 ct8 : Value}
    {od9 an9 : Option Addr} {sl9 : Array (Option Value)} {oc9 kV9 dc9 pm9 cd9 ct9 : Value}
    {od10 an10 : Option Addr} {sl10 : Array (Option Value)} {oc10 kV10 dc10 pm10 cd10 ct10 : Value}
    {od11 an11 : Option Addr} {sl11 : Array (Option Value)} {oc11 kV11 dc11 pm11 cd11 ct11 : Value}
    {od12 an12 : Option Addr} {sl12 : Array (Option Value)} {oc12 kV12 dc12 pm12 cd12 ct12 : Value}
    {od13 an13 : Option Addr} {sl13 : Array (Option Value)} {oc13 kV13 dc13 pm13 cd13 ct13 : Value}
    {od14 an14 : Option Addr} {sl14 : Array (Option Value)} {oc14 kV14 dc14 pm14 cd14 ct14 : Value}
    {od15 an15 : Option Addr} {sl15 : Array (Option Value)} {oc15 kV15 dc15 pm15 cd15 ct15 : Value}
    {od16 an16 : Option Addr} {sl16 : Array (Option Value)} {oc16 kV16 dc16 pm16 cd16 ct16 : Value}
    {od17 an17 : Option Addr} {sl17 : Array (Option Value)} {oc17 kV17 dc17 pm17 cd17 ct17 : Value}
    {od18 an18 : Option Addr} {sl18 : Array (Option Value)} {oc18 kV18 dc18 pm18 cd18 ct18 : Value}
    {od19 an19 : Option Addr} {sl19 : Array (Option Value)} {oc19 kV19 dc19 pm19 cd19 ct19 : Value}
    {od20 an20 : Option Addr} {sl20 : Array (Option Value)} {oc20 kV20 dc20 pm20 cd20 ct20 : Value}
    {od21 an21 : Option Addr} {sl21 : Array (Option Value)} {oc21 kV21 dc21 pm21 cd21 ct21 : Value}
    {od22 an22 : Option Addr} {sl22 : Array (Option Value)} {oc22 kV22 dc22 pm22 cd22 ct22 : Value}
    {od23 an23 : Option Addr} {sl23 : Array (Option Value)} {oc23 kV23 dc23 pm23 cd23 ct23 : Value}
    {od24 an24 : Option Addr} {sl24 : Array (Option Value)} {oc24 kV24 dc24 pm24 cd24 ct24 : Value}
    {od25 an25 : Option Addr} {sl25 : Array (Option Value)} {oc25 kV25 dc25 pm25 cd25 ct25 : Value}
    {od26 an26 : Option Addr} {sl26 : Array (Option Value)} {oc26 kV26 dc26 pm26 cd26 ct26 : Value}
    {od27 an27 : Option Addr} {sl27 : Array (Option Value)} {oc27 kV27 dc27 pm27 cd27 ct27 : Value}
    {od28 an28 : Option Addr} {sl28 : Array (Option Value)} {oc28 kV28 dc28 pm28 cd28 ct28 : Value}
    {od29 an29 : Option Addr} {sl29 : Array (Option Value)} {oc29 kV29 dc29 pm29 cd29 ct29 : Value}
    {od30 an30 : Option Addr} {sl30 : Array (Option Value)} {oc30 kV30 dc30 pm30 cd30 ct30 : Value}
    {od31 an31 : Option Addr} {sl31 : Array (Option Value)} {oc31 kV31 dc31 pm31 cd31 ct31 : Value}
    {od32 an32 : Option Addr} {sl32 : Array (Option Value)} {oc32 kV32 dc32 pm32 cd32 ct32 : Value}
    {od33 an33 : Option Addr} {sl33 : Array (Option Value)} {oc33 kV33 dc33 pm33 cd33 ct33 : Value}
    {od34 an34 : Option Addr} {sl34 : Array (Option Value)} {oc34 kV34 dc34 pm34 cd34 ct34 : Value}
    {od35 an35 : Option Addr} {sl35 : Array (Option Value)} {oc35 kV35 dc35 pm35 cd35 ct35 : Value}
    {od36 an36 : Option Addr} {sl36 : Array (Option Value)} {oc36 kV36 dc36 pm36 cd36 ct36 : Value}
    {od37 an37 : Option Addr} {sl37 : Array (Option Value)} {oc37 kV37 dc37 pm37 cd37 ct37 : Value}
    {od38 an38 : Option Addr} {sl38 : Array (Option Value)} {oc38 kV38 dc38 pm38 cd38 ct38 : Value}
    {od39 an39 : Option Addr} {sl39 : Array (Option Value)} {oc39 kV39 dc39 pm39 cd39 ct39 : Value}
    {od40 an40 : Option Addr} {sl40 : Array (Option Value)} {oc40 kV40 dc40 pm40 cd40 ct40 : Value}
    {od41 an41 : Option Addr} {sl41 : Array (Option Value)} {oc41 kV41 dc41 pm41 cd41 ct41 : Value}
    {od42 an42 : Option Addr} {sl42 : Array (Option Value)} {oc42 kV42 dc42 pm42 cd42 ct42 : Value}
    {co_InvalidImage ce_InvalidImage : Addr} {od43 an43 : Option Addr} {sl43 : Array (Option Value)} {oc43 kV43 dc43 pm43 ct43 : Value}
    {zl_InvalidImage zk_InvalidImage : Value} {zd_InvalidImage ze_InvalidImage : Option Addr} {zs_InvalidImage zt_InvalidImage : Array (Option Value)} {zv_InvalidImage : Array Value} {zf_InvalidImage : Str} {zg_InvalidImage : Tok} {zc_InvalidImage : ClassData}
    {en_InvalidImage eq_InvalidImage : Str} {eN_InvalidImage : Addr} {eb_InvalidImage em_InvalidImage : List Value} {es_InvalidImage : List Str} {et_InvalidImage : List Value} {ea_InvalidImage : Bool} {ecl_InvalidImage : Option Bool} {ed_InvalidImage : Option Addr} {e0_InvalidImage e1_InvalidImage e2_InvalidImage e3_InvalidImage e5_InvalidImage : Option Value}
    {od44 an44 : Option Addr} {sl44 : Array (Option Value)} {oc44 kV44 dc44 pm44 cd44 ct44 : Value}
    {od45 an45 : Option Addr} {sl45 : Array (Option Value)} {oc45 kV45 dc45 pm45 cd45 ct45 : Value}
    {c_LETTERS_labels : Addr} {od_LETTERS_labels : Option Addr} {n_LETTERS_labels : Nat} {sl_LETTERS_labels : Array (Option Value)} {t_LETTERS_labels_0 t_LETTERS_labels_1 t_LETTERS_labels_2 t_LETTERS_labels_3 : Tok}
    (X : K.In h) (G : h.Ns mainGlobals mg) (hfa : mg "law" = some (.ref fa))
    (a0 : PySem.W.nsIn K mainGlobals "_law_number" = some (some (.ref f__law_number)))
    (l0 : K.lookup f__law_number = some ⟨oc0, od0, .func (PySem.W.fnOf "_law_number" "_law_number" (defArgs s__law_number) (defBody s__law_number) (defScope s__law_number) .none kV0 dc0 pm0 an0 cd0 ct0), sl0⟩)
    (c0 : PySem.W.codeIn K cd0 "_law_number" = true)
    (k0 : PySem.W.keepIn K (.ref f__law_number) = true)
    (a1 : PySem.W.nsIn K mainGlobals "_law_take" = some (some (.ref f__law_take)))
    (l1 : K.lookup f__law_take = some ⟨oc1, od1, .func (PySem.W.fnOf "_law_take" "_law_take" (defArgs s__law_take) (defBody s__law_take) (defScope s__law_take) .none kV1 dc1 pm1 an1 cd1 ct1), sl1⟩)
    (c1 : PySem.W.codeIn K cd1 "_law_take" = true)
    (k1 : PySem.W.keepIn K (.ref f__law_take) = true)
    (a2 : PySem.W.nsIn K mainGlobals "parts_of" = some (some (.ref f_parts_of)))
    (l2 : K.lookup f_parts_of = some ⟨oc2, od2, .func (PySem.W.fnOf "parts_of" "parts_of" (defArgs s_parts_of) (defBody s_parts_of) (defScope s_parts_of) .none kV2 dc2 pm2 an2 cd2 ct2), sl2⟩)
    (c2 : PySem.W.codeIn K cd2 "parts_of" = true)
    (k2 : PySem.W.keepIn K (.ref f_parts_of) = true)
    (a3 : PySem.W.findIn K (.ref C_Layout) "__init__" = some (some (.ref f_Layout___init__)))
    (i3 : PySem.W.isFn K (.ref f_Layout___init__) = true)
    (l3 : K.lookup f_Layout___init__ = some ⟨oc3, od3, .func (PySem.W.fnOf "__init__" "Layout.__init__" (defArgs s_Layout___init__) (defBody s_Layout___init__) (defScope s_Layout___init__) .none kV3 dc3 pm3 an3 cd3 ct3), sl3⟩)
    (c3 : PySem.W.codeIn K cd3 "Layout.__init__" = true)
    (k3 : PySem.W.keepIn K (.ref f_Layout___init__) = true)
    (a4 : PySem.W.nsIn K mainGlobals "_law_layout" = some (some (.ref f__law_layout)))
    (l4 : K.lookup f__law_layout = some ⟨oc4, od4, .func (PySem.W.fnOf "_law_layout" "_law_layout" (defArgs s__law_layout) (defBody s__law_layout) (defScope s__law_layout) .none kV4 dc4 pm4 an4 cd4 ct4), sl4⟩)
    (c4 : PySem.W.codeIn K cd4 "_law_layout" = true)
    (k4 : PySem.W.keepIn K (.ref f__law_layout) = true)
    (a5 : PySem.W.findIn K (.ref C_Device) "__init__" = some (some (.ref f_Device___init__)))
    (i5 : PySem.W.isFn K (.ref f_Device___init__) = true)
    (l5 : K.lookup f_Device___init__ = some ⟨oc5, od5, .func (PySem.W.fnOf "__init__" "Device.__init__" (defArgs s_Device___init__) (defBody s_Device___init__) (defScope s_Device___init__) (.ref dT5) kV5 dc5 pm5 an5 cd5 ct5), sl5⟩)
    (dl5 : K.lookup dT5 = some ⟨.type "tuple", dO5, .seq #[.none] dN5, dS5⟩)
    (c5 : PySem.W.codeIn K cd5 "Device.__init__" = true)
    (k5 : PySem.W.keepIn K (.ref f_Device___init__) = true)
    (a6 : PySem.W.findIn K (.ref C_Side) "__init__" = some (some (.ref f_Side___init__)))
    (i6 : PySem.W.isFn K (.ref f_Side___init__) = true)
    (l6 : K.lookup f_Side___init__ = some ⟨oc6, od6, .func (PySem.W.fnOf "__init__" "Side.__init__" (defArgs s_Side___init__) (defBody s_Side___init__) (defScope s_Side___init__) (.ref dT6) kV6 dc6 pm6 an6 cd6 ct6), sl6⟩)
    (dl6 : K.lookup dT6 = some ⟨.type "tuple", dO6, .seq #[.none] dN6, dS6⟩)
    (c6 : PySem.W.codeIn K cd6 "Side.__init__" = true)
    (k6 : PySem.W.keepIn K (.ref f_Side___init__) = true)
    (a7 : PySem.W.nsIn K mainGlobals "_law_block" = some (some (.ref f__law_block)))
    (l7 : K.lookup f__law_block = some ⟨oc7, od7, .func (PySem.W.fnOf "_law_block" "_law_block" (defArgs s__law_block) (defBody s__law_block) (defScope s__law_block) .none kV7 dc7 pm7 an7 cd7 ct7), sl7⟩)
    (c7 : PySem.W.codeIn K cd7 "_law_block" = true)
    (k7 : PySem.W.keepIn K (.ref f__law_block) = true)
    (a8 : PySem.W.nsIn K mainGlobals "_law_low" = some (some (.ref f__law_low)))
    (l8 : K.lookup f__law_low = some ⟨oc8, od8, .func (PySem.W.fnOf "_law_low" "_law_low" (defArgs s__law_low) (defBody s__law_low) (defScope s__law_low) .none kV8 dc8 pm8 an8 cd8 ct8), sl8⟩)
    (c8 : PySem.W.codeIn K cd8 "_law_low" = true)
    (k8 : PySem.W.keepIn K (.ref f__law_low) = true)
    (a9 : PySem.W.nsIn K mainGlobals "_law_octets" = some (some (.ref f__law_octets)))
    (l9 : K.lookup f__law_octets = some ⟨oc9, od9, .func (PySem.W.fnOf "_law_octets" "_law_octets" (defArgs s__law_octets) (defBody s__law_octets) (defScope s__law_octets) .none kV9 dc9 pm9 an9 cd9 ct9), sl9⟩)
    (c9 : PySem.W.codeIn K cd9 "_law_octets" = true)
    (k9 : PySem.W.keepIn K (.ref f__law_octets) = true)
    (a10 : PySem.W.nsIn K mainGlobals "_law_check" = some (some (.ref f__law_check)))
    (l10 : K.lookup f__law_check = some ⟨oc10, od10, .func (PySem.W.fnOf "_law_check" "_law_check" (defArgs s__law_check) (defBody s__law_check) (defScope s__law_check) .none kV10 dc10 pm10 an10 cd10 ct10), sl10⟩)
    (c10 : PySem.W.codeIn K cd10 "_law_check" = true)
    (k10 : PySem.W.keepIn K (.ref f__law_check) = true)
    (a11 : PySem.W.nsIn K mainGlobals "_law_sealed" = some (some (.ref f__law_sealed)))
    (l11 : K.lookup f__law_sealed = some ⟨oc11, od11, .func (PySem.W.fnOf "_law_sealed" "_law_sealed" (defArgs s__law_sealed) (defBody s__law_sealed) (defScope s__law_sealed) .none kV11 dc11 pm11 an11 cd11 ct11), sl11⟩)
    (c11 : PySem.W.codeIn K cd11 "_law_sealed" = true)
    (k11 : PySem.W.keepIn K (.ref f__law_sealed) = true)
    (a12 : PySem.W.nsIn K mainGlobals "_law_cell" = some (some (.ref f__law_cell)))
    (l12 : K.lookup f__law_cell = some ⟨oc12, od12, .func (PySem.W.fnOf "_law_cell" "_law_cell" (defArgs s__law_cell) (defBody s__law_cell) (defScope s__law_cell) .none kV12 dc12 pm12 an12 cd12 ct12), sl12⟩)
    (c12 : PySem.W.codeIn K cd12 "_law_cell" = true)
    (k12 : PySem.W.keepIn K (.ref f__law_cell) = true)
    (a13 : PySem.W.findIn K (.ref C_Device) "_count_command" = some (some (.ref f_Device__count_command)))
    (i13 : PySem.W.isFn K (.ref f_Device__count_command) = true)
    (l13 : K.lookup f_Device__count_command = some ⟨oc13, od13, .func (PySem.W.fnOf "_count_command" "Device._count_command" (defArgs s_Device__count_command) (defBody s_Device__count_command) (defScope s_Device__count_command) .none kV13 dc13 pm13 an13 cd13 ct13), sl13⟩)
    (c13 : PySem.W.codeIn K cd13 "Device._count_command" = true)
    (k13 : PySem.W.keepIn K (.ref f_Device__count_command) = true)
    (a14 : PySem.W.findIn K (.ref C_Device) "write" = some (some (.ref f_Device_write)))
    (i14 : PySem.W.isFn K (.ref f_Device_write) = true)
    (l14 : K.lookup f_Device_write = some ⟨oc14, od14, .func (PySem.W.fnOf "write" "Device.write" (defArgs s_Device_write) (defBody s_Device_write) (defScope s_Device_write) .none kV14 dc14 pm14 an14 cd14 ct14), sl14⟩)
    (c14 : PySem.W.codeIn K cd14 "Device.write" = true)
    (k14 : PySem.W.keepIn K (.ref f_Device_write) = true)
    (a15 : PySem.W.nsIn K mainGlobals "number_octets" = some (some (.ref f_number_octets)))
    (l15 : K.lookup f_number_octets = some ⟨oc15, od15, .func (PySem.W.fnOf "number_octets" "number_octets" (defArgs s_number_octets) (defBody s_number_octets) (defScope s_number_octets) .none kV15 dc15 pm15 an15 cd15 ct15), sl15⟩)
    (c15 : PySem.W.codeIn K cd15 "number_octets" = true)
    (k15 : PySem.W.keepIn K (.ref f_number_octets) = true)
    (a16 : PySem.W.nsIn K mainGlobals "summary_octets" = some (some (.ref f_summary_octets)))
    (l16 : K.lookup f_summary_octets = some ⟨oc16, od16, .func (PySem.W.fnOf "summary_octets" "summary_octets" (defArgs s_summary_octets) (defBody s_summary_octets) (defScope s_summary_octets) .none kV16 dc16 pm16 an16 cd16 ct16), sl16⟩)
    (c16 : PySem.W.codeIn K cd16 "summary_octets" = true)
    (k16 : PySem.W.keepIn K (.ref f_summary_octets) = true)
    (a17 : PySem.W.nsIn K mainGlobals "bits_of" = some (some (.ref f_bits_of)))
    (l17 : K.lookup f_bits_of = some ⟨oc17, od17, .func (PySem.W.fnOf "bits_of" "bits_of" (defArgs s_bits_of) (defBody s_bits_of) (defScope s_bits_of) .none kV17 dc17 pm17 an17 cd17 ct17), sl17⟩)
    (c17 : PySem.W.codeIn K cd17 "bits_of" = true)
    (k17 : PySem.W.keepIn K (.ref f_bits_of) = true)
    (a18 : PySem.W.nsIn K mainGlobals "pairs_of" = some (some (.ref f_pairs_of)))
    (l18 : K.lookup f_pairs_of = some ⟨oc18, od18, .func (PySem.W.fnOf "pairs_of" "pairs_of" (defArgs s_pairs_of) (defBody s_pairs_of) (defScope s_pairs_of) .none kV18 dc18 pm18 an18 cd18 ct18), sl18⟩)
    (c18 : PySem.W.codeIn K cd18 "pairs_of" = true)
    (k18 : PySem.W.keepIn K (.ref f_pairs_of) = true)
    (a19 : PySem.W.nsIn K mainGlobals "body_octets" = some (some (.ref f_body_octets)))
    (l19 : K.lookup f_body_octets = some ⟨oc19, od19, .func (PySem.W.fnOf "body_octets" "body_octets" (defArgs s_body_octets) (defBody s_body_octets) (defScope s_body_octets) .none kV19 dc19 pm19 an19 cd19 ct19), sl19⟩)
    (c19 : PySem.W.codeIn K cd19 "body_octets" = true)
    (k19 : PySem.W.keepIn K (.ref f_body_octets) = true)
    (a20 : PySem.W.nsIn K mainGlobals "block_octets" = some (some (.ref f_block_octets)))
    (l20 : K.lookup f_block_octets = some ⟨oc20, od20, .func (PySem.W.fnOf "block_octets" "block_octets" (defArgs s_block_octets) (defBody s_block_octets) (defScope s_block_octets) .none kV20 dc20 pm20 an20 cd20 ct20), sl20⟩)
    (c20 : PySem.W.codeIn K cd20 "block_octets" = true)
    (k20 : PySem.W.keepIn K (.ref f_block_octets) = true)
    (a21 : PySem.W.nsIn K mainGlobals "check_of" = some (some (.ref f_check_of)))
    (l21 : K.lookup f_check_of = some ⟨oc21, od21, .func (PySem.W.fnOf "check_of" "check_of" (defArgs s_check_of) (defBody s_check_of) (defScope s_check_of) .none kV21 dc21 pm21 an21 cd21 ct21), sl21⟩)
    (c21 : PySem.W.codeIn K cd21 "check_of" = true)
    (k21 : PySem.W.keepIn K (.ref f_check_of) = true)
    (a22 : PySem.W.nsIn K mainGlobals "sealed" = some (some (.ref f_sealed)))
    (l22 : K.lookup f_sealed = some ⟨oc22, od22, .func (PySem.W.fnOf "sealed" "sealed" (defArgs s_sealed) (defBody s_sealed) (defScope s_sealed) .none kV22 dc22 pm22 an22 cd22 ct22), sl22⟩)
    (c22 : PySem.W.codeIn K cd22 "sealed" = true)
    (k22 : PySem.W.keepIn K (.ref f_sealed) = true)
    (a23 : PySem.W.findIn K (.ref C_Side) "write" = some (some (.ref f_Side_write)))
    (i23 : PySem.W.isFn K (.ref f_Side_write) = true)
    (l23 : K.lookup f_Side_write = some ⟨oc23, od23, .func (PySem.W.fnOf "write" "Side.write" (defArgs s_Side_write) (defBody s_Side_write) (defScope s_Side_write) .none kV23 dc23 pm23 an23 cd23 ct23), sl23⟩)
    (c23 : PySem.W.codeIn K cd23 "Side.write" = true)
    (k23 : PySem.W.keepIn K (.ref f_Side_write) = true)
    (a24 : PySem.W.nsIn K mainGlobals "side_head" = some (some (.ref f_side_head)))
    (l24 : K.lookup f_side_head = some ⟨oc24, od24, .func (PySem.W.fnOf "side_head" "side_head" (defArgs s_side_head) (defBody s_side_head) (defScope s_side_head) .none kV24 dc24 pm24 an24 cd24 ct24), sl24⟩)
    (c24 : PySem.W.codeIn K cd24 "side_head" = true)
    (k24 : PySem.W.keepIn K (.ref f_side_head) = true)
    (a25 : PySem.W.nsIn K mainGlobals "cell_size" = some (some (.ref f_cell_size)))
    (l25 : K.lookup f_cell_size = some ⟨oc25, od25, .func (PySem.W.fnOf "cell_size" "cell_size" (defArgs s_cell_size) (defBody s_cell_size) (defScope s_cell_size) .none kV25 dc25 pm25 an25 cd25 ct25), sl25⟩)
    (c25 : PySem.W.codeIn K cd25 "cell_size" = true)
    (k25 : PySem.W.keepIn K (.ref f_cell_size) = true)
    (a26 : PySem.W.nsIn K mainGlobals "cell_octets" = some (some (.ref f_cell_octets)))
    (l26 : K.lookup f_cell_octets = some ⟨oc26, od26, .func (PySem.W.fnOf "cell_octets" "cell_octets" (defArgs s_cell_octets) (defBody s_cell_octets) (defScope s_cell_octets) .none kV26 dc26 pm26 an26 cd26 ct26), sl26⟩)
    (c26 : PySem.W.codeIn K cd26 "cell_octets" = true)
    (k26 : PySem.W.keepIn K (.ref f_cell_octets) = true)
    (a27 : PySem.W.findIn K (.ref C_Device) "read" = some (some (.ref f_Device_read)))
    (i27 : PySem.W.isFn K (.ref f_Device_read) = true)
    (l27 : K.lookup f_Device_read = some ⟨oc27, od27, .func (PySem.W.fnOf "read" "Device.read" (defArgs s_Device_read) (defBody s_Device_read) (defScope s_Device_read) .none kV27 dc27 pm27 an27 cd27 ct27), sl27⟩)
    (c27 : PySem.W.codeIn K cd27 "Device.read" = true)
    (k27 : PySem.W.keepIn K (.ref f_Device_read) = true)
    (a28 : PySem.W.nsIn K mainGlobals "write_side" = some (some (.ref f_write_side)))
    (l28 : K.lookup f_write_side = some ⟨oc28, od28, .func (PySem.W.fnOf "write_side" "write_side" (defArgs s_write_side) (defBody s_write_side) (defScope s_write_side) .none kV28 dc28 pm28 an28 cd28 ct28), sl28⟩)
    (c28 : PySem.W.codeIn K cd28 "write_side" = true)
    (k28 : PySem.W.keepIn K (.ref f_write_side) = true)
    (a29 : PySem.W.nsIn K mainGlobals "number_of" = some (some (.ref f_number_of)))
    (l29 : K.lookup f_number_of = some ⟨oc29, od29, .func (PySem.W.fnOf "number_of" "number_of" (defArgs s_number_of) (defBody s_number_of) (defScope s_number_of) .none kV29 dc29 pm29 an29 cd29 ct29), sl29⟩)
    (c29 : PySem.W.codeIn K cd29 "number_of" = true)
    (k29 : PySem.W.keepIn K (.ref f_number_of) = true)
    (a30 : PySem.W.nsIn K mainGlobals "layout_of_side" = some (some (.ref f_layout_of_side)))
    (l30 : K.lookup f_layout_of_side = some ⟨oc30, od30, .func (PySem.W.fnOf "layout_of_side" "layout_of_side" (defArgs s_layout_of_side) (defBody s_layout_of_side) (defScope s_layout_of_side) .none kV30 dc30 pm30 an30 cd30 ct30), sl30⟩)
    (c30 : PySem.W.codeIn K cd30 "layout_of_side" = true)
    (k30 : PySem.W.keepIn K (.ref f_layout_of_side) = true)
    (a31 : PySem.W.nsIn K mainGlobals "numbers_of" = some (some (.ref f_numbers_of)))
    (l31 : K.lookup f_numbers_of = some ⟨oc31, od31, .func (PySem.W.fnOf "numbers_of" "numbers_of" (defArgs s_numbers_of) (defBody s_numbers_of) (defScope s_numbers_of) .none kV31 dc31 pm31 an31 cd31 ct31), sl31⟩)
    (c31 : PySem.W.codeIn K cd31 "numbers_of" = true)
    (k31 : PySem.W.keepIn K (.ref f_numbers_of) = true)
    (a32 : PySem.W.nsIn K mainGlobals "used_of" = some (some (.ref f_used_of)))
    (l32 : K.lookup f_used_of = some ⟨oc32, od32, .func (PySem.W.fnOf "used_of" "used_of" (defArgs s_used_of) (defBody s_used_of) (defScope s_used_of) .none kV32 dc32 pm32 an32 cd32 ct32), sl32⟩)
    (c32 : PySem.W.codeIn K cd32 "used_of" = true)
    (k32 : PySem.W.keepIn K (.ref f_used_of) = true)
    (a33 : PySem.W.nsIn K mainGlobals "read_body" = some (some (.ref f_read_body)))
    (l33 : K.lookup f_read_body = some ⟨oc33, od33, .func (PySem.W.fnOf "read_body" "read_body" (defArgs s_read_body) (defBody s_read_body) (defScope s_read_body) .none kV33 dc33 pm33 an33 cd33 ct33), sl33⟩)
    (c33 : PySem.W.codeIn K cd33 "read_body" = true)
    (k33 : PySem.W.keepIn K (.ref f_read_body) = true)
    (a34 : PySem.W.nsIn K mainGlobals "read_block" = some (some (.ref f_read_block)))
    (l34 : K.lookup f_read_block = some ⟨oc34, od34, .func (PySem.W.fnOf "read_block" "read_block" (defArgs s_read_block) (defBody s_read_block) (defScope s_read_block) .none kV34 dc34 pm34 an34 cd34 ct34), sl34⟩)
    (c34 : PySem.W.codeIn K cd34 "read_block" = true)
    (k34 : PySem.W.keepIn K (.ref f_read_block) = true)
    (a35 : PySem.W.nsIn K mainGlobals "read_cell" = some (some (.ref f_read_cell)))
    (l35 : K.lookup f_read_cell = some ⟨oc35, od35, .func (PySem.W.fnOf "read_cell" "read_cell" (defArgs s_read_cell) (defBody s_read_cell) (defScope s_read_cell) .none kV35 dc35 pm35 an35 cd35 ct35), sl35⟩)
    (c35 : PySem.W.codeIn K cd35 "read_cell" = true)
    (k35 : PySem.W.keepIn K (.ref f_read_cell) = true)
    (a36 : PySem.W.nsIn K mainGlobals "read_side" = some (some (.ref f_read_side)))
    (l36 : K.lookup f_read_side = some ⟨oc36, od36, .func (PySem.W.fnOf "read_side" "read_side" (defArgs s_read_side) (defBody s_read_side) (defScope s_read_side) .none kV36 dc36 pm36 an36 cd36 ct36), sl36⟩)
    (c36 : PySem.W.codeIn K cd36 "read_side" = true)
    (k36 : PySem.W.keepIn K (.ref f_read_side) = true)
    (a37 : PySem.W.findIn K (.ref C_Device) "sure_blocks" = some (some (.ref f_Device_sure_blocks)))
    (i37 : PySem.W.isFn K (.ref f_Device_sure_blocks) = true)
    (l37 : K.lookup f_Device_sure_blocks = some ⟨oc37, od37, .func (PySem.W.fnOf "sure_blocks" "Device.sure_blocks" (defArgs s_Device_sure_blocks) (defBody s_Device_sure_blocks) (defScope s_Device_sure_blocks) .none kV37 dc37 pm37 an37 cd37 ct37), sl37⟩)
    (c37 : PySem.W.codeIn K cd37 "Device.sure_blocks" = true)
    (k37 : PySem.W.keepIn K (.ref f_Device_sure_blocks) = true)
    (a38 : PySem.W.findIn K (.ref C_Device) "was_cut" = some (some (.ref f_Device_was_cut)))
    (i38 : PySem.W.isFn K (.ref f_Device_was_cut) = true)
    (l38 : K.lookup f_Device_was_cut = some ⟨oc38, od38, .func (PySem.W.fnOf "was_cut" "Device.was_cut" (defArgs s_Device_was_cut) (defBody s_Device_was_cut) (defScope s_Device_was_cut) .none kV38 dc38 pm38 an38 cd38 ct38), sl38⟩)
    (c38 : PySem.W.codeIn K cd38 "Device.was_cut" = true)
    (k38 : PySem.W.keepIn K (.ref f_Device_was_cut) = true)
    (a39 : PySem.W.findIn K (.ref C_Device) "pending" = some (some (.ref f_Device_pending)))
    (i39 : PySem.W.isFn K (.ref f_Device_pending) = true)
    (l39 : K.lookup f_Device_pending = some ⟨oc39, od39, .func (PySem.W.fnOf "pending" "Device.pending" (defArgs s_Device_pending) (defBody s_Device_pending) (defScope s_Device_pending) .none kV39 dc39 pm39 an39 cd39 ct39), sl39⟩)
    (c39 : PySem.W.codeIn K cd39 "Device.pending" = true)
    (k39 : PySem.W.keepIn K (.ref f_Device_pending) = true)
    (a40 : PySem.W.findIn K (.ref C_Side) "pending" = some (some (.ref f_Side_pending)))
    (i40 : PySem.W.isFn K (.ref f_Side_pending) = true)
    (l40 : K.lookup f_Side_pending = some ⟨oc40, od40, .func (PySem.W.fnOf "pending" "Side.pending" (defArgs s_Side_pending) (defBody s_Side_pending) (defScope s_Side_pending) .none kV40 dc40 pm40 an40 cd40 ct40), sl40⟩)
    (c40 : PySem.W.codeIn K cd40 "Side.pending" = true)
    (k40 : PySem.W.keepIn K (.ref f_Side_pending) = true)
    (a41 : PySem.W.nsIn K mainGlobals "_law_reads" = some (some (.ref f__law_reads)))
    (l41 : K.lookup f__law_reads = some ⟨oc41, od41, .func (PySem.W.fnOf "_law_reads" "_law_reads" (defArgs s__law_reads) (defBody s__law_reads) (defScope s__law_reads) .none kV41 dc41 pm41 an41 cd41 ct41), sl41⟩)
    (c41 : PySem.W.codeIn K cd41 "_law_reads" = true)
    (k41 : PySem.W.keepIn K (.ref f__law_reads) = true)
    (a42 : PySem.W.nsIn K mainGlobals "_law_image" = some (some (.ref f__law_image)))
    (l42 : K.lookup f__law_image = some ⟨oc42, od42, .func (PySem.W.fnOf "_law_image" "_law_image" (defArgs s__law_image) (defBody s__law_image) (defScope s__law_image) .none kV42 dc42 pm42 an42 cd42 ct42), sl42⟩)
    (c42 : PySem.W.codeIn K cd42 "_law_image" = true)
    (k42 : PySem.W.keepIn K (.ref f__law_image) = true)
    (iC_InvalidImage : PySem.W.findIn K (.ref C_InvalidImage) "__init__" = some (some (.ref f_InvalidImage___init__)))
    (tI_InvalidImage : PySem.W.typeIn K (.ref f_InvalidImage___init__) = some (.type "function"))
    (l43 : K.lookup f_InvalidImage___init__ = some ⟨oc43, od43, .func (PySem.W.fnX "__init__" "InvalidImage.__init__" (defArgs s_InvalidImage___init__) (defBody s_InvalidImage___init__) (defScope s_InvalidImage___init__) [("__class__", ce_InvalidImage)] .none kV43 dc43 pm43 an43 (.ref co_InvalidImage) ct43), sl43⟩)
    (c43 : PySem.W.codeIn K (.ref co_InvalidImage) "InvalidImage.__init__" = true)
    (z1_InvalidImage : K.lookup ce_InvalidImage = some ⟨zl_InvalidImage, zd_InvalidImage, .cell (some (.ref C_InvalidImage)), zs_InvalidImage⟩)
    (z2_InvalidImage : K.lookup co_InvalidImage = some ⟨zk_InvalidImage, ze_InvalidImage, .fields zv_InvalidImage, zt_InvalidImage⟩)
    (z3_InvalidImage : zv_InvalidImage[2]? = some (.str zf_InvalidImage zg_InvalidImage))
    (z4_InvalidImage : ((l.prog.main.file : Str) == zf_InvalidImage) = true)
    (z5_InvalidImage : (l.prog.main.scope.names.lookup ("super" : Str)).isSome = false)
    (z6_InvalidImage : PySem.W.nsIn K mainGlobals "super" = some none)
    (z7_InvalidImage : PySem.W.clsIn K C_InvalidImage = some zc_InvalidImage)
    (z8_InvalidImage : PySem.W.mroIn K C_InvalidImage (.ref C_InvalidImage) = some true)
    (z9_InvalidImage : PySem.W.nsIn K cStatics "thirdparty.any" = some none)
    (y1_InvalidImage : PySem.W.ks_superIn K C_InvalidImage C_InvalidImage "__init__" = some (some (.builtin "ValueError.__init__")))
    (y2_InvalidImage : PySem.W.subIn K (.ref C_InvalidImage) (.type "ValueError") = some true)
    (y3_InvalidImage : K.lookup C_InvalidImage = some (excClassObj en_InvalidImage eq_InvalidImage C_InvalidImage eN_InvalidImage eb_InvalidImage em_InvalidImage true es_InvalidImage et_InvalidImage ea_InvalidImage ecl_InvalidImage ed_InvalidImage e0_InvalidImage e1_InvalidImage e2_InvalidImage e3_InvalidImage e5_InvalidImage "ValueError.__new__"))
    (y4_InvalidImage : PySem.HandSPX.refsVE em_InvalidImage = true)
    (y5_InvalidImage : PySem.W.findIn K (.ref C_InvalidImage) "__setattr__" = some (some (.builtin "object.__setattr__")))
    (y6_InvalidImage : PySem.W.subIn K (.ref C_InvalidImage) (.type "BaseException") = some true)
    (y7_InvalidImage : PySem.W.typeIn K (.ref C_InvalidImage) = some (.type "type"))
    (y8_InvalidImage : PySem.W.keepIn K (.ref C_InvalidImage) = true)
    (w1_InvalidImage : PySem.W.findIn K (.ref C_InvalidImage) "__getattribute__" = some (some (.builtin "BaseException.__getattribute__")))
    (w2_InvalidImage : PySem.W.findIn K (.ref C_InvalidImage) "__getattr__" = some none)
    (w3_InvalidImage : PySem.W.hasDictIn K C_InvalidImage = true)
    (a44 : PySem.W.nsIn K mainGlobals "_law_refuses" = some (some (.ref f__law_refuses)))
    (l44 : K.lookup f__law_refuses = some ⟨oc44, od44, .func (PySem.W.fnOf "_law_refuses" "_law_refuses" (defArgs s__law_refuses) (defBody s__law_refuses) (defScope s__law_refuses) .none kV44 dc44 pm44 an44 cd44 ct44), sl44⟩)
    (c44 : PySem.W.codeIn K cd44 "_law_refuses" = true)
    (k44 : PySem.W.keepIn K (.ref f__law_refuses) = true)
    (a45 : PySem.W.nsIn K mainGlobals "law" = some (some (.ref f_law)))
    (l45 : K.lookup f_law = some ⟨oc45, od45, .func (PySem.W.fnOf "law" "law" (defArgs s_law) (defBody s_law) (defScope s_law) .none kV45 dc45 pm45 an45 cd45 ct45), sl45⟩)
    (c45 : PySem.W.codeIn K cd45 "law" = true)
    (k45 : PySem.W.keepIn K (.ref f_law) = true)
    (x_Layout : PySem.W.nsIn K mainGlobals "Layout" = some (some (.ref C_Layout)))
    (x_Device : PySem.W.nsIn K mainGlobals "Device" = some (some (.ref C_Device)))
    (x_Side : PySem.W.nsIn K mainGlobals "Side" = some (some (.ref C_Side)))
    (x_InvalidImage : PySem.W.nsIn K mainGlobals "InvalidImage" = some (some (.ref C_InvalidImage)))
    (x_InvalidFormat : PySem.W.nsIn K mainGlobals "InvalidFormat" = some (some (.ref C_InvalidFormat)))
    (x_SegmentError : PySem.W.nsIn K mainGlobals "SegmentError" = some (some (.ref C_SegmentError)))
    (pg_Layout : PySem.W.plainGet K C_Layout Str.empty = true)
    (hd_Layout : PySem.W.hasDictIn K C_Layout = true)
    (po_Layout : PySem.W.plainOver K C_Layout = true)
    (sa_Layout : PySem.W.findIn K (.ref C_Layout) "__setattr__" = some (some (.builtin "object.__setattr__")))
    (mk_Layout : PySem.W.makesIn K C_Layout = true)
    (kc_Layout : PySem.W.keepIn K (.ref C_Layout) = true)
    (pg_Device : PySem.W.plainGet K C_Device Str.empty = true)
    (hd_Device : PySem.W.hasDictIn K C_Device = true)
    (po_Device : PySem.W.plainOver K C_Device = true)
    (sa_Device : PySem.W.findIn K (.ref C_Device) "__setattr__" = some (some (.builtin "object.__setattr__")))
    (mk_Device : PySem.W.makesIn K C_Device = true)
    (kc_Device : PySem.W.keepIn K (.ref C_Device) = true)
    (pg_Side : PySem.W.plainGet K C_Side Str.empty = true)
    (hd_Side : PySem.W.hasDictIn K C_Side = true)
    (po_Side : PySem.W.plainOver K C_Side = true)
    (sa_Side : PySem.W.findIn K (.ref C_Side) "__setattr__" = some (some (.builtin "object.__setattr__")))
    (mk_Side : PySem.W.makesIn K C_Side = true)
    (kc_Side : PySem.W.keepIn K (.ref C_Side) = true)
    (xP_InvalidFormat : PySem.W.excIn K C_InvalidFormat [.type "ValueError", .type "Exception", .type "BaseException", .type "object"] "ValueError.__new__" = true)
    (kP_InvalidFormat : PySem.W.keepIn K (.ref C_InvalidFormat) = true)
    (bP_InvalidFormat : PySem.W.subIn K (.ref C_InvalidFormat) (.type "BaseException") = some true)
    (tP_InvalidFormat : PySem.W.typeIn K (.ref C_InvalidFormat) = some (.type "type"))
    (m1_InvalidFormat_InvalidFormat : PySem.W.subIn K (.ref C_InvalidFormat) (.type "BaseException") = some true)
    (m2_InvalidFormat_InvalidFormat : PySem.W.hasDictIn K C_InvalidFormat = true)
    (m3_InvalidFormat_InvalidFormat : PySem.W.typeIn K (.ref C_InvalidFormat) = some (.type "type"))
    (m4_InvalidFormat_InvalidFormat : PySem.W.subIn K (.ref C_InvalidFormat) (.ref C_InvalidFormat) = some true)
    (m1_InvalidImage_SegmentError : PySem.W.subIn K (.ref C_SegmentError) (.type "BaseException") = some true)
    (m2_InvalidImage_SegmentError : PySem.W.hasDictIn K C_SegmentError = true)
    (m3_InvalidImage_SegmentError : PySem.W.typeIn K (.ref C_SegmentError) = some (.type "type"))
    (m4_InvalidImage_SegmentError : PySem.W.subIn K (.ref C_InvalidImage) (.ref C_SegmentError) = some true)
    (is_InvalidImage_InvalidImage : PySem.W.isIn K (.ref C_InvalidImage) C_InvalidImage = true)
    (at_Layout_segments : PySem.W.findIn K (.ref C_Layout) "segments" = some none)
    (at_Layout_segment_blocks : PySem.W.findIn K (.ref C_Layout) "segment_blocks" = some none)
    (at_Layout_block_size : PySem.W.findIn K (.ref C_Layout) "block_size" = some none)
    (at_Layout_payload : PySem.W.findIn K (.ref C_Layout) "payload" = some none)
    (at_Layout_limit : PySem.W.findIn K (.ref C_Layout) "limit" = some none)
    (at_Layout_last_id : PySem.W.findIn K (.ref C_Layout) "last_id" = some none)
    (at_Layout_fan : PySem.W.findIn K (.ref C_Layout) "fan" = some none)
    (at_Layout_region_blocks : PySem.W.findIn K (.ref C_Layout) "region_blocks" = some none)
    (at_Layout_device_blocks : PySem.W.findIn K (.ref C_Layout) "device_blocks" = some none)
    (at_Device_layout : PySem.W.findIn K (.ref C_Device) "layout" = some none)
    (at_Device_sure : PySem.W.findIn K (.ref C_Device) "sure" = some none)
    (at_Device_seen : PySem.W.findIn K (.ref C_Device) "seen" = some none)
    (at_Device_waiting : PySem.W.findIn K (.ref C_Device) "waiting" = some none)
    (at_Device_fuse : PySem.W.findIn K (.ref C_Device) "fuse" = some none)
    (at_Device_dark : PySem.W.findIn K (.ref C_Device) "dark" = some none)
    (at_Side_layout : PySem.W.findIn K (.ref C_Side) "layout" = some none)
    (at_Side_seat : PySem.W.findIn K (.ref C_Side) "seat" = some none)
    (at_Side_device : PySem.W.findIn K (.ref C_Side) "device" = some none)
    (at_InvalidImage_part : PySem.W.findIn K (.ref C_InvalidImage) "part" = some none)
    (at_InvalidImage_fault : PySem.W.findIn K (.ref C_InvalidImage) "fault" = some none)
    (at_InvalidImage_number : PySem.W.findIn K (.ref C_InvalidImage) "number" = some none)
    (z_len : PySem.W.nsIn K mainGlobals "len" = some none)
    (z_int : PySem.W.nsIn K mainGlobals "int" = some none)
    (z_list : PySem.W.nsIn K mainGlobals "list" = some none)
    (z_tuple : PySem.W.nsIn K mainGlobals "tuple" = some none)
    (z_range : PySem.W.nsIn K mainGlobals "range" = some none)
    (z_reversed : PySem.W.nsIn K mainGlobals "reversed" = some none)
    (z_isinstance : PySem.W.nsIn K mainGlobals "isinstance" = some none)
    (g_MOST_SEGMENTS : PySem.W.nsIn K mainGlobals "MOST_SEGMENTS" = some (some (.int 16 t_MOST_SEGMENTS)))
    (g_LEAST_SEGMENTS : PySem.W.nsIn K mainGlobals "LEAST_SEGMENTS" = some (some (.int 4 t_LEAST_SEGMENTS)))
    (g_MOST_BLOCKS : PySem.W.nsIn K mainGlobals "MOST_BLOCKS" = some (some (.int 32 t_MOST_BLOCKS)))
    (g_LEAST_BLOCKS : PySem.W.nsIn K mainGlobals "LEAST_BLOCKS" = some (some (.int 16 t_LEAST_BLOCKS)))
    (g_HEAD_OCTETS : PySem.W.nsIn K mainGlobals "HEAD_OCTETS" = some (some (.int 16 t_HEAD_OCTETS)))
    (g_SLOTS : PySem.W.nsIn K mainGlobals "SLOTS" = some (some (.int 3 t_SLOTS)))
    (g_LABELS : PySem.W.nsIn K mainGlobals "LABELS" = some (some (.int 2 t_LABELS)))
    (g_COMMIT : PySem.W.nsIn K mainGlobals "COMMIT" = some (some (.int 1 t_COMMIT)))
    (g_MOVE : PySem.W.nsIn K mainGlobals "MOVE" = some (some (.int 2 t_MOVE)))
    (g_DATA : PySem.W.nsIn K mainGlobals "DATA" = some (some (.int 3 t_DATA)))
    (g_SPARE : PySem.W.nsIn K mainGlobals "SPARE" = some (some (.int 16 t_SPARE)))
    (g_FACTOR : PySem.W.nsIn K mainGlobals "FACTOR" = some (some (.int 257 t_FACTOR)))
    (g_PRIME : PySem.W.nsIn K mainGlobals "PRIME" = some (some (.int 4294967291 t_PRIME)))
    (g_LETTERS_labels : PySem.W.nsIn K mainGlobals "LETTERS_labels" = some (some (.ref c_LETTERS_labels)))
    (k_LETTERS_labels : K.lookup c_LETTERS_labels = some ⟨.type "tuple", od_LETTERS_labels, .seq #[.int 83 t_LETTERS_labels_0, .int 73 t_LETTERS_labels_1, .int 68 t_LETTERS_labels_2, .int 69 t_LETTERS_labels_3] n_LETTERS_labels, sl_LETTERS_labels⟩)
    (g_HEAD : PySem.W.nsIn K mainGlobals "HEAD" = some (some (.int 16 t_HEAD)))
    (g_CHECK : PySem.W.nsIn K mainGlobals "CHECK" = some (some (.int 4 t_CHECK)))
    (g_SEATS : PySem.W.nsIn K mainGlobals "SEATS" = some (some (.int 3 t_SEATS)))
    (g_MOST_ACTION : PySem.W.nsIn K mainGlobals "MOST_ACTION" = some (some (.int 6 t_MOST_ACTION)))
    (g_HEADER : PySem.W.nsIn K mainGlobals "HEADER" = some (some (.int 16 t_HEADER)))
    (g_PART : PySem.W.nsIn K mainGlobals "PART" = some (some (.int 5 t_PART)))
    : ∃ fd : FuncData, (∀ (s : Shared) (v : Value), BindsTo s fd ⟨[v], []⟩ [("script", v)]) ∧ ∀ base : Heap, K.In base → base.Ns mainGlobals mg → FnOk l.prog w K mg base CX0 8 fa fd ["script"] (spLaw K) := by
  have e := hfa.symm.trans (PySem.W.mg_of X G a45)
  cases e
  have F__law_number := fun_mk (st := s__law_number) l0 c0 k0
  have b__law_number := F__law_number.binds (ps := ["script", "k"]) fun _ _ _ _ _ _ us hl => match us, hl with | [_, _], _ => rfl
  have F__law_take := fun_mk (st := s__law_take) l1 c1 k1
  have b__law_take := F__law_take.binds (ps := ["box", "size"]) fun _ _ _ _ _ _ us hl => match us, hl with | [_, _], _ => rfl
  have F_parts_of := fun_mk (st := s_parts_of) l2 c2 k2
  have b_parts_of := F_parts_of.binds (ps := ["number", "size"]) fun _ _ _ _ _ _ us hl => match us, hl with | [_, _], _ => rfl
  have F_Layout___init__ := fun_mk (st := s_Layout___init__) l3 c3 k3
  have b_Layout___init__ := F_Layout___init__.binds (ps := ["self", "segments", "segment_blocks", "block_size"]) fun _ _ _ _ _ _ us hl => match us, hl with | [_, _, _, _], _ => rfl
  have F__law_layout := fun_mk (st := s__law_layout) l4 c4 k4
  have b__law_layout := F__law_layout.binds (ps := ["box"]) fun _ _ _ _ _ _ us hl => match us, hl with | [_], _ => rfl
  have F_Device___init__ : FunD K "__init__" "Device.__init__" (defArgs s_Device___init__) (defBody s_Device___init__) (defScope s_Device___init__) [V.non] [] f_Device___init__ _ := ⟨⟨_, _, _, _, _, _, _, _, _, _, rfl, l5, c5, .inr ⟨by decide, _, _, [Value.none], _, rfl, dl5, rfl, .cons rfl (.nil)⟩, .inl rfl⟩, k5⟩
  obtain ⟨dz_Device___init__, dy_Device___init__, b_Device___init__⟩ := F_Device___init__.binds1 (ps := ["self", "layout", "blocks"]) 3 1 (by decide) rfl fun _ _ _ _ _ _ _ us its hl hi => match us, its, hl, hi with | [_, _, _], [_], _, _ => ⟨_, rfl, rfl⟩
  cases dy_Device___init__
  have F_Side___init__ : FunD K "__init__" "Side.__init__" (defArgs s_Side___init__) (defBody s_Side___init__) (defScope s_Side___init__) [V.non] [] f_Side___init__ _ := ⟨⟨_, _, _, _, _, _, _, _, _, _, rfl, l6, c6, .inr ⟨by decide, _, _, [Value.none], _, rfl, dl6, rfl, .cons rfl (.nil)⟩, .inl rfl⟩, k6⟩
  obtain ⟨dz_Side___init__, dy_Side___init__, b_Side___init__⟩ := F_Side___init__.binds1 (ps := ["self", "layout", "seat", "cells"]) 4 1 (by decide) rfl fun _ _ _ _ _ _ _ us its hl hi => match us, its, hl, hi with | [_, _, _, _], [_], _, _ => ⟨_, rfl, rfl⟩
  cases dy_Side___init__
  obtain ⟨ds_Side___init___2, d_Side___init___2, b_Side___init___2⟩ := F_Side___init__.binds1 (ps := ["self", "layout", "seat", "cells"]) 3 0 (by decide) rfl fun _ _ _ _ _ _ _ us its hl hi => match us, its, hl, hi with | [_, _, _], [_], _, _ => ⟨_, rfl, rfl⟩
  have F__law_block := fun_mk (st := s__law_block) l7 c7 k7
  have b__law_block := F__law_block.binds (ps := ["layout", "box"]) fun _ _ _ _ _ _ us hl => match us, hl with | [_, _], _ => rfl
  have F__law_low := fun_mk (st := s__law_low) l8 c8 k8
  have b__law_low := F__law_low.binds (ps := ["number", "count"]) fun _ _ _ _ _ _ us hl => match us, hl with | [_, _], _ => rfl
  have F__law_octets := fun_mk (st := s__law_octets) l9 c9 k9
  have b__law_octets := F__law_octets.binds (ps := ["layout", "block"]) fun _ _ _ _ _ _ us hl => match us, hl with | [_, _], _ => rfl
  have F__law_check := fun_mk (st := s__law_check) l10 c10 k10
  have b__law_check := F__law_check.binds (ps := ["layout", "address", "block"]) fun _ _ _ _ _ _ us hl => match us, hl with | [_, _, _], _ => rfl
  have F__law_sealed := fun_mk (st := s__law_sealed) l11 c11 k11
  have b__law_sealed := F__law_sealed.binds (ps := ["layout", "address", "block"]) fun _ _ _ _ _ _ us hl => match us, hl with | [_, _, _], _ => rfl
  have F__law_cell := fun_mk (st := s__law_cell) l12 c12 k12
  have b__law_cell := F__law_cell.binds (ps := ["layout", "address", "box"]) fun _ _ _ _ _ _ us hl => match us, hl with | [_, _, _], _ => rfl
  have F_Device__count_command := fun_mk (st := s_Device__count_command) l13 c13 k13
  have b_Device__count_command := F_Device__count_command.binds (ps := ["self"]) fun _ _ _ _ _ _ us hl => match us, hl with | [_], _ => rfl
  have F_Device_write := fun_mk (st := s_Device_write) l14 c14 k14
  have b_Device_write := F_Device_write.binds (ps := ["self", "address", "block"]) fun _ _ _ _ _ _ us hl => match us, hl with | [_, _, _], _ => rfl
  have F_number_octets := fun_mk (st := s_number_octets) l15 c15 k15
  have b_number_octets := F_number_octets.binds (ps := ["number", "count"]) fun _ _ _ _ _ _ us hl => match us, hl with | [_, _], _ => rfl
  have F_summary_octets := fun_mk (st := s_summary_octets) l16 c16 k16
  have b_summary_octets := F_summary_octets.binds (ps := ["layout", "mark", "numbers", "action"]) fun _ _ _ _ _ _ us hl => match us, hl with | [_, _, _, _], _ => rfl
  have F_bits_of := fun_mk (st := s_bits_of) l17 c17 k17
  have b_bits_of := F_bits_of.binds (ps := ["used", "last_id"]) fun _ _ _ _ _ _ us hl => match us, hl with | [_, _], _ => rfl
  have F_pairs_of := fun_mk (st := s_pairs_of) l18 c18 k18
  have b_pairs_of := F_pairs_of.binds (ps := ["numbers"]) fun _ _ _ _ _ _ us hl => match us, hl with | [_], _ => rfl
  have F_body_octets := fun_mk (st := s_body_octets) l19 c19 k19
  have b_body_octets := F_body_octets.binds (ps := ["layout", "kind", "body"]) fun _ _ _ _ _ _ us hl => match us, hl with | [_, _, _], _ => rfl
  have F_block_octets := fun_mk (st := s_block_octets) l20 c20 k20
  have b_block_octets := F_block_octets.binds (ps := ["layout", "block"]) fun _ _ _ _ _ _ us hl => match us, hl with | [_, _], _ => rfl
  have F_check_of := fun_mk (st := s_check_of) l21 c21 k21
  have b_check_of := F_check_of.binds (ps := ["layout", "address", "block"]) fun _ _ _ _ _ _ us hl => match us, hl with | [_, _, _], _ => rfl
  have F_sealed := fun_mk (st := s_sealed) l22 c22 k22
  have b_sealed := F_sealed.binds (ps := ["layout", "address", "block"]) fun _ _ _ _ _ _ us hl => match us, hl with | [_, _, _], _ => rfl
  have F_Side_write := fun_mk (st := s_Side_write) l23 c23 k23
  have b_Side_write := F_Side_write.binds (ps := ["self", "address", "block"]) fun _ _ _ _ _ _ us hl => match us, hl with | [_, _, _], _ => rfl
  have F_side_head := fun_mk (st := s_side_head) l24 c24 k24
  have b_side_head := F_side_head.binds (ps := ["layout", "seat"]) fun _ _ _ _ _ _ us hl => match us, hl with | [_, _], _ => rfl
  have F_cell_size := fun_mk (st := s_cell_size) l25 c25 k25
  have b_cell_size := F_cell_size.binds (ps := ["layout"]) fun _ _ _ _ _ _ us hl => match us, hl with | [_], _ => rfl
  have F_cell_octets := fun_mk (st := s_cell_octets) l26 c26 k26
  have b_cell_octets := F_cell_octets.binds (ps := ["layout", "cell"]) fun _ _ _ _ _ _ us hl => match us, hl with | [_, _], _ => rfl
  have F_Device_read := fun_mk (st := s_Device_read) l27 c27 k27
  have b_Device_read := F_Device_read.binds (ps := ["self", "address"]) fun _ _ _ _ _ _ us hl => match us, hl with | [_, _], _ => rfl
  have F_write_side := fun_mk (st := s_write_side) l28 c28 k28
  have b_write_side := F_write_side.binds (ps := ["side"]) fun _ _ _ _ _ _ us hl => match us, hl with | [_], _ => rfl
  have F_number_of := fun_mk (st := s_number_of) l29 c29 k29
  have b_number_of := F_number_of.binds (ps := ["octets"]) fun _ _ _ _ _ _ us hl => match us, hl with | [_], _ => rfl
  have F_layout_of_side := fun_mk (st := s_layout_of_side) l30 c30 k30
  have b_layout_of_side := F_layout_of_side.binds (ps := ["octets"]) fun _ _ _ _ _ _ us hl => match us, hl with | [_], _ => rfl
  have F_numbers_of := fun_mk (st := s_numbers_of) l31 c31 k31
  have b_numbers_of := F_numbers_of.binds (ps := ["octets"]) fun _ _ _ _ _ _ us hl => match us, hl with | [_], _ => rfl
  have F_used_of := fun_mk (st := s_used_of) l32 c32 k32
  have b_used_of := F_used_of.binds (ps := ["octets", "last_id"]) fun _ _ _ _ _ _ us hl => match us, hl with | [_, _], _ => rfl
  have F_read_body := fun_mk (st := s_read_body) l33 c33 k33
  have b_read_body := F_read_body.binds (ps := ["layout", "kind", "octets"]) fun _ _ _ _ _ _ us hl => match us, hl with | [_, _, _], _ => rfl
  have F_read_block := fun_mk (st := s_read_block) l34 c34 k34
  have b_read_block := F_read_block.binds (ps := ["layout", "octets"]) fun _ _ _ _ _ _ us hl => match us, hl with | [_, _], _ => rfl
  have F_read_cell := fun_mk (st := s_read_cell) l35 c35 k35
  have b_read_cell := F_read_cell.binds (ps := ["layout", "octets"]) fun _ _ _ _ _ _ us hl => match us, hl with | [_, _], _ => rfl
  have F_read_side := fun_mk (st := s_read_side) l36 c36 k36
  have b_read_side := F_read_side.binds (ps := ["octets"]) fun _ _ _ _ _ _ us hl => match us, hl with | [_], _ => rfl
  have F_Device_sure_blocks := fun_mk (st := s_Device_sure_blocks) l37 c37 k37
  have b_Device_sure_blocks := F_Device_sure_blocks.binds (ps := ["self"]) fun _ _ _ _ _ _ us hl => match us, hl with | [_], _ => rfl
  have F_Device_was_cut := fun_mk (st := s_Device_was_cut) l38 c38 k38
  have b_Device_was_cut := F_Device_was_cut.binds (ps := ["self"]) fun _ _ _ _ _ _ us hl => match us, hl with | [_], _ => rfl
  have F_Device_pending := fun_mk (st := s_Device_pending) l39 c39 k39
  have b_Device_pending := F_Device_pending.binds (ps := ["self"]) fun _ _ _ _ _ _ us hl => match us, hl with | [_], _ => rfl
  have F_Side_pending := fun_mk (st := s_Side_pending) l40 c40 k40
  have b_Side_pending := F_Side_pending.binds (ps := ["self"]) fun _ _ _ _ _ _ us hl => match us, hl with | [_], _ => rfl
  have F__law_reads := fun_mk (st := s__law_reads) l41 c41 k41
  have b__law_reads := F__law_reads.binds (ps := ["octets", "layout", "seat", "cells"]) fun _ _ _ _ _ _ us hl => match us, hl with | [_, _, _, _], _ => rfl
  have F__law_image := fun_mk (st := s__law_image) l42 c42 k42
  have b__law_image := F__law_image.binds (ps := ["layout", "seat", "cells"]) fun _ _ _ _ _ _ us hl => match us, hl with | [_, _, _], _ => rfl
  have O_InvalidImage : OexC K C_InvalidImage := ⟨⟨_, _, _, _, _, _, _, _, _, _, _, _, _, _, _, y3_InvalidImage, y4_InvalidImage⟩, y5_InvalidImage, y6_InvalidImage, y7_InvalidImage, y8_InvalidImage⟩
  have F_InvalidImage___init__ : SupFun K "__init__" "InvalidImage.__init__" s_InvalidImage___init__ co_InvalidImage ce_InvalidImage f_InvalidImage___init__ _ := ⟨_, _, _, _, _, _, _, _, rfl, l43, c43⟩
  have b_InvalidImage___init__ := F_InvalidImage___init__.binds (ps := ["self", "part", "fault", "number"]) fun _ _ _ _ _ us hl => match us, hl with | [_, _, _, _], _ => rfl
  have F__law_refuses := fun_mk (st := s__law_refuses) l44 c44 k44
  have b__law_refuses := F__law_refuses.binds (ps := ["octets"]) fun _ _ _ _ _ _ us hl => match us, hl with | [_], _ => rfl
  have F_law := fun_mk (st := s_law) l45 c45 k45
  have b_law := F_law.binds (ps := ["script"]) fun _ _ _ _ _ _ us hl => match us, hl with | [_], _ => rfl
  exact ⟨_, fun s v => .of_eq rfl, fun base _ _ => ok_law { f__law_number := f__law_number, fd__law_number := _, F__law_number := F__law_number, b__law_number := b__law_number, g__law_number := PySem.W.mg_of X G a0, f__law_take := f__law_take, fd__law_take := _, F__law_take := F__law_take, b__law_take := b__law_take, g__law_take := PySem.W.mg_of X G a1, f_parts_of := f_parts_of, fd_parts_of := _, F_parts_of := F_parts_of, b_parts_of := b_parts_of, g_parts_of := PySem.W.mg_of X G a2, f_Layout___init__ := f_Layout___init__, fd_Layout___init__ := _, F_Layout___init__ := F_Layout___init__, b_Layout___init__ := b_Layout___init__, mk_Layout := ⟨mk_Layout, a3, i3, kc_Layout⟩, f__law_layout := f__law_layout, fd__law_layout := _, F__law_layout := F__law_layout, b__law_layout := b__law_layout, g__law_layout := PySem.W.mg_of X G a4, f_Device___init__ := f_Device___init__, fd_Device___init__ := _, F_Device___init__ := F_Device___init__, b_Device___init__ := b_Device___init__, mk_Device := ⟨mk_Device, a5, i5, kc_Device⟩, f_Side___init__ := f_Side___init__, fd_Side___init__ := _, F_Side___init__ := F_Side___init__, b_Side___init__ := b_Side___init__, ds_Side___init___2 := ds_Side___init___2, d_Side___init___2 := d_Side___init___2, b_Side___init___2 := b_Side___init___2, mk_Side := ⟨mk_Side, a6, i6, kc_Side⟩, f__law_block := f__law_block, fd__law_block := _, F__law_block := F__law_block, b__law_block := b__law_block, g__law_block := PySem.W.mg_of X G a7, f__law_low := f__law_low, fd__law_low := _, F__law_low := F__law_low, b__law_low := b__law_low, g__law_low := PySem.W.mg_of X G a8, f__law_octets := f__law_octets, fd__law_octets := _, F__law_octets := F__law_octets, b__law_octets := b__law_octets, g__law_octets := PySem.W.mg_of X G a9, f__law_check := f__law_check, fd__law_check := _, F__law_check := F__law_check, b__law_check := b__law_check, g__law_check := PySem.W.mg_of X G a10, f__law_sealed := f__law_sealed, fd__law_sealed := _, F__law_sealed := F__law_sealed, b__law_sealed := b__law_sealed, g__law_sealed := PySem.W.mg_of X G a11, f__law_cell := f__law_cell, fd__law_cell := _, F__law_cell := F__law_cell, b__law_cell := b__law_cell, g__law_cell := PySem.W.mg_of X G a12, f_Device__count_command := f_Device__count_command, fd_Device__count_command := _, F_Device__count_command := F_Device__count_command, b_Device__count_command := b_Device__count_command, m_Device__count_command := ⟨a13, i13, k13⟩, f_Device_write := f_Device_write, fd_Device_write := _, F_Device_write := F_Device_write, b_Device_write := b_Device_write, m_Device_write := ⟨a14, i14, k14⟩, f_number_octets := f_number_octets, fd_number_octets := _, F_number_octets := F_number_octets, b_number_octets := b_number_octets, g_number_octets := PySem.W.mg_of X G a15, f_summary_octets := f_summary_octets, fd_summary_octets := _, F_summary_octets := F_summary_octets, b_summary_octets := b_summary_octets, g_summary_octets := PySem.W.mg_of X G a16, f_bits_of := f_bits_of, fd_bits_of := _, F_bits_of := F_bits_of, b_bits_of := b_bits_of, g_bits_of := PySem.W.mg_of X G a17, f_pairs_of := f_pairs_of, fd_pairs_of := _, F_pairs_of := F_pairs_of, b_pairs_of := b_pairs_of, g_pairs_of := PySem.W.mg_of X G a18, f_body_octets := f_body_octets, fd_body_octets := _, F_body_octets := F_body_octets, b_body_octets := b_body_octets, g_body_octets := PySem.W.mg_of X G a19, f_block_octets := f_block_octets, fd_block_octets := _, F_block_octets := F_block_octets, b_block_octets := b_block_octets, g_block_octets := PySem.W.mg_of X G a20, f_check_of := f_check_of, fd_check_of := _, F_check_of := F_check_of, b_check_of := b_check_of, g_check_of := PySem.W.mg_of X G a21, f_sealed := f_sealed, fd_sealed := _, F_sealed := F_sealed, b_sealed := b_sealed, g_sealed := PySem.W.mg_of X G a22, f_Side_write := f_Side_write, fd_Side_write := _, F_Side_write := F_Side_write, b_Side_write := b_Side_write, m_Side_write := ⟨a23, i23, k23⟩, f_side_head := f_side_head, fd_side_head := _, F_side_head := F_side_head, b_side_head := b_side_head, g_side_head := PySem.W.mg_of X G a24, f_cell_size := f_cell_size, fd_cell_size := _, F_cell_size := F_cell_size, b_cell_size := b_cell_size, g_cell_size := PySem.W.mg_of X G a25, f_cell_octets := f_cell_octets, fd_cell_octets := _, F_cell_octets := F_cell_octets, b_cell_octets := b_cell_octets, g_cell_octets := PySem.W.mg_of X G a26, f_Device_read := f_Device_read, fd_Device_read := _, F_Device_read := F_Device_read, b_Device_read := b_Device_read, m_Device_read := ⟨a27, i27, k27⟩, f_write_side := f_write_side, fd_write_side := _, F_write_side := F_write_side, b_write_side := b_write_side, g_write_side := PySem.W.mg_of X G a28, f_number_of := f_number_of, fd_number_of := _, F_number_of := F_number_of, b_number_of := b_number_of, g_number_of := PySem.W.mg_of X G a29, f_layout_of_side := f_layout_of_side, fd_layout_of_side := _, F_layout_of_side := F_layout_of_side, b_layout_of_side := b_layout_of_side, g_layout_of_side := PySem.W.mg_of X G a30, f_numbers_of := f_numbers_of, fd_numbers_of := _, F_numbers_of := F_numbers_of, b_numbers_of := b_numbers_of, g_numbers_of := PySem.W.mg_of X G a31, f_used_of := f_used_of, fd_used_of := _, F_used_of := F_used_of, b_used_of := b_used_of, g_used_of := PySem.W.mg_of X G a32, f_read_body := f_read_body, fd_read_body := _, F_read_body := F_read_body, b_read_body := b_read_body, g_read_body := PySem.W.mg_of X G a33, f_read_block := f_read_block, fd_read_block := _, F_read_block := F_read_block, b_read_block := b_read_block, g_read_block := PySem.W.mg_of X G a34, f_read_cell := f_read_cell, fd_read_cell := _, F_read_cell := F_read_cell, b_read_cell := b_read_cell, g_read_cell := PySem.W.mg_of X G a35, f_read_side := f_read_side, fd_read_side := _, F_read_side := F_read_side, b_read_side := b_read_side, g_read_side := PySem.W.mg_of X G a36, f_Device_sure_blocks := f_Device_sure_blocks, fd_Device_sure_blocks := _, F_Device_sure_blocks := F_Device_sure_blocks, b_Device_sure_blocks := b_Device_sure_blocks, m_Device_sure_blocks := ⟨a37, i37, k37⟩, f_Device_was_cut := f_Device_was_cut, fd_Device_was_cut := _, F_Device_was_cut := F_Device_was_cut, b_Device_was_cut := b_Device_was_cut, m_Device_was_cut := ⟨a38, i38, k38⟩, f_Device_pending := f_Device_pending, fd_Device_pending := _, F_Device_pending := F_Device_pending, b_Device_pending := b_Device_pending, m_Device_pending := ⟨a39, i39, k39⟩, f_Side_pending := f_Side_pending, fd_Side_pending := _, F_Side_pending := F_Side_pending, b_Side_pending := b_Side_pending, m_Side_pending := ⟨a40, i40, k40⟩, f__law_reads := f__law_reads, fd__law_reads := _, F__law_reads := F__law_reads, b__law_reads := b__law_reads, g__law_reads := PySem.W.mg_of X G a41, f__law_image := f__law_image, fd__law_image := _, F__law_image := F__law_image, b__law_image := b__law_image, g__law_image := PySem.W.mg_of X G a42, f_InvalidImage___init__ := f_InvalidImage___init__, fd_InvalidImage___init__ := _, co_InvalidImage := co_InvalidImage, ce_InvalidImage := ce_InvalidImage, F_InvalidImage___init__ := F_InvalidImage___init__, b_InvalidImage___init__ := b_InvalidImage___init__, ox_InvalidImage := O_InvalidImage, iC_InvalidImage := iC_InvalidImage, tI_InvalidImage := tI_InvalidImage, z_InvalidImage := ⟨⟨_, _, _, z1_InvalidImage⟩, ⟨_, _, _, _, _, _, z2_InvalidImage, z3_InvalidImage, z4_InvalidImage⟩, z5_InvalidImage, PySem.W.mg_none_of X G z6_InvalidImage, ⟨_, z7_InvalidImage⟩, z8_InvalidImage, z9_InvalidImage, y1_InvalidImage, y2_InvalidImage, O_InvalidImage⟩, xf_InvalidImage := ⟨w1_InvalidImage, w2_InvalidImage, y6_InvalidImage, w3_InvalidImage⟩, f__law_refuses := f__law_refuses, fd__law_refuses := _, F__law_refuses := F__law_refuses, b__law_refuses := b__law_refuses, g__law_refuses := PySem.W.mg_of X G a44, f_law := fa, fd_law := _, F_law := F_law, b_law := b_law, g_law := hfa, C_Layout := C_Layout, g_Layout := PySem.W.mg_of X G x_Layout, C_Device := C_Device, g_Device := PySem.W.mg_of X G x_Device, C_Side := C_Side, g_Side := PySem.W.mg_of X G x_Side, C_InvalidImage := C_InvalidImage, g_InvalidImage := PySem.W.mg_of X G x_InvalidImage, C_InvalidFormat := C_InvalidFormat, g_InvalidFormat := PySem.W.mg_of X G x_InvalidFormat, C_SegmentError := C_SegmentError, g_SegmentError := PySem.W.mg_of X G x_SegmentError, cl_Layout := ⟨pg_Layout, hd_Layout, po_Layout, sa_Layout⟩, cl_Device := ⟨pg_Device, hd_Device, po_Device, sa_Device⟩, cl_Side := ⟨pg_Side, hd_Side, po_Side, sa_Side⟩, xP_InvalidFormat := xP_InvalidFormat, kP_InvalidFormat := kP_InvalidFormat, bP_InvalidFormat := bP_InvalidFormat, tP_InvalidFormat := tP_InvalidFormat, em_InvalidFormat_InvalidFormat := PySem.W.exm_ref m1_InvalidFormat_InvalidFormat m2_InvalidFormat_InvalidFormat m3_InvalidFormat_InvalidFormat m4_InvalidFormat_InvalidFormat, em_InvalidImage_SegmentError := PySem.W.exm_ref m1_InvalidImage_SegmentError m2_InvalidImage_SegmentError m3_InvalidImage_SegmentError m4_InvalidImage_SegmentError, is_InvalidImage_InvalidImage := is_InvalidImage_InvalidImage, a_Layout_segments := at_Layout_segments, a_Layout_segment_blocks := at_Layout_segment_blocks, a_Layout_block_size := at_Layout_block_size, a_Layout_payload := at_Layout_payload, a_Layout_limit := at_Layout_limit, a_Layout_last_id := at_Layout_last_id, a_Layout_fan := at_Layout_fan, a_Layout_region_blocks := at_Layout_region_blocks, a_Layout_device_blocks := at_Layout_device_blocks, a_Device_layout := at_Device_layout, a_Device_sure := at_Device_sure, a_Device_seen := at_Device_seen, a_Device_waiting := at_Device_waiting, a_Device_fuse := at_Device_fuse, a_Device_dark := at_Device_dark, a_Side_layout := at_Side_layout, a_Side_seat := at_Side_seat, a_Side_device := at_Side_device, a_InvalidImage_part := at_InvalidImage_part, a_InvalidImage_fault := at_InvalidImage_fault, a_InvalidImage_number := at_InvalidImage_number, n_len := PySem.W.mg_none_of X G z_len, n_int := PySem.W.mg_none_of X G z_int, n_list := PySem.W.mg_none_of X G z_list, n_tuple := PySem.W.mg_none_of X G z_tuple, n_range := PySem.W.mg_none_of X G z_range, n_reversed := PySem.W.mg_none_of X G z_reversed, n_isinstance := PySem.W.mg_none_of X G z_isinstance, u_MOST_SEGMENTS := _, g_MOST_SEGMENTS := PySem.W.mg_of X G g_MOST_SEGMENTS, r_MOST_SEGMENTS := ⟨_, rfl⟩, u_LEAST_SEGMENTS := _, g_LEAST_SEGMENTS := PySem.W.mg_of X G g_LEAST_SEGMENTS, r_LEAST_SEGMENTS := ⟨_, rfl⟩, u_MOST_BLOCKS := _, g_MOST_BLOCKS := PySem.W.mg_of X G g_MOST_BLOCKS, r_MOST_BLOCKS := ⟨_, rfl⟩, u_LEAST_BLOCKS := _, g_LEAST_BLOCKS := PySem.W.mg_of X G g_LEAST_BLOCKS, r_LEAST_BLOCKS := ⟨_, rfl⟩, u_HEAD_OCTETS := _, g_HEAD_OCTETS := PySem.W.mg_of X G g_HEAD_OCTETS, r_HEAD_OCTETS := ⟨_, rfl⟩, u_SLOTS := _, g_SLOTS := PySem.W.mg_of X G g_SLOTS, r_SLOTS := ⟨_, rfl⟩, u_LABELS := _, g_LABELS := PySem.W.mg_of X G g_LABELS, r_LABELS := ⟨_, rfl⟩, u_COMMIT := _, g_COMMIT := PySem.W.mg_of X G g_COMMIT, r_COMMIT := ⟨_, rfl⟩, u_MOVE := _, g_MOVE := PySem.W.mg_of X G g_MOVE, r_MOVE := ⟨_, rfl⟩, u_DATA := _, g_DATA := PySem.W.mg_of X G g_DATA, r_DATA := ⟨_, rfl⟩, u_SPARE := _, g_SPARE := PySem.W.mg_of X G g_SPARE, r_SPARE := ⟨_, rfl⟩, u_FACTOR := _, g_FACTOR := PySem.W.mg_of X G g_FACTOR, r_FACTOR := ⟨_, rfl⟩, u_PRIME := _, g_PRIME := PySem.W.mg_of X G g_PRIME, r_PRIME := ⟨_, rfl⟩, c_LETTERS_labels := c_LETTERS_labels, g_LETTERS_labels := PySem.W.mg_of X G g_LETTERS_labels, r_LETTERS_labels := rfl, q_LETTERS_labels := fun _ => .inr ⟨_, _, _, k_LETTERS_labels, rfl, rfl, (show (4 : Nat) ≤ sizeLine by decide), .cons ⟨_, rfl⟩ (.cons ⟨_, rfl⟩ (.cons ⟨_, rfl⟩ (.cons ⟨_, rfl⟩ (.nil))))⟩, u_HEAD := _, g_HEAD := PySem.W.mg_of X G g_HEAD, r_HEAD := ⟨_, rfl⟩, u_CHECK := _, g_CHECK := PySem.W.mg_of X G g_CHECK, r_CHECK := ⟨_, rfl⟩, u_SEATS := _, g_SEATS := PySem.W.mg_of X G g_SEATS, r_SEATS := ⟨_, rfl⟩, u_MOST_ACTION := _, g_MOST_ACTION := PySem.W.mg_of X G g_MOST_ACTION, r_MOST_ACTION := ⟨_, rfl⟩, u_HEADER := _, g_HEADER := PySem.W.mg_of X G g_HEADER, r_HEADER := ⟨_, rfl⟩, u_PART := _, g_PART := PySem.W.mg_of X G g_PART, r_PART := ⟨_, rfl⟩ }⟩
theorem walk {l : PySem.W.OpenLaw} {q : Program} {loose : List Str} {XP : (Str → Option Value) → Heap → Prop} {YP : World → Heap → Prop} {d : DefRec} {K : Params → PySem.W.Frag} (hn : l.most = some 63) (hdf : d.params.defaults = [])
    (hY : ∀ (w : World) (h : Heap), YP w h → (K w.params).In h)
    (F : ∀ (w : World) (mg : Str → Option Value) (fa : Addr) (h : Heap), (K w.params).In h → h.Ns mainGlobals mg → mg d.name = some (.ref fa) →
      ∃ fd : FuncData, (∀ (s : Shared) (u : Value), BindsTo s fd ⟨[u], []⟩ [("script", u)]) ∧ ∀ base : Heap, (K w.params).In base → base.Ns mainGlobals mg → FnOk l.prog w (K w.params) mg base CX0 8 fa fd ["script"] (spLaw (K w.params))) :
    PySem.W.WalkO q loose XP YP l.row.toRowW d [] (fun f vs => PySem.call f vs) :=
  L2.walk_of (n := 63) (k := 8) (x := "script") (CX := fun _ => CX0) (sp := fun w => spLaw (K w.params)) hn (by decide) hdf ⟨rfl, by decide, by decide⟩ hY F (fun _ _ a ns hl _ hS => ⟨a, ns, rfl, hS, hl, fun _ => rfl⟩) fun _ _ _ _ _ z => z
end Sk
open PySem PySem.W PyProof.Rows in
set_option maxRecDepth 100000 in
set_option maxHeartbeats 0 in
theorem PySem.Challenge.cw_sidekeep_k09_images_of_sides_holds : PySem.Challenge.rw_sidekeep_k09_images_of_sides.Holds := by
  w_on; o_law; k_head; (case hw => w_witness2)
  k_fill
  refine Sk.walk (l := PySem.Challenge.rw_sidekeep_k09_images_of_sides) rfl rfl (fun w h Y => PySem.W.kIn_of Y) ?F
  case F =>
    intro w mg fa h KX G hmg
    refine' Sk.all_mk KX G hmg ?a0 ?l0 ?c0 ?k0 ?a1 ?l1 ?c1 ?k1 ?a2 ?l2 ?c2 ?k2 ?a3 ?i3 ?l3 ?c3 ?k3 ?a4 ?l4 ?c4 ?k4 ?a5 ?i5 ?l5 ?dl5 ?c5 ?k5 ?a6 ?i6 ?l6 ?dl6 ?c6 ?k6 ?a7 ?l7 ?c7 ?k7 ?a8 ?l8 ?c8 ?k8 ?a9 ?l9 ?c9 ?k9 ?a10 ?l10 ?c10 ?k10 ?a11 ?l11 ?c11 ?k11 ?a12 ?l12 ?c12 ?k12 ?a13 ?i13 ?l13 ?c13 ?k13 ?a14 ?i14 ?l14 ?c14 ?k14 ?a15 ?l15 ?c15 ?k15 ?a16 ?l16 ?c16 ?k16 ?a17 ?l17 ?c17 ?k17 ?a18 ?l18 ?c18 ?k18 ?a19 ?l19 ?c19 ?k19 ?a20 ?l20 ?c20 ?k20 ?a21 ?l21 ?c21 ?k21 ?a22 ?l22 ?c22 ?k22 ?a23 ?i23 ?l23 ?c23 ?k23 ?a24 ?l24 ?c24 ?k24 ?a25 ?l25 ?c25 ?k25 ?a26 ?l26 ?c26 ?k26 ?a27 ?i27 ?l27 ?c27 ?k27 ?a28 ?l28 ?c28 ?k28 ?a29 ?l29 ?c29 ?k29 ?a30 ?l30 ?c30 ?k30 ?a31 ?l31 ?c31 ?k31 ?a32 ?l32 ?c32 ?k32 ?a33 ?l33 ?c33 ?k33 ?a34 ?l34 ?c34 ?k34 ?a35 ?l35 ?c35 ?k35 ?a36 ?l36 ?c36 ?k36 ?a37 ?i37 ?l37 ?c37 ?k37 ?a38 ?i38 ?l38 ?c38 ?k38 ?a39 ?i39 ?l39 ?c39 ?k39 ?a40 ?i40 ?l40 ?c40 ?k40 ?a41 ?l41 ?c41 ?k41 ?a42 ?l42 ?c42 ?k42 ?iC_InvalidImage ?tI_InvalidImage ?l43 ?c43 ?z1_InvalidImage ?z2_InvalidImage ?z3_InvalidImage ?z4_InvalidImage ?z5_InvalidImage ?z6_InvalidImage ?z7_InvalidImage ?z8_InvalidImage ?z9_InvalidImage ?y1_InvalidImage ?y2_InvalidImage ?y3_InvalidImage ?y4_InvalidImage ?y5_InvalidImage ?y6_InvalidImage ?y7_InvalidImage ?y8_InvalidImage ?w1_InvalidImage ?w2_InvalidImage ?w3_InvalidImage ?a44 ?l44 ?c44 ?k44 ?a45 ?l45 ?c45 ?k45 ?x_Layout ?x_Device ?x_Side ?x_InvalidImage ?x_InvalidFormat ?x_SegmentError ?pg_Layout ?hd_Layout ?po_Layout ?sa_Layout ?mk_Layout ?kc_Layout ?pg_Device ?hd_Device ?po_Device ?sa_Device ?mk_Device ?kc_Device ?pg_Side ?hd_Side ?po_Side ?sa_Side ?mk_Side ?kc_Side ?xP_InvalidFormat ?kP_InvalidFormat ?bP_InvalidFormat ?tP_InvalidFormat ?m1_InvalidFormat_InvalidFormat ?m2_InvalidFormat_InvalidFormat ?m3_InvalidFormat_InvalidFormat ?m4_InvalidFormat_InvalidFormat ?m1_InvalidImage_SegmentError ?m2_InvalidImage_SegmentError ?m3_InvalidImage_SegmentError ?m4_InvalidImage_SegmentError ?is_InvalidImage_InvalidImage ?at_Layout_segments ?at_Layout_segment_blocks ?at_Layout_block_size ?at_Layout_payload ?at_Layout_limit ?at_Layout_last_id ?at_Layout_fan ?at_Layout_region_blocks ?at_Layout_device_blocks ?at_Device_layout ?at_Device_sure ?at_Device_seen ?at_Device_waiting ?at_Device_fuse ?at_Device_dark ?at_Side_layout ?at_Side_seat ?at_Side_device ?at_InvalidImage_part ?at_InvalidImage_fault ?at_InvalidImage_number ?z_len ?z_int ?z_list ?z_tuple ?z_range ?z_reversed ?z_isinstance ?g_MOST_SEGMENTS ?g_LEAST_SEGMENTS ?g_MOST_BLOCKS ?g_LEAST_BLOCKS ?g_HEAD_OCTETS ?g_SLOTS ?g_LABELS ?g_COMMIT ?g_MOVE ?g_DATA ?g_SPARE ?g_FACTOR ?g_PRIME ?g_LETTERS_labels ?k_LETTERS_labels ?g_HEAD ?g_CHECK ?g_SEATS ?g_MOST_ACTION ?g_HEADER ?g_PART
    (case x_Layout => k_is)
    (case x_Device => k_is)
    (case x_Side => k_is)
    (case x_InvalidImage => k_is)
    (case x_InvalidFormat => k_is)
    (case x_SegmentError => k_is)
    (case a0 => k_is)
    (case l0 => k_is)
    (case c0 => k_is)
    (case k0 => k_is)
    (case a1 => k_is)
    (case l1 => k_is)
    (case c1 => k_is)
    (case k1 => k_is)
    (case a2 => k_is)
    (case l2 => k_is)
    (case c2 => k_is)
    (case k2 => k_is)
    (case a3 => k_is)
    (case i3 => k_is)
    (case l3 => k_is)
    (case c3 => k_is)
    (case k3 => k_is)
    (case a4 => k_is)
    (case l4 => k_is)
    (case c4 => k_is)
    (case k4 => k_is)
    (case a5 => k_is)
    (case i5 => k_is)
    (case l5 => k_is)
    (case dl5 => k_is)
    (case c5 => k_is)
    (case k5 => k_is)
    (case a6 => k_is)
    (case i6 => k_is)
    (case l6 => k_is)
    (case dl6 => k_is)
    (case c6 => k_is)
    (case k6 => k_is)
    (case a7 => k_is)
    (case l7 => k_is)
    (case c7 => k_is)
    (case k7 => k_is)
    (case a8 => k_is)
    (case l8 => k_is)
    (case c8 => k_is)
    (case k8 => k_is)
    (case a9 => k_is)
    (case l9 => k_is)
    (case c9 => k_is)
    (case k9 => k_is)
    (case a10 => k_is)
    (case l10 => k_is)
    (case c10 => k_is)
    (case k10 => k_is)
    (case a11 => k_is)
    (case l11 => k_is)
    (case c11 => k_is)
    (case k11 => k_is)
    (case a12 => k_is)
    (case l12 => k_is)
    (case c12 => k_is)
    (case k12 => k_is)
    (case a13 => k_is)
    (case i13 => k_is)
    (case l13 => k_is)
    (case c13 => k_is)
    (case k13 => k_is)
    (case a14 => k_is)
    (case i14 => k_is)
    (case l14 => k_is)
    (case c14 => k_is)
    (case k14 => k_is)
    (case a15 => k_is)
    (case l15 => k_is)
    (case c15 => k_is)
    (case k15 => k_is)
    (case a16 => k_is)
    (case l16 => k_is)
    (case c16 => k_is)
    (case k16 => k_is)
    (case a17 => k_is)
    (case l17 => k_is)
    (case c17 => k_is)
    (case k17 => k_is)
    (case a18 => k_is)
    (case l18 => k_is)
    (case c18 => k_is)
    (case k18 => k_is)
    (case a19 => k_is)
    (case l19 => k_is)
    (case c19 => k_is)
    (case k19 => k_is)
    (case a20 => k_is)
    (case l20 => k_is)
    (case c20 => k_is)
    (case k20 => k_is)
    (case a21 => k_is)
    (case l21 => k_is)
    (case c21 => k_is)
    (case k21 => k_is)
    (case a22 => k_is)
    (case l22 => k_is)
    (case c22 => k_is)
    (case k22 => k_is)
    (case a23 => k_is)
    (case i23 => k_is)
    (case l23 => k_is)
    (case c23 => k_is)
    (case k23 => k_is)
    (case a24 => k_is)
    (case l24 => k_is)
    (case c24 => k_is)
    (case k24 => k_is)
    (case a25 => k_is)
    (case l25 => k_is)
    (case c25 => k_is)
    (case k25 => k_is)
    (case a26 => k_is)
    (case l26 => k_is)
    (case c26 => k_is)
    (case k26 => k_is)
    (case a27 => k_is)
    (case i27 => k_is)
    (case l27 => k_is)
    (case c27 => k_is)
    (case k27 => k_is)
    (case a28 => k_is)
    (case l28 => k_is)
    (case c28 => k_is)
    (case k28 => k_is)
    (case a29 => k_is)
    (case l29 => k_is)
    (case c29 => k_is)
    (case k29 => k_is)
    (case a30 => k_is)
    (case l30 => k_is)
    (case c30 => k_is)
    (case k30 => k_is)
    (case a31 => k_is)
    (case l31 => k_is)
    (case c31 => k_is)
    (case k31 => k_is)
    (case a32 => k_is)
    (case l32 => k_is)
    (case c32 => k_is)
    (case k32 => k_is)
    (case a33 => k_is)
    (case l33 => k_is)
    (case c33 => k_is)
    (case k33 => k_is)
    (case a34 => k_is)
    (case l34 => k_is)
    (case c34 => k_is)
    (case k34 => k_is)
    (case a35 => k_is)
    (case l35 => k_is)
    (case c35 => k_is)
    (case k35 => k_is)
    (case a36 => k_is)
    (case l36 => k_is)
    (case c36 => k_is)
    (case k36 => k_is)
    (case a37 => k_is)
    (case i37 => k_is)
    (case l37 => k_is)
    (case c37 => k_is)
    (case k37 => k_is)
    (case a38 => k_is)
    (case i38 => k_is)
    (case l38 => k_is)
    (case c38 => k_is)
    (case k38 => k_is)
    (case a39 => k_is)
    (case i39 => k_is)
    (case l39 => k_is)
    (case c39 => k_is)
    (case k39 => k_is)
    (case a40 => k_is)
    (case i40 => k_is)
    (case l40 => k_is)
    (case c40 => k_is)
    (case k40 => k_is)
    (case a41 => k_is)
    (case l41 => k_is)
    (case c41 => k_is)
    (case k41 => k_is)
    (case a42 => k_is)
    (case l42 => k_is)
    (case c42 => k_is)
    (case k42 => k_is)
    (case iC_InvalidImage => k_is)
    (case tI_InvalidImage => k_is)
    (case l43 => k_is)
    (case c43 => k_is)
    (case z1_InvalidImage => k_is)
    (case z2_InvalidImage => k_is)
    (case z3_InvalidImage => rfl)
    (case z4_InvalidImage => first | rfl | decide +kernel)
    (case z5_InvalidImage => first | rfl | decide +kernel)
    (case z6_InvalidImage => k_is)
    (case z7_InvalidImage => k_is)
    (case z8_InvalidImage => k_is)
    (case z9_InvalidImage => k_is)
    (case y1_InvalidImage => ks_is)
    (case y2_InvalidImage => k_is)
    (case y3_InvalidImage => k_is)
    (case y4_InvalidImage => first | rfl | decide +kernel)
    (case y5_InvalidImage => k_is)
    (case y6_InvalidImage => k_is)
    (case y7_InvalidImage => k_is)
    (case y8_InvalidImage => k_is)
    (case w1_InvalidImage => k_is)
    (case w2_InvalidImage => k_is)
    (case w3_InvalidImage => k_is)
    (case a44 => k_is)
    (case l44 => k_is)
    (case c44 => k_is)
    (case k44 => k_is)
    (case a45 => k_is)
    (case l45 => k_is)
    (case c45 => k_is)
    (case k45 => k_is)
    (case pg_Layout => k_is)
    (case hd_Layout => k_is)
    (case po_Layout => k_is)
    (case sa_Layout => k_is)
    (case mk_Layout => k_is)
    (case kc_Layout => k_is)
    (case pg_Device => k_is)
    (case hd_Device => k_is)
    (case po_Device => k_is)
    (case sa_Device => k_is)
    (case mk_Device => k_is)
    (case kc_Device => k_is)
    (case pg_Side => k_is)
    (case hd_Side => k_is)
    (case po_Side => k_is)
    (case sa_Side => k_is)
    (case mk_Side => k_is)
    (case kc_Side => k_is)
    (case xP_InvalidFormat => k_exc)
    (case kP_InvalidFormat => k_is)
    (case bP_InvalidFormat => k_is)
    (case tP_InvalidFormat => k_is)
    (case m1_InvalidFormat_InvalidFormat => k_is)
    (case m2_InvalidFormat_InvalidFormat => k_is)
    (case m3_InvalidFormat_InvalidFormat => k_is)
    (case m4_InvalidFormat_InvalidFormat => k_is)
    (case m1_InvalidImage_SegmentError => k_is)
    (case m2_InvalidImage_SegmentError => k_is)
    (case m3_InvalidImage_SegmentError => k_is)
    (case m4_InvalidImage_SegmentError => k_is)
    (case is_InvalidImage_InvalidImage => k_is)
    (case at_Layout_segments => k_is)
    (case at_Layout_segment_blocks => k_is)
    (case at_Layout_block_size => k_is)
    (case at_Layout_payload => k_is)
    (case at_Layout_limit => k_is)
    (case at_Layout_last_id => k_is)
    (case at_Layout_fan => k_is)
    (case at_Layout_region_blocks => k_is)
    (case at_Layout_device_blocks => k_is)
    (case at_Device_layout => k_is)
    (case at_Device_sure => k_is)
    (case at_Device_seen => k_is)
    (case at_Device_waiting => k_is)
    (case at_Device_fuse => k_is)
    (case at_Device_dark => k_is)
    (case at_Side_layout => k_is)
    (case at_Side_seat => k_is)
    (case at_Side_device => k_is)
    (case at_InvalidImage_part => k_is)
    (case at_InvalidImage_fault => k_is)
    (case at_InvalidImage_number => k_is)
    (case z_len => k_is)
    (case z_int => k_is)
    (case z_list => k_is)
    (case z_tuple => k_is)
    (case z_range => k_is)
    (case z_reversed => k_is)
    (case z_isinstance => k_is)
    (case g_MOST_SEGMENTS => k_is)
    (case g_LEAST_SEGMENTS => k_is)
    (case g_MOST_BLOCKS => k_is)
    (case g_LEAST_BLOCKS => k_is)
    (case g_HEAD_OCTETS => k_is)
    (case g_SLOTS => k_is)
    (case g_LABELS => k_is)
    (case g_COMMIT => k_is)
    (case g_MOVE => k_is)
    (case g_DATA => k_is)
    (case g_SPARE => k_is)
    (case g_FACTOR => k_is)
    (case g_PRIME => k_is)
    (case g_LETTERS_labels => k_is)
    (case k_LETTERS_labels => k_is)
    (case g_HEAD => k_is)
    (case g_CHECK => k_is)
    (case g_SEATS => k_is)
    (case g_MOST_ACTION => k_is)
    (case g_HEADER => k_is)
    (case g_PART => k_is)
#print axioms PySem.Challenge.cw_sidekeep_k09_images_of_sides_holds
