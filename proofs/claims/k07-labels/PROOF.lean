import PyProof.Rows.All
import Wide.All
import OpenK.AllK
import Wide.FinOn
import HandS.ForMost
import HandS.Deep
import HandS.Style
import HandS.IsInst
import HandS.Rev
import PySem.Challenge.RW_sidekeep_k07_labels_tell_members
set_option Elab.async false
set_option maxRecDepth 100000
set_option maxHeartbeats 4000000
set_option linter.all false

namespace Sk
open PySem L2

/-! ### rules by values, joined over the kinds -/
section
variable {X : Cx}
def rAddU (K : PySem.W.Frag) : R2 := fun x y H Q => match x, y with
  | .int i, .int j => Q (.int (i + j)) H
  | .str i, .str j => i.length + j.length ≤ sizeLine ∧ Q (.str (i ++ j)) H
  | x, y => rCat x y H Q ∨ rCatT K x y H Q
theorem opAddU0 : OpR X (binaryOp .Add) (rAddU X.K) := by
  intro pins s σ H x y v u Q I rx ry h
  unfold rAddU at h
  split at h
  · exact op_add pins s σ H _ _ v u Q I rx ry ⟨_, _, rfl, rfl, h⟩
  · exact op_add_str pins s σ H _ _ v u Q I rx ry ⟨_, _, rfl, rfl, h.1, h.2⟩
  · rcases h with h | h
    · exact op_cat pins s σ H _ _ v u Q I rx ry h
    · exact op_catT pins s σ H _ _ v u Q I rx ry h
theorem opAddU {K : PySem.W.Frag} (hK : X.K = K := by rfl) : OpR X (binaryOp .Add) (rAddU K) := hK ▸ opAddU0
def rSubU : R2 := fun x y H Q => match x, y with
  | .int i, .int j => Q (.int (i - j)) H
  | _, _ => False
theorem opSubU : OpR X (binaryOp .Sub) rSubU := by
  intro pins s σ H x y v u Q I rx ry h
  unfold rSubU at h
  split at h
  · exact op_sub pins s σ H _ _ v u Q I rx ry ⟨_, _, rfl, rfl, h⟩
  · exact h.elim
def rMulU : R2 := fun x y H Q => match x, y with
  | .int i, .int j => CMul i j ∧ Q (.int (i * j)) H
  | x, y => rRep x y H Q
theorem opMultU : OpR X (binaryOp .Mult) rMulU := by
  intro pins s σ H x y v u Q I rx ry h
  unfold rMulU at h
  split at h
  · exact op_mul pins s σ H _ _ v u Q I rx ry ⟨_, _, rfl, rfl, h.1, h.2⟩
  · exact op_rep pins s σ H _ _ v u Q I rx ry h
def rModU : R2 := fun x y H Q => match x, y with
  | .int i, .int j => 0 < j ∧ Q (.int (i % j)) H
  | _, _ => False
theorem opModU : OpR X (binaryOp .Mod) rModU := by
  intro pins s σ H x y v u Q I rx ry h
  unfold rModU at h
  split at h
  · exact op_mod pins s σ H _ _ v u Q I rx ry ⟨_, _, rfl, rfl, h.1, h.2⟩
  · exact h.elim
def rDivU : R2 := fun x y H Q => match x, y with
  | .int i, .int j => CDiv i j ∧ Q (.int (i / j)) H
  | _, _ => False
theorem opFloorDivU : OpR X (binaryOp .FloorDiv) rDivU := by
  intro pins s σ H x y v u Q I rx ry h
  unfold rDivU at h
  split at h
  · exact op_fdiv pins s σ H _ _ v u Q I rx ry ⟨_, _, rfl, rfl, h.1, h.2⟩
  · exact h.elim
def rPowU : R2 := fun x y H Q => match x, y with
  | .int i, .int j => CPow i j ∧ Q (.int (i ^ j.toNat)) H
  | _, _ => False
theorem opPowU : OpR X (binaryOp .Pow) rPowU := by
  intro pins s σ H x y v u Q I rx ry h
  unfold rPowU at h
  split at h
  · exact op_pow pins s σ H _ _ v u Q I rx ry ⟨_, _, rfl, rfl, h.1, h.2⟩
  · exact h.elim
/-- == of scalars, or of data at any depth -/
def rEqU (K : PySem.W.Frag) : R2 := fun x y H Q => match x, y with
  | .int i, .int j => Q (.bl (decide (i = j))) H
  | .str i, .str j => Q (.bl (decide (i = j))) H
  | .bl i, .bl j => Q (.bl (decide (i = j))) H
  | x, y => rEqD K x y H Q
theorem opEqU0 (hu : X.A.units + 64 < cLine) : OpR X (compareOp .Eq) (rEqU X.K) := by
  intro pins s σ H x y v u Q I rx ry h
  unfold rEqU at h
  split at h
  · exact op_eq pins s σ H _ _ v u Q I rx ry ⟨rfl, by simpa using h⟩
  · exact op_eq pins s σ H _ _ v u Q I rx ry ⟨rfl, by simpa using h⟩
  · exact op_eq pins s σ H _ _ v u Q I rx ry ⟨rfl, by simpa using h⟩
  · exact op_eqD hu pins s σ H _ _ v u Q I rx ry h
theorem opEqU {K : PySem.W.Frag} (hu : X.A.units + 64 < cLine) (hK : X.K = K := by rfl) : OpR X (compareOp .Eq) (rEqU K) := hK ▸ opEqU0 hu
def rNeU (K : PySem.W.Frag) : R2 := fun x y H Q => match x, y with
  | .int i, .int j => Q (.bl (!decide (i = j))) H
  | .str i, .str j => Q (.bl (!decide (i = j))) H
  | .bl i, .bl j => Q (.bl (!decide (i = j))) H
  | x, y => rNeD K x y H Q
theorem opNeU0 (hu : X.A.units + 64 < cLine) : OpR X (compareOp .NotEq) (rNeU X.K) := by
  intro pins s σ H x y v u Q I rx ry h
  unfold rNeU at h
  split at h
  · exact op_ne pins s σ H _ _ v u Q I rx ry ⟨rfl, by simpa using h⟩
  · exact op_ne pins s σ H _ _ v u Q I rx ry ⟨rfl, by simpa using h⟩
  · exact op_ne pins s σ H _ _ v u Q I rx ry ⟨rfl, by simpa using h⟩
  · exact op_neD hu pins s σ H _ _ v u Q I rx ry h
theorem opNeU {K : PySem.W.Frag} (hu : X.A.units + 64 < cLine) (hK : X.K = K := by rfl) : OpR X (compareOp .NotEq) (rNeU K) := hK ▸ opNeU0 hu
def rIsU : R2 := fun x y H Q => match y with
  | .non => Q (.bl (decide (x = .non))) H
  | .bl b => ∃ a, x = .bl a ∧ Q (.bl (decide (a = b))) H
  | _ => False
theorem opIsU : OpR X (compareOp .Is) rIsU := by
  intro pins s σ H x y v u Q I rx ry h
  unfold rIsU at h
  split at h
  · exact op_isN pins s σ H _ _ v u Q I rx ry ⟨rfl, h⟩
  · obtain ⟨a, rfl, q⟩ := h; exact op_isBl pins s σ H _ _ v u Q I rx ry ⟨_, _, rfl, rfl, q⟩
  · exact h.elim
def rNotU : R2 := fun x y H Q => match y with
  | .non => Q (.bl (!decide (x = .non))) H
  | .bl b => ∃ a, x = .bl a ∧ Q (.bl (!decide (a = b))) H
  | _ => False
theorem opNotU : OpR X (compareOp .IsNot) rNotU := by
  intro pins s σ H x y v u Q I rx ry h
  unfold rNotU at h
  split at h
  · exact op_notN pins s σ H _ _ v u Q I rx ry ⟨rfl, h⟩
  · obtain ⟨a, rfl, q⟩ := h; exact op_notBl pins s σ H _ _ v u Q I rx ry ⟨_, _, rfl, rfl, q⟩
  · exact h.elim
theorem opInF0 : OpR X (compareOp .In) (rIn X.K false) := op_in_seq
theorem opInF {K : PySem.W.Frag} (hK : X.K = K := by rfl) : OpR X (compareOp .In) (rIn K false) := hK ▸ opInF0
theorem opNinF0 : OpR X (compareOp .NotIn) (rIn X.K true) := op_notIn_seq
theorem opNinF {K : PySem.W.Frag} (hK : X.K = K := by rfl) : OpR X (compareOp .NotIn) (rIn K true) := hK ▸ opNinF0
theorem ps_never {st : Stmt} : PS X st (fun _ _ _ => False) := ⟨fun _ _ _ _ _ _ h => h.elim⟩
theorem pe_never {e : Expr} : PE X e (fun _ _ _ => False) := ⟨fun _ _ _ _ _ _ h => h.elim⟩
theorem hu65 {A : Around} {k : Nat} (hr : Room k A) : A.units + 65 < cLine := by have := hr.un; omega
theorem opInU0 (hu : X.A.units + 65 < cLine) : OpR X (compareOp .In) (rInD X.K) := op_inD hu
theorem opInU {K : PySem.W.Frag} (hu : X.A.units + 65 < cLine) (hK : X.K = K := by rfl) : OpR X (compareOp .In) (rInD K) := hK ▸ opInU0 hu
theorem opNinU0 (hu : X.A.units + 65 < cLine) : OpR X (compareOp .NotIn) (rNotInD X.K) := op_notInD hu
theorem opNinU {K : PySem.W.Frag} (hu : X.A.units + 65 < cLine) (hK : X.K = K := by rfl) : OpR X (compareOp .NotIn) (rNotInD K) := hK ▸ opNinU0 hu
theorem ixU0 : IxR X (rIx X.K) := ix_seq
theorem ixU {K : PySem.W.Frag} (hK : X.K = K := by rfl) : IxR X (rIx K) := hK ▸ ixU0
theorem callMaxU {K : PySem.W.Frag} (hc : X.calm = true) (hK : X.K = K := by rfl) : CallR X (.builtin "max") (rMax K) := hK ▸ cr_max hc
theorem pi_revK {K : PySem.W.Frag} {tg e : Expr} {te : TE} {p pos : Pos} (hg : Gl X "reversed") (hm : X.mg "reversed" = none) (he : PE X e te) (hs : starEach [e] X.env = (false, eval e X.env) :: starEach [] X.env := by rfl) (hK : X.K = K := by rfl) :
    PI X tg (.Call (.Name "reversed" p) [e] [] pos) (RT.iRevA K te) := hK ▸ RT.pi_revA hg hm he hs
def rSlU (K : PySem.W.Frag) : V → Option Int → Option Int → Hp → VK → Prop := fun x lo hi H Q => rSlL K x lo hi H Q ∨ rSlT K x lo hi H Q
theorem slU0 : SlR X (rSlU X.K) := sl_list.or sl_tup
theorem slU {K : PySem.W.Frag} (hK : X.K = K := by rfl) : SlR X (rSlU K) := hK ▸ slU0
def rLenU (K : PySem.W.Frag) : List V → Hp → VK → Prop := fun xs H Q => ∃ x n, xs = [x] ∧ LenV K x H n ∧ Q (.int n) H
theorem callLenU0 : CallR X (.builtin "len") (rLenU X.K) := call_len
theorem callLenU {K : PySem.W.Frag} (hK : X.K = K := by rfl) : CallR X (.builtin "len") (rLenU K) := hK ▸ callLenU0
def rListU (K : PySem.W.Frag) : List V → Hp → VK → Prop := fun xs H Q => ∃ p ys, xs = [.ref p] ∧ (SqL K H p ys ∨ SqT K H p ys) ∧ ∀ l, H l = none → Q (.ref l) (upd H l (.lst ys))
theorem callListU0 : CallR X (.type "list") (rListU X.K) := call_list_of
theorem callListU {K : PySem.W.Frag} (hK : X.K = K := by rfl) : CallR X (.type "list") (rListU K) := hK ▸ callListU0
def rTupU (K : PySem.W.Frag) : List V → Hp → VK → Prop := fun xs H Q => ∃ p ys, xs = [.ref p] ∧ ((SqL K H p ys ∧ ∀ l, H l = none → Q (.ref l) (upd H l (.tup ys))) ∨ (SqT K H p ys ∧ Q (.ref p) H))
theorem callTupU0 : CallR X (.type "tuple") (rTupU X.K) := call_tuple_of
theorem callTupU {K : PySem.W.Frag} (hK : X.K = K := by rfl) : CallR X (.type "tuple") (rTupU K) := hK ▸ callTupU0
def rInt1 : List V → Hp → VK → Prop := fun xs H Q => (∃ i, xs = [.int i] ∧ Q (.int i) H) ∨ ∃ k, xs = [.bl k] ∧ Q (.int (if k then 1 else 0)) H
theorem callIntU : CallR X (.type "int") rInt1 := call_int1
/-! the layer's rules with the written part K named (a comprehension's block has it by computing) -/
variable {e : Expr} {es : List Expr} {te : TE} {t : TA} {pos : Pos} {tg : Expr} {K : PySem.W.Frag}
theorem pe_fldK {f : Str} (he : PE X e te) (hb : attributeBase e f X.env (eval e X.env) = eval e X.env) (hK : X.K = K := by rfl) : PE X (.Attribute e f pos) (tFld K te f) := hK ▸ pe_fld he hb
def tTruK (K : PySem.W.Frag) (ta : TE) : TT := fun σ H Q => ta σ H fun x H' => ∃ k, TruV K x H' k ∧ Q k H'
theorem pt_truthK (ha : PE X e te) (he : ∀ whole, isTrue e X.env whole = (do let v ← whole; standAt e.pos; holding [v] (truthy v))) (hK : X.K = K := by rfl) : PT X e (tTruK K te) := hK ▸ pt_truth ha he
theorem pi_listK (hl : PE X e te) (hK : X.K = K := by rfl) : PI X tg e (iList K te) := hK ▸ pi_list hl
theorem pi_tupK (hl : PE X e te) (hK : X.K = K := by rfl) : PI X tg e (iTup K te) := hK ▸ pi_tup hl
theorem pg_tupK {k : Nat} {t : TGs} {n : Nat} (hc : X.calm = true) (h : PGs X es t)
    (hn : (assignEach es X.env).length = n := by rfl) (hst : (assignEach es X.env).findIdx? (·.1) = none := by rfl) (hK : X.K = K := by rfl) : PG X (.Tuple es k pos) (gTup K n t) := hK ▸ pg_tup hc h hn hst
end

/-! ### steps of a reading -/
section
variable {K : PySem.W.Frag} {σ : St} {H H1 : Hp} {Q : VK} {QB : Bool → Hp → Prop} {QA : List V → Hp → Prop} {D : Ends} {i : Nat} {v x y : V} {te ta tb : TE} {t u : TS} {c cd : TT} {tr : TA} {E : XK} {A B : Prop}
theorem g_var (h : σ[i]? = some (some v)) (q : Q v H) : tVar i σ H Q := ⟨v, h, q⟩
theorem g_c (q : Q v H) : tC v σ H Q := q
theorem g_op {r : R2} (q : ta σ H fun x H1 => tb σ H1 fun y H2 => r x y H2 Q) : tOp r ta tb σ H Q := q
theorem g_un {r : V → Hp → VK → Prop} (q : ta σ H fun x H1 => r x H1 Q) : tUn r ta σ H Q := q
theorem g_neg {n : Int} (q : Q (.int (-n)) H) : rU (fun i => .int (-i)) (.int n) H Q := ⟨n, rfl, q⟩
theorem g_add {a b : Int} (q : Q (.int (a + b)) H) : rAddU K (.int a) (.int b) H Q := q
theorem g_sub {a b : Int} (q : Q (.int (a - b)) H) : rSubU (.int a) (.int b) H Q := q
theorem g_mul {a b : Int} (h : CMul a b) (q : Q (.int (a * b)) H) : rMulU (.int a) (.int b) H Q := ⟨h, q⟩
theorem g_mod {a b : Int} (h : 0 < b) (q : Q (.int (a % b)) H) : rModU (.int a) (.int b) H Q := ⟨h, q⟩
theorem g_div {a b : Int} (h : CDiv a b) (q : Q (.int (a / b)) H) : rDivU (.int a) (.int b) H Q := ⟨h, q⟩
theorem g_pow {a b : Int} (h : CPow a b) (q : Q (.int (a ^ b.toNat)) H) : rPowU (.int a) (.int b) H Q := ⟨h, q⟩
theorem g_cmp {g : Int → Int → V} {a b : Int} (q : Q (g a b) H) : rI0 g (.int a) (.int b) H Q := ⟨a, b, rfl, rfl, q⟩
theorem g_eqI {a b : Int} (q : Q (.bl (decide (a = b))) H) : rEqU K (.int a) (.int b) H Q := q
theorem g_eqS {a b : Str} (q : Q (.bl (decide (a = b))) H) : rEqU K (.str a) (.str b) H Q := q
theorem g_eqB {a b : Bool} (q : Q (.bl (decide (a = b))) H) : rEqU K (.bl a) (.bl b) H Q := q
theorem g_neI {a b : Int} (q : Q (.bl (!decide (a = b))) H) : rNeU K (.int a) (.int b) H Q := q
theorem g_neS {a b : Str} (q : Q (.bl (!decide (a = b))) H) : rNeU K (.str a) (.str b) H Q := q
theorem g_isN (q : Q (.bl (decide (x = .non))) H) : rIsU x .non H Q := q
theorem g_notN (q : Q (.bl (!decide (x = .non))) H) : rNotU x .non H Q := q
theorem g_isB {a b : Bool} (q : Q (.bl (decide (a = b))) H) : rIsU (.bl a) (.bl b) H Q := ⟨a, rfl, q⟩
theorem g_notB {a b : Bool} (q : Q (.bl (!decide (a = b))) H) : rNotU (.bl a) (.bl b) H Q := ⟨a, rfl, q⟩
theorem g_rep {p : Addr} {xs : List V} {k : Int} (h : H p = some (.lst xs)) (h1 : -(2 ^ 63) ≤ k) (h2 : k < 2 ^ 63) (z : xs.length * k.toNat ≤ sizeLine) (q : ∀ p, H p = none → Q (.ref p) (upd H p (.lst (List.replicate k.toNat xs).flatten))) : rMulU (.ref p) (.int k) H Q := ⟨p, k, xs, rfl, rfl, h, h1, h2, z, q⟩
theorem g_cat {a b : Addr} {xs zs : List V} (h : H a = some (.lst xs)) (g : H b = some (.lst zs)) (z : xs.length + zs.length ≤ sizeLine) (q : ∀ p, H p = none → Q (.ref p) (upd H p (.lst (xs ++ zs)))) : rAddU K (.ref a) (.ref b) H Q := .inl ⟨a, b, xs, zs, rfl, rfl, h, g, z, q⟩
theorem g_ninF {p : Addr} {xs : List V} (h : SqL K H p xs ∨ SqT K H p xs) (f : flatV x = true) (fs : xs.all flatV = true) (q : Q (.bl (!inV x xs)) H) : rIn K true x (.ref p) H Q := ⟨p, xs, rfl, h, f, fs, q⟩
theorem g_inF {p : Addr} {xs : List V} (h : SqL K H p xs ∨ SqT K H p xs) (f : flatV x = true) (fs : xs.all flatV = true) (q : Q (.bl (inV x xs)) H) : rIn K false x (.ref p) H Q := ⟨p, xs, rfl, h, f, fs, q⟩
theorem g_tupL {p : Addr} {xs : List V} (h : SqL K H p xs) (q : ∀ l, H l = none → Q (.ref l) (upd H l (.tup xs))) : rTupU K [.ref p] H Q := ⟨p, xs, rfl, .inl ⟨h, q⟩⟩
theorem g_listT {p : Addr} {ys : List V} (h : SqT K H p ys) (q : ∀ l, H l = none → Q (.ref l) (upd H l (.lst ys))) : rListU K [.ref p] H Q := ⟨p, ys, rfl, .inr h, q⟩
theorem g_ixL {p : Addr} {xs : List V} {j : Int} (h : SqL K H p xs) (e : atI xs j = some v) (q : Q v H) : rIx K (.ref p) (.int j) H Q := .inl ⟨p, xs, j, v, rfl, rfl, h, e, q⟩
theorem g_ixT {p : Addr} {xs : List V} {j : Int} (h : SqT K H p xs) (e : atI xs j = some v) (q : Q v H) : rIx K (.ref p) (.int j) H Q := .inr (.inl ⟨p, xs, j, v, rfl, rfl, h, e, q⟩)
theorem g_lenL {p : Addr} {xs : List V} (h : SqL K H p xs) (q : Q (.int (xs.length : Int)) H) : rLenU K [.ref p] H Q := ⟨_, _, rfl, .inl ⟨xs, h, rfl⟩, q⟩
theorem g_lenT {p : Addr} {xs : List V} (h : SqT K H p xs) (q : Q (.int (xs.length : Int)) H) : rLenU K [.ref p] H Q := ⟨_, _, rfl, .inr ⟨xs, h, rfl⟩, q⟩
theorem g_int {n : Int} (q : Q (.int n) H) : rInt1 [.int n] H Q := .inl ⟨n, rfl, q⟩
theorem g_intB {k : Bool} (q : Q (.int (if k then 1 else 0)) H) : rInt1 [.bl k] H Q := .inr ⟨k, rfl, q⟩
theorem g_setL {p : Addr} {xs : List V} {k : Int} {j : Nat} {QH : Hp → Prop} (h : H p = some (.lst xs)) (e : ixN xs.length k = some j) (q : QH (upd H p (.lst (xs.set j v)))) : rSetL (.ref p) (.int k) v H QH := ⟨p, xs, k, j, rfl, rfl, h, e, q⟩
theorem g_nil (q : QA [] H) : tNil σ H QA := q
theorem g_cons (q : te σ H fun x H1 => tr σ H1 fun xs H2 => QA (x :: xs) H2) : tCons te tr σ H QA := q
theorem g_cb {r : List V → Hp → VK → Prop} (q : tr σ H fun vs H1 => r vs H1 Q) : tCB r tr σ H Q := q
theorem g_tup (q : tr σ H fun xs H1 => xs.length ≤ sizeLine ∧ ∀ p, H1 p = none → Q (.ref p) (upd H1 p (.tup xs))) : tTup tr σ H Q := q
theorem g_lst (q : tr σ H fun xs H1 => xs.length ≤ sizeLine ∧ ∀ p, H1 p = none → Q (.ref p) (upd H1 p (.lst xs))) : tLst tr σ H Q := q
theorem g_test (q : te σ H fun x H' => ∃ k, x = .bl k ∧ QB k H') : tTest te σ H QB := q
theorem g_tB (q : te σ H fun x H' => ∃ k, x = .bl k ∧ QB k H') : tB te σ H QB := q
theorem g_bl {k : Bool} {P : Bool → Prop} (q : P k) : ∃ k', V.bl k = .bl k' ∧ P k' := ⟨k, rfl, q⟩
theorem g_not (q : c σ H fun b H1 => QB (!b) H1) : tNot c σ H QB := q
theorem g_and (q : c σ H fun b H1 => if b = true then cd σ H1 QB else QB false H1) : tAnd c cd σ H QB := q
theorem g_or (q : c σ H fun b H1 => if b = true then QB true H1 else cd σ H1 QB) : tOr c cd σ H QB := q
theorem g_if (q : c σ H fun b H1 => if b = true then t D σ H1 else u D σ H1) : tIfS c t u D σ H := q
theorem g_andV {ta tb : TE} (q : ta σ H fun x H1 => ∃ c, x = .bl c ∧ if c = true then tb σ H1 Q else Q (.bl false) H1) : tAndV ta tb σ H Q := q
theorem g_orV {ta tb : TE} (q : ta σ H fun x H1 => ∃ c, x = .bl c ∧ if c = true then Q (.bl true) H1 else tb σ H1 Q) : tOrV ta tb σ H Q := q
theorem g_notV {ta : TE} (q : ta σ H fun x H1 => ∃ c, x = .bl c ∧ Q (.bl (!c)) H1) : tNotV ta σ H Q := q
theorem g_ife (q : c σ H fun b H1 => if b = true then ta σ H1 Q else tb σ H1 Q) : tIf c ta tb σ H Q := q
theorem g_ite {p : Prop} [Decidable p] (h1 : p → A) (h2 : ¬ p → B) : if decide p = true then A else B := by
  by_cases h : p
  · rw [if_pos (decide_eq_true h)]; exact h1 h
  · rw [if_neg (by simp [h])]; exact h2 h
theorem g_iteN {p : Prop} [Decidable p] (h1 : ¬ p → A) (h2 : p → B) : if (!decide p) = true then A else B := by
  by_cases h : p
  · rw [if_neg (by simp [h])]; exact h2 h
  · rw [if_pos (by simp [h])]; exact h1 h
theorem g_iteB {b : Bool} (h1 : b = true → A) (h2 : b = false → B) : if b = true then A else B := by
  cases b
  · rw [if_neg Bool.false_ne_true]; exact h2 rfl
  · rw [if_pos rfl]; exact h1 rfl
theorem g_iteT {b : Bool} (h : b = true) (q : A) : if b = true then A else B := by rw [if_pos h]; exact q
theorem g_iteF {b : Bool} (h : b = false) (q : B) : if b = true then A else B := by rw [if_neg (by rw [h]; exact Bool.false_ne_true)]; exact q
theorem g_seq (q : t { D with nx := u D } σ H) : tSeq t u D σ H := q
theorem g_next (q : D.nx σ H) : tNext D σ H := q
theorem g_ret (q : te σ H D.rt) : tRet te D σ H := q
theorem g_retN (q : D.rt .non H) : tRetN D σ H := q
theorem g_drop (q : te σ H fun _ H1 => D.nx σ H1) : tDrop te D σ H := q
theorem g_asg (q : te σ H fun x H1 => D.nx (σ.set i (some x)) H1) : tAsg te (gName i) D σ H := q
theorem g_asgS {to ti : TE} {ts : TSet} (q : te σ H fun x H1 => to σ H1 fun o H2 => ti σ H2 fun k H3 => ts o k x H3 fun H4 => D.nx σ H4) : tAsg te (gSub to ti ts) D σ H := q
theorem g_seqA (q : te σ H fun x H1 => u D (σ.set i (some x)) H1) : tSeq (tAsg te (gName i)) u D σ H := q
theorem g_seqS {to ti : TE} {ts : TSet} (q : te σ H fun x H1 => to σ H1 fun o H2 => ti σ H2 fun k H3 => ts o k x H3 fun H4 => u D σ H4) : tSeq (tAsg te (gSub to ti ts)) u D σ H := q
theorem g_seqD (q : te σ H fun _ H1 => u D σ H1) : tSeq (tDrop te) u D σ H := q
theorem g_seqI {w : TS} (q : c σ H fun b H1 => if b = true then t { D with nx := w D } σ H1 else u { D with nx := w D } σ H1) : tSeq (tIfS c t u) w D σ H := q
theorem g_joinI {p : Prop} [Decidable p] {v0 : V} (Rv : V → Prop) (h0 : σ[i]? = some (some v0)) (ht : p → ∀ Q : VK, (∀ x, Rv x → Q x H) → te σ H Q) (hf : ¬ p → Rv v0) (rest : ∀ x, Rv x → u D (σ.set i (some x)) H) :
    if decide p = true then tAsg te (gName i) { D with nx := u D } σ H else tNext { D with nx := u D } σ H := by
  refine g_ite (fun h => ht h _ fun x r => rest x r) (fun h => ?_)
  have e : σ.set i (some v0) = σ := by
    apply List.ext_getElem? 
    intro j
    by_cases hj : i = j
    · subst hj
      rw [h0]
      have hl : i < σ.length := (List.getElem?_eq_some_iff.mp h0).1
      simp [hl]
    · rw [List.getElem?_set_ne hj]
  have := rest v0 (hf h)
  rw [e] at this
  exact this
theorem g_truth (q : te σ H fun x H' => ∃ k, TruV K x H' k ∧ QB k H') : tTruK K te σ H QB := q
theorem g_call {sp : Sp} {dvs : List V} (q : tr σ H fun vs H1 => sp (vs ++ dvs) H1 Q E) : tCall sp dvs E tr σ H Q := q
/-- o.f, by values -/
def FldW (K : PySem.W.Frag) (x : V) (f : Str) (H : Hp) (Q : VK) : Prop := ∃ a C dx fs v, x = .ref a ∧ H a = some (.ins C dx fs) ∧ Cls K C ∧ NoAttr K C f ∧ fs.lookup f = some v ∧ Q v H
theorem g_fld {f : Str} (q : te σ H fun x H1 => FldW K x f H1 Q) : tFld K te f σ H Q := q
theorem g_fldW {a C dx : Addr} {fs : List (Str × V)} {f : Str} (h : H a = some (.ins C dx fs)) (c : Cls K C) (n : NoAttr K C f) (l : fs.lookup f = some v) (q : Q v H) : FldW K (.ref a) f H Q := ⟨a, C, dx, fs, v, rfl, h, c, n, l, q⟩
/-- o.f = y, by values -/
def SetW (K : PySem.W.Frag) (x y : V) (f : Str) (H : Hp) (QH : Hp → Prop) : Prop := ∃ a C dx fs, x = .ref a ∧ H a = some (.ins C dx fs) ∧ Cls K C ∧ NoAttr K C f ∧ fs.length < 1000 ∧ QH (upd H a (.ins C dx (putF f y fs)))
theorem g_sfld {f : Str} (q : ta σ H fun y H1 => te σ H1 fun x H2 => SetW K x y f H2 fun H3 => D.nx σ H3) : sFld K te ta f D σ H := q
theorem g_seqF {f : Str} (q : ta σ H fun y H1 => te σ H1 fun x H2 => SetW K x y f H2 fun H3 => u D σ H3) : tSeq (sFld K te ta f) u D σ H := q
theorem g_setW {a C dx : Addr} {fs : List (Str × V)} {f : Str} {QH : Hp → Prop} (h : H a = some (.ins C dx fs)) (c : Cls K C) (n : NoAttr K C f) (z : fs.length < 1000) (q : QH (upd H a (.ins C dx (putF f y fs)))) : SetW K (.ref a) y f H QH := ⟨a, C, dx, fs, rfl, h, c, n, z, q⟩
/-- a method of a list, of another built-in type -/
theorem g_bm {ty : String} {r : V → List V → Hp → VK → Prop} (q : te σ H fun x H1 => tyV K ty x H1 ∧ tr σ H1 fun xs H2 => r x xs H2 Q) : tBM K ty r te tr σ H Q := q
theorem g_bm0 {ty : String} {r : V → List V → Hp → VK → Prop} (q : te σ H fun x H1 => tyV K ty x H1 ∧ r x [] H1 Q) : tBM0 K ty r te σ H Q := q
theorem g_tyL {p : Addr} {xs : List V} {P : Prop} (h : H p = some (.lst xs)) (q : P) : tyV K "list" (.ref p) H ∧ P := ⟨.inl ⟨rfl, _, SqL.of h⟩, q⟩
theorem g_app {p : Addr} {xs : List V} (h : H p = some (.lst xs)) (z : xs.length < sizeLine) (q : Q .non (upd H p (.lst (xs ++ [v])))) : rAppend (.ref p) [v] H Q := ⟨p, xs, v, rfl, rfl, h, z, q⟩
def MW (C : Addr) (m : Str) (x : V) (H : Hp) (P : Prop) : Prop := ∃ a dx fs, x = .ref a ∧ H a = some (.ins C dx fs) ∧ fs.lookup m = none ∧ P
theorem g_meth {C : Addr} {m : Str} {sp : Sp} {dvs : List V} (q : te σ H fun x H1 => MW C m x H1 (tr σ H1 fun vs H2 => sp (x :: (vs ++ dvs)) H2 Q E)) : tMeth C m sp dvs E te tr σ H Q := q
theorem g_MW {C a dx : Addr} {fs : List (Str × V)} {m : Str} {P : Prop} (h : H a = some (.ins C dx fs)) (l : fs.lookup m = none) (q : P) : MW C m (.ref a) H P := ⟨a, dx, fs, rfl, h, l, q⟩
/-- C(..) -/
theorem g_make {C : Addr} {sp : Sp} {dvs : List V} (q : tr σ H fun vs H1 => ∀ x dx, H1 x = none → H1 dx = none → dx ≠ x →
  sp (.ref x :: (vs ++ dvs)) (upd (upd H1 dx (.own x)) x (.ins C dx [])) (fun v H2 => v = .non ∧ Q (.ref x) H2) E) : tMake C sp dvs E tr σ H Q := q
theorem g_sl {r : V → Option Int → Option Int → Hp → VK → Prop} {tl th : TO} (q : te σ H fun x H1 => tl σ H1 fun l H2 => th σ H2 fun u H3 => r x l u H3 Q) : tSl r te tl th σ H Q := q
def PartW (x : V) (H : Hp) (Q : Option Int → Hp → Prop) : Prop := ∃ i, x = .int i ∧ Q (some i) H
theorem g_part {QO : Option Int → Hp → Prop} (q : te σ H fun x H1 => PartW x H1 QO) : tPart te σ H QO := q
theorem g_partW {QO : Option Int → Hp → Prop} {n : Int} (q : QO (some n) H) : PartW (.int n) H QO := ⟨n, rfl, q⟩
theorem g_noPart {QO : Option Int → Hp → Prop} (q : QO none H) : tNoPart σ H QO := q
theorem g_slL {p : Addr} {xs : List V} {lo hi : Option Int} (h : SqL K H p xs) (q : ∀ p, H p = none → Q (.ref p) (upd H p (.lst (cutV xs lo hi)))) : rSlU K (.ref p) lo hi H Q := .inl ⟨p, xs, rfl, h, q⟩
/-! loops: what is walked, then the loop's own question -/
def ForW (J : It) (g : TG) (tb : TS) (D : Ends) (σ : St) (H1 : Hp) : Prop := ∃ W : Nat → Nat → St → Hp → Prop, (∃ m, W 0 m σ H1) ∧ ∀ i m σ H, W i m σ H →
  (J.stop i H ∧ D.nx σ H) ∨ (J.go i H ∧ ∃ N : St → Hp → Prop, (∀ σ' H', N σ' H' → ∃ m', m' < m ∧ W (i + 1) m' σ' H') ∧ ∀ x H', J.yld i H x H' → g x σ H' fun σ2 H2 => tb { D with nx := N, ct := N, bk := D.nx } σ2 H2)
theorem g_for {wi : TI} {g : TG} {tb : TS} (q : wi σ H fun J H1 => ForW J g tb D σ H1) : tFor wi g tb D σ H := q
theorem g_seqFor {wi : TI} {g : TG} {tb : TS} (q : wi σ H fun J H1 => ForW J g tb { D with nx := u D } σ H1) : tSeq (tFor wi g tb) u D σ H := q
def LcW (J : It) (g : TG) (tt : TT) (te : TE) (vs : List Nat) (σ : St) (Q : VK) (H1 : Hp) : Prop := ∀ D, H1 D = none → ∃ W : Nat → Nat → Hp → Prop, (∃ m, W 0 m (upd H1 D (.lst []))) ∧ ∀ i m H, W i m H →
  (J.stop i H ∧ Q (.ref D) H) ∨ (J.go i H ∧ ∃ Nx : Hp → Prop, (∀ H', Nx H' → ∃ m', m' < m ∧ W (i + 1) m' H') ∧ ∀ x H', J.yld i H x H' → g x (wipe σ vs) H' fun σ2 H2 => wipe σ2 vs = wipe σ vs ∧ tt σ2 H2 fun b H3 =>
    if b = true then te σ2 H3 fun y H4 => ∃ acc, H4 D = some (.lst acc) ∧ acc.length < sizeLine ∧ Nx (upd H4 D (.lst (acc ++ [y]))) else Nx H3)
theorem g_lc {wi : TI} {g : TG} {tt : TT} {vs : List Nat} (q : wi σ H fun J H1 => LcW J g tt te vs σ Q H1) : tLc wi g tt te vs σ H Q := q
def LsW (K : PySem.W.Frag) (x : V) (H : Hp) (R : It → Hp → Prop) : Prop := ∃ a, x = .ref a ∧ (∃ xs, SqL K H a xs) ∧ R (Itl K a) H
theorem g_iList {R : It → Hp → Prop} (q : te σ H fun x H1 => LsW K x H1 R) : iList K te σ H R := q
theorem g_LsW {R : It → Hp → Prop} {a : Addr} {xs : List V} (h : SqL K H a xs) (q : R (Itl K a) H) : LsW K (.ref a) H R := ⟨a, rfl, ⟨xs, h⟩, q⟩
def R1W (vs : List V) (H : Hp) (R : It → Hp → Prop) : Prop := ∃ j : Int, vs = [.int j] ∧ -(2 ^ 62) ≤ j ∧ j < 2 ^ 62 ∧ R (Itr 0 j.toNat) H
theorem g_iR1 {R : It → Hp → Prop} (q : tr σ H fun vs H1 => R1W vs H1 R) : iRng1 tr σ H R := q
theorem g_R1W {R : It → Hp → Prop} {n : Nat} {j : Int} (e : j = (n : Int)) (h : n ≤ 100000) (q : R (Itr 0 n) H) : R1W [.int j] H R := by subst e; exact ⟨n, rfl, by omega, by omega, q⟩
def R2W (vs : List V) (H : Hp) (R : It → Hp → Prop) : Prop := ∃ i j : Int, vs = [.int i, .int j] ∧ (-(2 ^ 62) ≤ i ∧ i < 2 ^ 62 ∧ -(2 ^ 62) ≤ j ∧ j < 2 ^ 62) ∧ R (Itr i (j - i).toNat) H
theorem g_iR2 {R : It → Hp → Prop} (q : tr σ H fun vs H1 => R2W vs H1 R) : iRng2 tr σ H R := q
def RvW (K : PySem.W.Frag) (v : V) (H : Hp) (R : It → Hp → Prop) : Prop := ∃ (a : Addr) (xs : List V), v = .ref a ∧ ((SqL K H a xs ∧ R (Itv K a xs.length) H) ∨ (SqT K H a xs ∧ R (RT.ItvT K a xs.length) H))
theorem g_iRev {te : TE} {R : It → Hp → Prop} (q : te σ H fun v H1 => RvW K v H1 R) : RT.iRevA K te σ H R := q
theorem g_ext {l b : Addr} {xs zs : List V} (h : H l = some (.lst xs)) (g : H b = some (.lst zs)) (z : xs.length + zs.length ≤ sizeLine) (q : Q .non (upd H l (.lst (xs ++ zs)))) : rExtend (.ref l) [.ref b] H Q := ⟨l, b, xs, zs, rfl, rfl, h, g, z, q⟩
theorem g_slT {p : Addr} {xs : List V} {lo hi : Option Int} (h : SqT K H p xs) (w : ¬ (HT.sIx xs.length 0 lo = 0 ∧ HT.sIx xs.length xs.length hi = xs.length)) (q : ∀ p, H p = none → Q (.ref p) (upd H p (.tup (cutV xs lo hi)))) : rSlU K (.ref p) lo hi H Q := .inr ⟨p, xs, rfl, h, w, q⟩
theorem g_max {a : Addr} {ns : List Int} (h : SqL K H a (ns.map V.int)) (z : 0 < ns.length) (q : ∀ m, m ∈ ns → (∀ y, y ∈ ns → y ≤ m) → Q (.int m) H) : rMax K [.ref a] H Q := ⟨a, ns, rfl, h, z, q⟩
theorem inV_ints (i : Int) : ∀ l : List Int, inV (.int i) (l.map V.int) = decide (i ∈ l)
  | [] => by simp [inV]
  | n :: r => by
    have h := inV_ints i r
    unfold inV at h ⊢
    rw [List.map_cons, List.any_cons, h]
    rw [show eqV (.int n) (.int i) = decide (i = n) by rw [eqV, Bool.eq_iff_iff, beq_iff_eq, decide_eq_true_iff]; exact eq_comm]
    by_cases e : i = n <;> by_cases f : i ∈ r <;> simp [e, f]
theorem flat_ints (l : List Int) : (l.map V.int).all flatV = true := by
  induction l with
  | nil => rfl
  | cons n r ih => rw [List.map_cons, List.all_cons, ih]; rfl
theorem g_gName {QG : St → Hp → Prop} (q : QG (σ.set i (some v)) H) : gName i v σ H QG := q
end
end Sk

namespace Sk
open PySem L2
/-! ### what is read for ever (R) within what is tracked (H) -/
structure Gr (M : List Addr) (R H R' H' : Hp) : Prop where
  rr : Same R R'
  rh : Same R' H'
  hh : ∀ a o, a ∉ M → H a = some o → H' a = some o
  fr : ∀ b o, H b = some o → R b = none → R' b = none
  th : ∀ b o, H b = some o → ∃ o', H' b = some o'
section
variable {M : List Addr} {R H R1 H1 R2 H2 : Hp} {p : Addr} {o : HO} {Q : VK} {K : PySem.W.Frag}
theorem Gr.refl (h : Same R H) : Gr M R H R H := ⟨Same.refl _, h, fun _ _ _ e => e, fun _ _ _ e => e, fun _ o e => ⟨o, e⟩⟩
theorem Gr.trans (a : Gr M R H R1 H1) (b : Gr M R1 H1 R2 H2) : Gr M R H R2 H2 :=
  ⟨a.rr.trans b.rr, b.rh, fun c o m e => b.hh c o m (a.hh c o m e), fun c o e n => let ⟨o', e'⟩ := a.th c o e; b.fr c o' e' (a.fr c o e n), fun c o e => let ⟨o', e'⟩ := a.th c o e; b.th c o' e'⟩
theorem Gr.mono {M' : List Addr} (a : Gr M R H R1 H1) (h : ∀ x ∈ M, x ∈ M') : Gr M' R H R1 H1 := ⟨a.rr, a.rh, fun c o m e => a.hh c o (fun z => m (h _ z)) e, a.fr, a.th⟩
theorem Gr.nil (a : Gr [] R H R1 H1) : Gr M R H R1 H1 := a.mono fun _ z => nomatch z
theorem Gr.same (a : Gr [] R H R1 H1) : Same H H1 := fun b o e => a.hh b o (by simp) e
theorem Gr.free (a : Gr M R H R1 H1) (h : H1 p = none) : H p = none := by
  cases e : H p with
  | none => rfl
  | some o => obtain ⟨o', e'⟩ := a.th p o e; rw [h] at e'; cases e'
/-- an object that changes is behind all changes still one that is not read for ever -/
theorem Gr.mut (h : Same R H) (n : R p = none) (e : H p = some o) {o' : HO} : Gr [p] R H R (upd H p o') := by
  refine ⟨Same.refl _, fun b u q => ?_, fun b u m q => ?_, fun _ _ _ q => q, fun b u q => ?_⟩
  · rw [upd_ne (ne_of_none q n)]; exact h b u q
  · rw [upd_ne (by simpa using m)]; exact q
  · by_cases hb : b = p
    · subst hb; exact ⟨o', upd_same⟩
    · exact ⟨u, by rw [upd_ne hb]; exact q⟩
theorem Same.free' (h : Same R H) (n : H p = none) : R p = none := h.free n
theorem Gr.newR (h : Same R H) (n : H p = none) : Gr M R H (upd R p o) (upd H p o) := by
  refine ⟨fun b u q => ?_, fun b u q => ?_, fun b u _ q => ?_, fun b u q m => ?_, fun b u q => ⟨u, ?_⟩⟩
  · rw [upd_ne (ne_of_none q (h.free n))]; exact q
  · by_cases hb : b = p
    · subst hb; rw [upd_same] at q ⊢; exact q
    · rw [upd_ne hb] at q ⊢; exact h b u q
  · rw [upd_ne (ne_of_none q n)]; exact q
  · rw [upd_ne (ne_of_none q n)]; exact m
  · rw [upd_ne (ne_of_none q n)]; exact q
theorem Gr.newM (h : Same R H) (n : H p = none) : Gr M R H R (upd H p o) := by
  refine ⟨Same.refl _, fun b u q => ?_, fun b u _ q => ?_, fun _ _ _ m => m, fun b u q => ⟨u, ?_⟩⟩
  · rw [upd_ne (ne_of_none (h b u q) n)]; exact h b u q
  · rw [upd_ne (ne_of_none q n)]; exact q
  · rw [upd_ne (ne_of_none q n)]; exact q
/-- not tracked (a word of its own, so that a search finds the heap) -/
def Free (H : Hp) (p : Addr) : Prop := H p = none
theorem Free.ne {a b : Addr} {o : HO} (n : Free H b) (h : H a = some o) : a ≠ b := ne_of_none h n
theorem Gr.frI (a : Gr M R H R1 H1) {b : Addr} {o : HO} (h : H b = some o) (n : R b = none) : R1 b = none := a.fr b o h n
theorem newR_ex {H1 : Hp} (h : Same R H) (n : H p = none) (q : upd H p o = H1) : ∃ R1, Free H p ∧ Gr [] R H R1 H1 ∧ R1 p = some o ∧ Same R1 H1 := by
  subst q
  exact ⟨upd R p o, n, .newR h n, upd_same, (Gr.newR (M := []) h n).rh⟩
/-- the same, R unchanged (kept apart so that a search along R does not run in a circle) -/
structure Mu (M : List Addr) (R H H1 : Hp) : Prop where
  g : Gr M R H R H1
theorem newM_ex {H1 : Hp} (h : Same R H) (n : H p = none) (q : upd H p o = H1) : Free H p ∧ Mu [] R H H1 ∧ R p = none ∧ H1 p = some o ∧ Same R H1 := by
  subst q
  exact ⟨n, ⟨.newM h n⟩, h.free n, upd_same, (Gr.newM (M := []) h n).rh⟩
theorem mut_ex {H1 : Hp} {o' : HO} (h : Same R H) (n : R p = none) (e : H p = some o) (q : upd H p o' = H1) : Mu [p] R H H1 ∧ H1 p = some o' ∧ Same R H1 := by
  subst q
  exact ⟨⟨.mut h n e⟩, upd_same, (Gr.mut h n e).rh⟩
theorem allocR (h : Same R H) (k : ∀ p R' H', Gr [] R H R' H' → R' p = some o → H p = none → Q (.ref p) H') : ∀ p, H p = none → Q (.ref p) (upd H p o) :=
  fun p n => k p (upd R p o) _ (.newR h n) upd_same n
theorem allocM (h : Same R H) (k : ∀ p H', Gr [] R H R H' → H p = none → R p = none → H' p = some o → Q (.ref p) H') : ∀ p, H p = none → Q (.ref p) (upd H p o) :=
  fun p n => k p _ (.newM h n) n (h.free n) upd_same
theorem Same.rd {H H' : Hp} (e : Same H H') {a : Addr} {u : HO} (h : Rd H a u) : Rd H' a u := by
  rcases h with h | ⟨o, h⟩
  · exact .inl (e _ _ h)
  · exact .inr ⟨o, e _ _ h⟩
theorem sqT_mono {H H' : Hp} {a : Addr} {xs : List V} (e : Same H H') (h : SqT K H a xs) : SqT K H' a xs := by
  rcases h with h | h
  · exact .inl (Same.rd e h)
  · exact .inr h
theorem sqL_mono {H H' : Hp} {a : Addr} {xs : List V} (e : Same H H') (h : SqL K H a xs) : SqL K H' a xs := e.seq h
mutual
theorem dp_mono {H H' : Hp} (e : Same H H') : ∀ {d : PyData} {v : V}, Dp K H v d → Dp K H' v d
  | .none, _, h => by cases h; exact .non
  | .bool b, _, h => by cases h; exact .bl b
  | .int i, _, h => by cases h; exact .int i
  | .str x, _, h => by cases h; exact .str x
  | .list ds, _, h => by cases h with | lst a b => exact .lst (sqL_mono e a) (dpAll_mono e b)
  | .tuple ds, _, h => by cases h with | tup a b => exact .tup (sqT_mono e a) (dpAll_mono e b)
  | .dict _, _, h => by cases h
theorem dpAll_mono {H H' : Hp} (e : Same H H') : ∀ {ds : List PyData} {vs : List V}, DpAll K H vs ds → DpAll K H' vs ds
  | [], _, h => by cases h; exact .nil
  | d :: ds, _, h => by cases h with | cons a b => exact .cons (dp_mono e a) (dpAll_mono e b)
end
theorem dpAll_len : ∀ {ds : List PyData} {vs : List V}, DpAll K H vs ds → vs.length = ds.length
  | [], _, h => by cases h; rfl
  | d :: ds, _, h => by cases h with | cons a b => simp [dpAll_len b]
theorem dpAll_get : ∀ {ds : List PyData} {vs : List V} {i : Nat} {d : PyData}, DpAll K H vs ds → ds[i]? = some d → ∃ v, vs[i]? = some v ∧ Dp K H v d
  | [], _, _, _, _, e => by simp at e
  | d :: ds, _, 0, d', h, e => by cases h with | cons a b => simp at e; subst e; exact ⟨_, rfl, a⟩
  | d :: ds, _, i + 1, d', h, e => by
    cases h with
    | cons a b =>
      obtain ⟨v, q, r⟩ := dpAll_get (i := i) b (by simpa using e)
      exact ⟨v, by simpa using q, r⟩
theorem dpAll_get' : ∀ {ds : List PyData} {vs : List V} {i : Nat} {v : V}, DpAll K H vs ds → vs[i]? = some v → ∃ d, ds[i]? = some d ∧ Dp K H v d
  | [], _, _, _, h, e => by cases h; simp at e
  | d :: ds, _, 0, v', h, e => by cases h with | cons a b => simp at e; subst e; exact ⟨_, rfl, a⟩
  | d :: ds, _, i + 1, v', h, e => by
    cases h with
    | cons a b =>
      obtain ⟨v, q, r⟩ := dpAll_get' (i := i) b (by simpa using e)
      exact ⟨v, by simpa using q, r⟩
theorem dpAll_app : ∀ {ds es : List PyData} {vs us : List V}, DpAll K H vs ds → DpAll K H us es → DpAll K H (vs ++ us) (ds ++ es)
  | [], _, _, _, h, g => by cases h; exact g
  | d :: ds, _, _, _, h, g => by cases h with | cons a b => exact .cons a (dpAll_app b g)
theorem dpAll_take : ∀ {ds : List PyData} {vs : List V} (n : Nat), DpAll K H vs ds → DpAll K H (vs.take n) (ds.take n)
  | _, _, 0, _ => by simpa using DpAll.nil
  | [], _, n + 1, h => by cases h; simpa using DpAll.nil
  | d :: ds, _, n + 1, h => by cases h with | cons a b => simpa using DpAll.cons a (dpAll_take n b)
theorem dpAll_drop : ∀ {ds : List PyData} {vs : List V} (n : Nat), DpAll K H vs ds → DpAll K H (vs.drop n) (ds.drop n)
  | _, _, 0, h => by simpa using h
  | [], _, n + 1, h => by cases h; simpa using DpAll.nil
  | d :: ds, _, n + 1, h => by cases h with | cons a b => simpa using dpAll_drop n b
theorem dpAll_set : ∀ {ds : List PyData} {vs : List V} (i : Nat) {v : V} {d : PyData}, DpAll K H vs ds → Dp K H v d → DpAll K H (vs.set i v) (ds.set i d)
  | [], _, i, _, _, h, _ => by cases h; simpa using DpAll.nil
  | d :: ds, _, 0, _, _, h, g => by cases h with | cons a b => simpa using DpAll.cons g b
  | d :: ds, _, i + 1, _, _, h, g => by cases h with | cons a b => simpa using DpAll.cons a (dpAll_set i b g)
theorem dpAll_ints : ∀ (ns : List Int), DpAll K H (ns.map V.int) (ns.map PyData.int)
  | [] => .nil
  | n :: ns => .cons (.int n) (dpAll_ints ns)
theorem dpAll_cut {ds : List PyData} {vs : List V} (h : DpAll K H vs ds) (lo hi : Option Int) :
    DpAll K H (cutV vs lo hi) ((ds.drop (HT.sIx ds.length 0 lo)).take (HT.sIx ds.length ds.length hi - HT.sIx ds.length 0 lo)) := by
  unfold cutV
  rw [dpAll_len h]
  exact dpAll_take _ (dpAll_drop _ h)
theorem dp_list {v : V} {ds : List PyData} (h : Dp K H v (.list ds)) : ∃ a vs, v = .ref a ∧ SqL K H a vs ∧ DpAll K H vs ds := by
  cases h with | lst a b => exact ⟨_, _, rfl, a, b⟩
theorem dp_tup {v : V} {ds : List PyData} (h : Dp K H v (.tuple ds)) : ∃ a vs, v = .ref a ∧ SqT K H a vs ∧ DpAll K H vs ds := by
  cases h with | tup a b => exact ⟨_, _, rfl, a, b⟩
theorem dp_int {v : V} {i : Int} (h : Dp K H v (.int i)) : v = .int i := by cases h; rfl
theorem dp_str {v : V} {i : Str} (h : Dp K H v (.str i)) : v = .str i := by cases h; rfl
theorem dp_non {v : V} (h : Dp K H v .none) : v = .non := by cases h; rfl
end
/-! ### equal data -/
mutual
/-- no bools, no dicts -/
def clean : PyData → Bool
  | .none | .int _ | .str _ => true
  | .bool _ | .dict _ => false
  | .list xs | .tuple xs => cleanAll xs
def cleanAll : List PyData → Bool
  | [] => true
  | x :: xs => clean x && cleanAll xs
end
mutual
theorem eqv_iff : ∀ {d e : PyData}, clean d = true → clean e = true → (PyData.eqv d e = true ↔ d = e)
  | .none, e, _, he => by cases e <;> simp_all [PyData.eqv, clean]
  | .int i, e, _, he => by cases e <;> simp_all [PyData.eqv, clean]
  | .str i, e, _, he => by cases e <;> simp_all [PyData.eqv, clean]
  | .bool i, e, hd, _ => by simp [clean] at hd
  | .dict i, e, hd, _ => by simp [clean] at hd
  | .list xs, e, hd, he => by
    cases e with
    | list ys => rw [PyData.eqv, eqvAll_iff (by simpa [clean] using hd) (by simpa [clean] using he)]; simp
    | _ => simp_all [PyData.eqv, clean]
  | .tuple xs, e, hd, he => by
    cases e with
    | tuple ys => rw [PyData.eqv, eqvAll_iff (by simpa [clean] using hd) (by simpa [clean] using he)]; simp
    | _ => simp_all [PyData.eqv, clean]
theorem eqvAll_iff : ∀ {ds es : List PyData}, cleanAll ds = true → cleanAll es = true → (PyData.eqvAll ds es = true ↔ ds = es)
  | [], [], _, _ => by simp [PyData.eqvAll]
  | [], e :: es, _, _ => by simp [PyData.eqvAll]
  | d :: ds, [], _, _ => by simp [PyData.eqvAll]
  | d :: ds, e :: es, hd, he => by
    have hd' : clean d = true ∧ cleanAll ds = true := by simpa [cleanAll] using hd
    have he' : clean e = true ∧ cleanAll es = true := by simpa [cleanAll] using he
    rw [PyData.eqvAll, Bool.and_eq_true, eqv_iff hd'.1 he'.1, eqvAll_iff hd'.2 he'.2]; simp
end
/-! ### enumerate -/
theorem for_enum {K : PySem.W.Frag} {a : Addr} {xs : List V} {g : TG} {tb : TS} {D : Ends} {σ : St} {H : Hp} (Pv : Nat → St → Hp → Prop) (h0 : Pv 0 σ H) (hl : ∀ i σ H, i ≤ xs.length → Pv i σ H → SqL K H a xs)
    (hs : ∀ i x T σ H, xs[i]? = some x → Pv i σ H → H T = none → g (.ref T) σ (upd H T (.tup [.int ((i : Nat) : Int), x])) fun σ2 H2 => tb { D with nx := Pv (i + 1), ct := Pv (i + 1), bk := D.nx } σ2 H2) (hd : ∀ σ H, Pv xs.length σ H → D.nx σ H) :
    ∃ W : Nat → Nat → St → Hp → Prop, (∃ m, W 0 m σ H) ∧ ∀ i m σ H, W i m σ H →
      ((Ite K a).stop i H ∧ D.nx σ H) ∨ ((Ite K a).go i H ∧ ∃ N : St → Hp → Prop, (∀ σ' H', N σ' H' → ∃ m', m' < m ∧ W (i + 1) m' σ' H') ∧ ∀ x H', (Ite K a).yld i H x H' → g x σ H' fun σ2 H2 => tb { D with nx := N, ct := N, bk := D.nx } σ2 H2) := by
  refine ⟨fun i m σ H => m = xs.length - i ∧ i ≤ xs.length ∧ Pv i σ H, ⟨xs.length, by simp, Nat.zero_le _, h0⟩, ?_⟩
  rintro i m σ H ⟨rfl, hi, p⟩
  have q := hl i σ H hi p
  by_cases hlt : i < xs.length
  · refine .inr ⟨⟨xs, xs[i], q, by simp [hlt]⟩, Pv (i + 1), fun σ' H' p' => ⟨xs.length - (i + 1), by omega, rfl, hlt, p'⟩, fun x H' y => ?_⟩
    obtain ⟨T, x, rfl, hT, rfl, y⟩ := y
    exact hs i x T σ _ (y xs q) p hT
  · have e : i = xs.length := by omega
    subst e
    exact .inl ⟨⟨xs, q, Nat.le_refl _⟩, hd σ H p⟩
theorem shaped_list {ds : List PyData} (h : ∀ d ∈ ds, d.canLay0 = true ∧ d.depth ≤ 60) : PySem.SeqAt.shaped (.list ds) = true := by
  have h1 : ∀ (l : List PyData), (∀ d ∈ l, d.canLay0 = true ∧ d.depth ≤ 60) → PyData.canLayAll0 l = true ∧ PyData.depthAll l ≤ 60 := by
    intro l
    induction l with
    | nil => intro _; exact ⟨by simp [PyData.canLayAll0], by simp [PyData.depthAll]⟩
    | cons d r ih =>
      intro h
      obtain ⟨a, b⟩ := ih fun d m => h d (List.mem_cons_of_mem _ m)
      obtain ⟨c, e⟩ := h d List.mem_cons_self
      exact ⟨by rw [PyData.canLayAll0, c, a]; rfl, by rw [PyData.depthAll]; omega⟩
  obtain ⟨a, b⟩ := h1 ds h
  unfold PySem.SeqAt.shaped
  rw [PyData.canLay0, a, Bool.true_and, decide_eq_true_eq, PyData.depth]
  omega
def EnW (K : PySem.W.Frag) (vs : List V) (H : Hp) (R : It → Hp → Prop) : Prop := ∃ a xs, vs = [.ref a] ∧ SqL K H a xs ∧ R (Ite K a) H
theorem g_iEnum {K : PySem.W.Frag} {σ : St} {H : Hp} {tr : TA} {R : It → Hp → Prop} (q : tr σ H fun vs H1 => EnW K vs H1 R) : iEnum K tr σ H R := q
theorem g_EnW {K : PySem.W.Frag} {H : Hp} {R : It → Hp → Prop} {a : Addr} {xs : List V} (h : SqL K H a xs) (q : R (Ite K a) H) : EnW K [.ref a] H R := ⟨a, xs, rfl, h, q⟩
theorem dpAll_cons {K : PySem.W.Frag} {H : Hp} {us : List V} {d : PyData} {ds : List PyData} (h : DpAll K H us (d :: ds)) : ∃ v vs, us = v :: vs ∧ Dp K H v d ∧ DpAll K H vs ds := by cases h with | cons a b => exact ⟨_, _, rfl, a, b⟩
theorem dpAll_nil {K : PySem.W.Frag} {H : Hp} {us : List V} (h : DpAll K H us []) : us = [] := by cases h; rfl
theorem dpT1 {K : PySem.W.Frag} {H : Hp} {v : V} {d : PyData} (h : Dp K H v (.tuple [d])) : ∃ a x, v = .ref a ∧ SqT K H a [x] ∧ Dp K H x d := by
  obtain ⟨a, us, rfl, hs, hu⟩ := dp_tup h
  obtain ⟨x, us, rfl, hx, hu⟩ := dpAll_cons hu
  obtain rfl := dpAll_nil hu
  exact ⟨a, x, rfl, hs, hx⟩
theorem dpT2 {K : PySem.W.Frag} {H : Hp} {v : V} {d e : PyData} (h : Dp K H v (.tuple [d, e])) : ∃ a x y, v = .ref a ∧ SqT K H a [x, y] ∧ Dp K H x d ∧ Dp K H y e := by
  obtain ⟨a, us, rfl, hs, hu⟩ := dp_tup h
  obtain ⟨x, us, rfl, hx, hu⟩ := dpAll_cons hu
  obtain ⟨y, us, rfl, hy, hu⟩ := dpAll_cons hu
  obtain rfl := dpAll_nil hu
  exact ⟨a, x, y, rfl, hs, hx, hy⟩
theorem dpT3 {K : PySem.W.Frag} {H : Hp} {v : V} {d e f : PyData} (h : Dp K H v (.tuple [d, e, f])) : ∃ a x y z, v = .ref a ∧ SqT K H a [x, y, z] ∧ Dp K H x d ∧ Dp K H y e ∧ Dp K H z f := by
  obtain ⟨a, us, rfl, hs, hu⟩ := dp_tup h
  obtain ⟨x, us, rfl, hx, hu⟩ := dpAll_cons hu
  obtain ⟨y, us, rfl, hy, hu⟩ := dpAll_cons hu
  obtain ⟨z, us, rfl, hz, hu⟩ := dpAll_cons hu
  obtain rfl := dpAll_nil hu
  exact ⟨a, x, y, z, rfl, hs, hx, hy, hz⟩
/-! ### isinstance -/
theorem callIsU {X : Cx} {K : PySem.W.Frag} (hK : X.K = K := by rfl) : CallR X (.builtin "isinstance") (rIsi K) := hK ▸ call_isi
theorem ty_tup {K : PySem.W.Frag} {H : Hp} {a : Addr} {xs : List V} (h : SqT K H a xs) : TyX K H (.ref a) (.type "tuple") := by
  rcases h with (h | ⟨o, h⟩) | ⟨o, its, n, hk, hc, _⟩
  · exact .base (.tup h)
  · exact .fTuple h
  · exact .kTuple hk hc
theorem ty_lst {K : PySem.W.Frag} {H : Hp} {a : Addr} {xs : List V} (h : SqL K H a xs) : TyX K H (.ref a) (.type "list") := by
  rcases h with (h | ⟨o, h⟩) | ⟨o, its, n, hk, hc, _⟩
  · exact .base (.lst h)
  · exact .base (.frz h)
  · exact .kList hk hc
theorem g_isi {K : PySem.W.Frag} {H : Hp} {Q : VK} {x : V} {n : String} {t : Value} {b : Bool} (ty : TyX K H x t) (e : PySem.W.kitOne K t (.type n) = some b) (q : Q (.bl b) H) : rIsi K [x, .ty n] H Q := ⟨x, .ty n, t, _, b, rfl, .ty n, ty, e, q⟩
theorem g_yes {σ : St} {H : Hp} {QB : Bool → Hp → Prop} (q : QB true H) : tYes σ H QB := q
theorem g_listL {K : PySem.W.Frag} {H : Hp} {Q : VK} {p : Addr} {ys : List V} (h : SqL K H p ys) (q : ∀ l, H l = none → Q (.ref l) (upd H l (.lst ys))) : rListU K [.ref p] H Q := ⟨p, ys, rfl, .inl h, q⟩
theorem g_seqIP {w t u : TS} {c : TT} {D : Ends} {σ : St} {H : Hp} (P : St → Hp → Prop) (hw : ∀ σ H, P σ H → w D σ H) (q : (∀ σ H, P σ H → w D σ H) → c σ H fun b H1 => if b = true then t { D with nx := w D } σ H1 else u { D with nx := w D } σ H1) : tSeq (tIfS c t u) w D σ H := q hw
theorem Mu.ofSame {M : List Addr} {R H H' : Hp} (h : Same R H) (s : Same H H') : Mu M R H H' := ⟨⟨Same.refl _, h.trans s, fun a o _ e => s a o e, fun _ _ _ m => m, fun a o e => ⟨o, s a o e⟩⟩⟩
/-- what a call leaves, as newM tells it -/
theorem keep_ex {R H H' : Hp} (h : Same R H) (s : Same H H') : Mu [] R H H' ∧ Same R H' := ⟨.ofSame h s, h.trans s⟩
theorem fresh_ex {R H : Hp} {p : Addr} (h : Same R H) (n : H p = none) : Free H p ∧ R p = none := ⟨n, h.free n⟩
/-! ### loops over tuples; unpacking -/
section
variable {K : PySem.W.Frag} {σ : St} {H : Hp} {te : TE} {u : TS} {D : Ends}
def TsW (K : PySem.W.Frag) (x : V) (H : Hp) (R : It → Hp → Prop) : Prop := ∃ a, x = .ref a ∧ (∃ xs, SqT K H a xs) ∧ R (Itt K a) H
theorem g_iTup {R : It → Hp → Prop} (q : te σ H fun x H1 => TsW K x H1 R) : iTup K te σ H R := q
theorem g_TsW {R : It → Hp → Prop} {a : Addr} {xs : List V} (h : SqT K H a xs) (q : R (Itt K a) H) : TsW K (.ref a) H R := ⟨a, rfl, ⟨xs, h⟩, q⟩
theorem g_asgT {n : Nat} {ts : TGs} (q : te σ H fun x H1 => gTup K n ts x σ H1 D.nx) : tAsg te (gTup K n ts) D σ H := q
theorem g_seqT {n : Nat} {ts : TGs} (q : te σ H fun x H1 => gTup K n ts x σ H1 fun σ2 H2 => u D σ2 H2) : tSeq (tAsg te (gTup K n ts)) u D σ H := q
theorem g_gTup {n : Nat} {ts : TGs} {a : Addr} {xs : List V} {QG : St → Hp → Prop} (h : SqT K H a xs) (e : xs.length = n) (q : ts xs σ H QG) : gTup K n ts (.ref a) σ H QG := ⟨a, xs, rfl, h, e, q⟩
theorem g_gCons {t : TG} {ts : TGs} {v : V} {r : List V} {QG : St → Hp → Prop} (q : t v σ H fun σ' H' => ts r σ' H' QG) : gCons t ts (v :: r) σ H QG := ⟨v, r, rfl, q⟩
theorem g_gNil {QG : St → Hp → Prop} (q : QG σ H) : gNil [] σ H QG := ⟨rfl, q⟩
end
/-- what stands behind an if, told once (N: kept closed so that a walk stops there) -/
theorem g_seqIN {w t u : TS} {c : TT} {D : Ends} {σ : St} {H : Hp} (P : St → Hp → Prop) (hw : ∀ σ H, P σ H → w D σ H) (q : ∀ N : St → Hp → Prop, (∀ σ H, P σ H → N σ H) → c σ H fun b H1 => if b = true then t { D with nx := N } σ H1 else u { D with nx := N } σ H1) : tSeq (tIfS c t u) w D σ H := q _ hw
/-- the same of any first statement -/
theorem g_seqN {w t : TS} {D : Ends} {σ : St} {H : Hp} (P : St → Hp → Prop) (hw : ∀ σ H, P σ H → w D σ H) (q : ∀ N : St → Hp → Prop, (∀ σ H, P σ H → N σ H) → t { D with nx := N } σ H) : tSeq t w D σ H := q _ hw
theorem rep_one (c : Int) (k : Nat) : (List.replicate k [V.int c]).flatten = (List.replicate k c).map V.int := by
  induction k with
  | zero => rfl
  | succ k ih => rw [List.replicate_succ, List.flatten_cons, ih]; rfl
theorem g_repZ {H : Hp} {Q : VK} {p : Addr} {c k : Int} (h : H p = some (.lst [.int c])) (h1 : -100000 ≤ k) (h2 : k ≤ 100000) (q : ∀ p, H p = none → Q (.ref p) (upd H p (.lst ((List.replicate k.toNat c).map V.int)))) : rMulU (.ref p) (.int k) H Q :=
  g_rep h (by omega) (by omega) (by have z : sizeLine = 16777216 := sizeLine_eq; rw [z]; simp; omega) (by rw [rep_one]; exact q)
theorem g_catI {K : PySem.W.Frag} {H : Hp} {Q : VK} {a b : Addr} {l m : List Int} (h : H a = some (.lst (l.map V.int))) (g : H b = some (.lst (m.map V.int))) (z : l.length + m.length ≤ 100000) (q : ∀ p, H p = none → Q (.ref p) (upd H p (.lst ((l ++ m).map V.int)))) : rAddU K (.ref a) (.ref b) H Q :=
  g_cat h g (by have z' : sizeLine = 16777216 := sizeLine_eq; rw [z']; simp; omega) (by rw [← List.map_append]; exact q)
theorem call_ex {R H H' : Hp} {p : Addr} (h : Same R H) (s : Same H H') (n : H p = none) : Free H p ∧ Mu [] R H H' ∧ R p = none ∧ Same R H' := ⟨n, .ofSame h s, h.free n, h.trans s⟩
theorem made_same {H : Hp} {x dx C : Addr} (h1 : H x = none) (h2 : H dx = none) : Same H (upd (upd H dx (.own x)) x (.ins C dx [])) := fun b o e => by
  rw [upd_ne (ne_of_none e h1), upd_ne (ne_of_none e h2)]; exact e
/-- what is changed and was not there may be left out -/
theorem Gr.forget {M M' : List Addr} {R H R1 H1 : Hp} (a : Gr M' R H R1 H1) (h : ∀ x ∈ M', x ∉ M → H x = none) : Gr M R H R1 H1 := ⟨a.rr, a.rh, fun c o m e => a.hh c o (fun z => by rw [h c z m] at e; cases e) e, a.fr, a.th⟩
/-! ### all that is there but the list at b is read for ever -/
def wo (H : Hp) (b : Addr) : Hp := fun a => if a = b then none else H a
theorem wo_self {H : Hp} {b : Addr} : wo H b b = none := if_pos rfl
theorem wo_same {H : Hp} {b : Addr} : Same (wo H b) H := fun a o e => by unfold wo at e; split at e; cases e; exact e
theorem same_wo {R H : Hp} {b : Addr} (h : Same R H) (n : R b = none) : Same R (wo H b) := fun a o e => by
  unfold wo
  rw [if_neg (fun z => by rw [z, n] at e; cases e)]
  exact h _ _ e
theorem rd_wo {H : Hp} {a b : Addr} {l xs : List V} (hb : H b = some (.lst l)) (h : Rd H a (.tup xs)) : Rd (wo H b) a (.tup xs) := by
  have : a ≠ b := by
    rintro rfl
    rcases h with h | ⟨o, h⟩ <;> rw [hb] at h <;> cases h
  unfold Rd wo
  rw [if_neg this]
  exact h
theorem sqT_wo {K : PySem.W.Frag} {H : Hp} {a b : Addr} {l xs : List V} (hb : H b = some (.lst l)) (h : SqT K H a xs) : SqT K (wo H b) a xs := by
  rcases h with h | h
  · exact .inl (rd_wo hb h)
  · exact .inr h
mutual
def tupOnly : PyData → Bool
  | .none | .bool _ | .int _ | .str _ => true
  | .tuple ds => tupOnlyAll ds
  | .list _ | .dict _ => false
def tupOnlyAll : List PyData → Bool
  | [] => true
  | d :: ds => tupOnly d && tupOnlyAll ds
end
mutual
theorem dp_wo {K : PySem.W.Frag} {H : Hp} {b : Addr} {l : List V} (hb : H b = some (.lst l)) : ∀ {d : PyData} {v : V}, tupOnly d = true → Dp K H v d → Dp K (wo H b) v d
  | .none, _, _, h => by cases h; exact .non
  | .bool b, _, _, h => by cases h; exact .bl b
  | .int i, _, _, h => by cases h; exact .int i
  | .str x, _, _, h => by cases h; exact .str x
  | .tuple ds, _, t, h => by cases h with | tup p q => exact .tup (sqT_wo hb p) (dpAll_wo hb (by simpa [tupOnly] using t) q)
  | .list _, _, t, _ => by simp [tupOnly] at t
  | .dict _, _, t, _ => by simp [tupOnly] at t
theorem dpAll_wo {K : PySem.W.Frag} {H : Hp} {b : Addr} {l : List V} (hb : H b = some (.lst l)) : ∀ {ds : List PyData} {vs : List V}, tupOnlyAll ds = true → DpAll K H vs ds → DpAll K (wo H b) vs ds
  | [], _, _, h => by cases h; exact .nil
  | d :: ds, _, t, h => by
    have t' : tupOnly d = true ∧ tupOnlyAll ds = true := by simpa [tupOnlyAll] using t
    cases h with | cons p q => exact .cons (dp_wo hb t'.1 p) (dpAll_wo hb t'.2 q)
end
theorem tupOnly_ints : ∀ l : List Int, tupOnlyAll (l.map PyData.int) = true
  | [] => by simp [tupOnlyAll]
  | _ :: r => by simp [tupOnlyAll, tupOnly, tupOnly_ints r]
/-! ### what can be compared -/
def LaD (d : PyData) (n : Nat) : Prop := d.canLay0 = true ∧ d.depth ≤ n
theorem laAll {n : Nat} : ∀ (l : List PyData), (∀ d ∈ l, LaD d n) → PyData.canLayAll0 l = true ∧ PyData.depthAll l ≤ n
  | [], _ => ⟨by simp [PyData.canLayAll0], by simp [PyData.depthAll]⟩
  | d :: r, h => by
    obtain ⟨a, b⟩ := laAll r fun d m => h d (List.mem_cons_of_mem _ m)
    obtain ⟨c, e⟩ := h d List.mem_cons_self
    exact ⟨by rw [PyData.canLayAll0, c, a]; rfl, by rw [PyData.depthAll]; omega⟩
theorem la_int {i : Int} {n : Nat} : LaD (.int i) n := ⟨by simp [PyData.canLay0], by simp [PyData.depth]⟩
theorem la_non {n : Nat} : LaD .none n := ⟨by simp [PyData.canLay0], by simp [PyData.depth]⟩
theorem la_bl {i : Bool} {n : Nat} : LaD (.bool i) n := ⟨by simp [PyData.canLay0], by simp [PyData.depth]⟩
theorem la_lst {l : List PyData} {n : Nat} (h : ∀ d ∈ l, LaD d n) : LaD (.list l) (n + 1) := ⟨by rw [PyData.canLay0]; exact (laAll l h).1, by rw [PyData.depth]; have := (laAll l h).2; omega⟩
theorem la_tup {l : List PyData} {n : Nat} (h : ∀ d ∈ l, LaD d n) : LaD (.tuple l) (n + 1) := ⟨by rw [PyData.canLay0]; exact (laAll l h).1, by rw [PyData.depth]; have := (laAll l h).2; omega⟩
theorem la_ints {l : List Int} {n : Nat} : ∀ d ∈ l.map PyData.int, LaD d n := fun d h => by obtain ⟨i, _, rfl⟩ := List.mem_map.mp h; exact la_int
theorem la_up {d : PyData} {n m : Nat} (h : LaD d n) (z : n ≤ m) : LaD d m := ⟨h.1, Nat.le_trans h.2 z⟩
theorem la_non' {n : Nat} : ∀ d ∈ ([] : List PyData), LaD d n := fun _ h => nomatch h
theorem la_cons {d : PyData} {r : List PyData} {n : Nat} (a : LaD d n) (b : ∀ d ∈ r, LaD d n) : ∀ e ∈ d :: r, LaD e n := fun e h => by
  rcases List.mem_cons.mp h with rfl | h
  · exact a
  · exact b e h
theorem la_shaped {d : PyData} {n : Nat} (h : LaD d n) (z : n ≤ 60 := by decide) : PySem.SeqAt.shaped d = true := by
  unfold PySem.SeqAt.shaped
  rw [h.1, Bool.true_and, decide_eq_true_eq]
  have := h.2
  omega
theorem clean_ints : ∀ l : List Int, cleanAll (l.map PyData.int) = true
  | [] => rfl
  | _ :: r => by rw [List.map_cons, cleanAll, clean, clean_ints r]; rfl
theorem eqv_same {d : PyData} (h : clean d = true) : PyData.eqv d d = true := (eqv_iff h h).mpr rfl
theorem eqv_dec {d e : PyData} (h : clean d = true) (g : clean e = true) {b : Bool} (x : b = true ↔ d = e) : PyData.eqv d e = b := by
  have := eqv_iff h g
  cases b <;> simp_all
theorem eqv_bls : ∀ l m : List Bool, PyData.eqvAll (l.map PyData.bool) (m.map PyData.bool) = decide (l = m)
  | [], [] => by simp [PyData.eqvAll]
  | [], _ :: _ => by simp [PyData.eqvAll]
  | _ :: _, [] => by simp [PyData.eqvAll]
  | a :: r, b :: t => by
    simp only [List.map_cons, PyData.eqvAll, PyData.eqv, eqv_bls r t]
    by_cases h : a = b <;> by_cases h' : r = t <;> simp [h, h']
theorem g_neDa {K : PySem.W.Frag} {H : Hp} {Q : VK} {v w : V} {d e : PyData} (hv : Dp K H v d) (hw : Dp K H w e) (hd : PySem.SeqAt.shaped d = true) (he : PySem.SeqAt.shaped e = true) (hn : (∃ a, v = .ref a) ∨ v = .non) (q : Q (.bl (!PyData.eqv d e)) H) : rNeU K v w H Q := by
  have : rNeD K v w H Q := ⟨d, e, hv, hw, hd, he, q⟩
  rcases hn with ⟨a, rfl⟩ | rfl <;> exact this
theorem g_eqDa {K : PySem.W.Frag} {H : Hp} {Q : VK} {v w : V} {d e : PyData} (hv : Dp K H v d) (hw : Dp K H w e) (hd : PySem.SeqAt.shaped d = true) (he : PySem.SeqAt.shaped e = true) (hn : (∃ a, v = .ref a) ∨ v = .non) (q : Q (.bl (PyData.eqv d e)) H) : rEqU K v w H Q := by
  have : rEqD K v w H Q := ⟨d, e, hv, hw, hd, he, q⟩
  rcases hn with ⟨a, rfl⟩ | rfl <;> exact this
/-! ### slices of rows of ints -/
theorem cut_nat {xs : List V} {lo hi : Nat} (g : hi ≤ xs.length) (h : lo ≤ hi) : cutV xs (some (lo : Int)) (some (hi : Int)) = (xs.drop lo).take (hi - lo) := by
  unfold cutV; rw [HT.sIx_nat, HT.sIx_nat, Nat.min_eq_left (by omega), Nat.min_eq_left (by omega)]
theorem cut_hi {xs : List V} {hi : Nat} (g : hi ≤ xs.length) : cutV xs none (some (hi : Int)) = xs.take hi := by
  unfold cutV; rw [HT.sIx_nat, HT.sIx_none, Nat.min_eq_left g]; rfl
theorem cut_lo {xs : List V} {lo : Nat} (g : lo ≤ xs.length) : cutV xs (some (lo : Int)) none = xs.drop lo := by
  unfold cutV; rw [HT.sIx_nat, HT.sIx_none, Nat.min_eq_left g, ← List.length_drop, List.take_length]
theorem atI_getD {l : List Int} {j : Nat} (h : j < l.length) : atI (l.map V.int) (j : Int) = some (.int (l.getD j 0)) :=
  atI_nat (by rw [List.getElem?_map, List.getElem?_eq_getElem h, List.getD_eq_getElem?_getD, List.getElem?_eq_getElem h]; rfl)
theorem take3 {l : List Int} {j : Nat} (h : j + 3 ≤ l.length) : (l.drop j).take 3 = [l.getD j 0, l.getD (j + 1) 0, l.getD (j + 2) 0] := by
  have g : ∀ i (hi : i < l.length), l[i] = l.getD i 0 := fun i hi => by
    rw [List.getD_eq_getElem?_getD, List.getElem?_eq_getElem hi]; rfl
  have e : l.drop j = l[j] :: l[j + 1] :: l[j + 2] :: l.drop (j + 3) := by
    rw [List.drop_eq_getElem_cons (show j < l.length by omega), List.drop_eq_getElem_cons (show j + 1 < l.length by omega), List.drop_eq_getElem_cons (show j + 1 + 1 < l.length by omega)]
  rw [e, ← g, ← g, ← g]
  rfl
theorem g_slT3 {K : PySem.W.Frag} {H : Hp} {Q : VK} {u : Addr} {l : List Int} {j : Nat} {lo hi : Int} (h : SqT K H u (l.map V.int)) (j0 : 0 < j) (z : j + 3 ≤ l.length) (e1 : lo = (j : Int)) (e2 : hi = (j : Int) + 3)
    (q : ∀ p, H p = none → Q (.ref p) (upd H p (.tup [.int (l.getD j 0), .int (l.getD (j + 1) 0), .int (l.getD (j + 2) 0)]))) : rSlU K (.ref u) (some lo) (some hi) H Q := by
  subst e1
  obtain rfl : hi = ((j + 3 : Nat) : Int) := by omega
  refine g_slT h ?_ ?_
  · rw [HT.sIx_nat, List.length_map]; omega
  · rw [cut_nat (by rw [List.length_map]; omega) (by omega), show j + 3 - j = 3 by omega, ← List.map_drop, ← List.map_take, take3 z]
    exact q
end Sk

namespace Sk
open PySem L2
/-! ### layouts, blocks, cells: the plain side -/
def partsOf (n z : Int) : Int := (n + z - 1) / z
def lows : Int → Nat → List Int
  | _, 0 => []
  | n, k + 1 => n % 256 :: lows (n / 256) k
@[simp] theorem lows_len : ∀ (n : Int) (k : Nat), (lows n k).length = k
  | _, 0 => rfl
  | n, k + 1 => by rw [lows, List.length_cons, lows_len]
def lowsRest : Int → Nat → Int
  | n, 0 => n
  | n, k + 1 => lowsRest (n / 256) k
theorem lows_succ : ∀ (n : Int) (k : Nat), lows n (k + 1) = lows n k ++ [lowsRest n k % 256]
  | n, 0 => rfl
  | n, k + 1 => by rw [lows, lows_succ (n / 256) k, lows, List.cons_append, lowsRest]
theorem lowsRest_succ : ∀ (n : Int) (k : Nat), lowsRest n (k + 1) = lowsRest n k / 256
  | n, 0 => rfl
  | n, k + 1 => by rw [lowsRest, lowsRest_succ (n / 256) k, lowsRest]
def pairs : List Int → List Int
  | [] => []
  | n :: r => n % 256 :: n / 256 :: pairs r
@[simp] theorem pairs_len : ∀ l : List Int, (pairs l).length = 2 * l.length
  | [] => rfl
  | n :: r => by rw [pairs, List.length_cons, List.length_cons, pairs_len, List.length_cons]; omega
theorem pairs_snoc (n : Int) : ∀ l : List Int, pairs (l ++ [n]) = pairs l ++ [n % 256, n / 256]
  | [] => rfl
  | m :: r => by rw [List.cons_append, pairs, pairs_snoc n r, pairs, List.cons_append, List.cons_append]
theorem map_get {ns : List Int} {i : Nat} {x : V} (h : (ns.map V.int)[i]? = some x) : ∃ n, ns[i]? = some n ∧ x = .int n := by
  rw [List.getElem?_map] at h
  obtain ⟨n, hn, rfl⟩ := Option.map_eq_some_iff.mp h
  exact ⟨n, hn, rfl⟩
theorem take_snoc {ns : List Int} {i : Nat} {n : Int} (h : ns[i]? = some n) : ns.take (i + 1) = ns.take i ++ [n] := by
  rw [List.take_add_one, h]; rfl
structure Lay where
  seg : Int
  blk : Int
  oct : Int
def Lay.payload (L : Lay) : Int := L.blk - 1
def Lay.limit (L : Lay) : Int := (L.seg - 2) * L.payload
def Lay.lastId (L : Lay) : Int := L.limit + L.payload
def Lay.fan (L : Lay) : Int := L.oct / 2
def Lay.region (L : Lay) : Int := partsOf (2 * ((3 + 1) * L.lastId + 3 + 3 + L.seg)) L.oct
def Lay.device (L : Lay) : Int := 2 * L.region + L.seg * L.blk
def Lay.flds (L : Lay) : List (Str × V) := [("segments", .int L.seg), ("segment_blocks", .int L.blk), ("block_size", .int L.oct), ("payload", .int L.payload), ("limit", .int L.limit), ("last_id", .int L.lastId), ("fan", .int L.fan), ("region_blocks", .int L.region), ("device_blocks", .int L.device)]
structure Lay.Ok (L : Lay) : Prop where
  s1 : 4 ≤ L.seg
  s2 : L.seg ≤ 16
  b1 : 16 ≤ L.blk
  b2 : L.blk ≤ 32
  o1 : L.oct = 64 ∨ L.oct = 128 ∨ L.oct = 256
  fits : 16 + 2 * L.payload + partsOf L.lastId 8 ≤ L.oct
theorem oct_in {z : Int} (h : z = 64 ∨ z = 128 ∨ z = 256) : (!inV (.int z) [.int 64, .int 128, .int 256]) = false := by
  rcases h with rfl | rfl | rfl <;> decide
/-- a layout at a, in what is read -/
def LayAt (C : Addr) (H : Hp) (a : Addr) (L : Lay) : Prop := ∃ dx, H a = some (.ins C dx L.flds)
theorem LayAt.mono {C : Addr} {H H' : Hp} {a : Addr} {L : Lay} (h : LayAt C H a L) (s : Same H H') : LayAt C H' a L := let ⟨dx, e⟩ := h; ⟨dx, s _ _ e⟩
/-- a block that is neither a COMMIT nor a MOVE -/
structure Blk where
  kind : Int
  seq : Int
  place : Int
  body : List Int
deriving DecidableEq
def intsD (l : List Int) : PyData := .tuple (l.map PyData.int)
def Blk.d (b : Blk) : PyData := .tuple [.int b.kind, .int b.seq, .int b.place, intsD b.body]
def found (kind : Int) (body : List Int) : List Int := if kind = 3 then body else pairs body
def bodyOf (L : Lay) (kind : Int) (body : List Int) : List Int := found kind body ++ List.replicate (L.oct - ((found kind body).length : Int)).toNat 0
theorem found_len {k : Int} {l : List Int} : (found k l).length ≤ 2 * l.length := by
  unfold found
  split
  · omega
  · rw [pairs_len]; omega
def octs (L : Lay) : Option Blk → List Int
  | none => List.replicate (16 + L.oct).toNat 0
  | some b => (([b.kind] ++ lows b.seq 6 ++ lows b.place 2) ++ List.replicate 7 0) ++ bodyOf L b.kind b.body
def optD : Option Blk → PyData
  | none => .none
  | some b => b.d
/-- the blocks that are told here -/
def BlkOk : Option Blk → Prop
  | none => True
  | some b => 3 ≤ b.kind ∧ b.body.length ≤ 300
theorem dpInts {K : PySem.W.Frag} {H : Hp} {v : V} {l : List Int} (h : Dp K H v (intsD l)) : ∃ t, v = .ref t ∧ SqT K H t (l.map V.int) := by
  obtain ⟨t, us, rfl, ht, hu⟩ := dp_tup h
  refine ⟨t, rfl, ?_⟩
  have : us = l.map V.int := by
    clear ht h
    induction l generalizing us with
    | nil => exact dpAll_nil hu
    | cons n r ih =>
      obtain ⟨v, vs, rfl, hv, hr⟩ := dpAll_cons hu
      rw [dp_int hv, ih _ hr]; rfl
  rw [← this]; exact ht
theorem dpBlk {K : PySem.W.Frag} {H : Hp} {v : V} {b : Blk} (h : Dp K H v b.d) : ∃ t u, v = .ref t ∧ SqT K H t [.int b.kind, .int b.seq, .int b.place, .ref u] ∧ SqT K H u (b.body.map V.int) := by
  obtain ⟨a, us, rfl, hs, hu⟩ := dp_tup h
  obtain ⟨x, us, rfl, hx, hu⟩ := dpAll_cons hu
  obtain ⟨y, us, rfl, hy, hu⟩ := dpAll_cons hu
  obtain ⟨z, us, rfl, hz, hu⟩ := dpAll_cons hu
  obtain ⟨w, us, rfl, hw, hu⟩ := dpAll_cons hu
  obtain rfl := dpAll_nil hu
  obtain ⟨u, rfl, hb⟩ := dpInts hw
  rw [dp_int hx, dp_int hy, dp_int hz] at hs
  exact ⟨a, u, rfl, hs, hb⟩
theorem bodyOf_len {L : Lay} {k : Int} {l : List Int} (h : L.Ok) (hl : l.length ≤ 300) : (bodyOf L k l).length ≤ 1000 := by
  have f1 := found_len (k := k) (l := l)
  have o1 := h.o1
  unfold bodyOf
  rw [List.length_append, List.length_replicate]
  omega
def chkStep (t o : Int) : Int := (t * 257 + o + 1) % 4294967291
def chk (L : Lay) (addr : Int) (b : Option Blk) : Int := (octs L b).foldl chkStep (addr + 1)
abbrev Cell := Option (Option Blk × Int)
def cellD : Cell → PyData
  | none => .none
  | some (b, c) => .tuple [optD b, .int c]
def sealOf (L : Lay) (n : Int) : Option Blk → Cell
  | none => none
  | some b => some (some b, chk L n (some b))
theorem optV {K : PySem.W.Frag} {H : Hp} {v : V} {b : Option Blk} (h : Dp K H v (optD b)) : (b = none ∧ v = .non) ∨ ∃ c t, b = some c ∧ v = .ref t := by
  cases b with
  | none => exact .inl ⟨rfl, dp_non h⟩
  | some b => obtain ⟨t, u, rfl, _⟩ := dpBlk h; exact .inr ⟨b, t, rfl, rfl⟩
def whole (L : Lay) (n : Int) : Cell → Bool
  | none => false
  | some (none, _) => false
  | some (some b, c) => decide (c = chk L n (some b))
def CellOk : Cell → Prop
  | none => True
  | some (b, _) => BlkOk b
theorem cellV {K : PySem.W.Frag} {H : Hp} {v : V} {c : Cell} (h : Dp K H v (cellD c)) : (c = none ∧ v = .non) ∨ ∃ b k t u, c = some (b, k) ∧ v = .ref t ∧ SqT K H t [u, .int k] ∧ Dp K H u (optD b) := by
  rcases c with _ | ⟨b, k⟩
  · exact .inl ⟨rfl, dp_non h⟩
  · obtain ⟨t, u, w, rfl, ht, hu, hw⟩ := dpT2 h
    rw [dp_int hw] at ht
    exact .inr ⟨b, k, t, u, rfl, rfl, ht, hu⟩
def lays : List Lay := [⟨4, 16, 64⟩, ⟨4, 16, 64⟩, ⟨5, 16, 64⟩, ⟨4, 16, 128⟩, ⟨4, 17, 64⟩, ⟨4, 16, 256⟩]
theorem lays_ok : ∀ L ∈ lays, L.Ok := by
  intro L h
  simp only [lays, List.mem_cons, List.not_mem_nil, or_false] at h
  rcases h with rfl | rfl | rfl | rfl | rfl | rfl <;> exact ⟨by decide, by decide, by decide, by decide, by decide, by decide⟩
/-- a block that fills its cell -/
structure Full (L : Lay) (b : Blk) : Prop where
  k : 3 ≤ b.kind
  d : b.kind = 3 → (b.body.length : Int) = L.oct
  p : b.kind ≠ 3 → 2 * (b.body.length : Int) = L.oct
  r : b.kind ≠ 3 → ∀ n ∈ b.body, 0 ≤ n ∧ n < 65536
def FullO (L : Lay) : Option Blk → Prop
  | none => True
  | some b => Full L b
def headOf (b : Blk) : List Int := ([b.kind] ++ lows b.seq 6 ++ lows b.place 2) ++ List.replicate 7 0
theorem octs_full {L : Lay} {b : Blk} (h : Full L b) : octs L (some b) = headOf b ++ found b.kind b.body := by
  show headOf b ++ bodyOf L b.kind b.body = _
  have e : (L.oct - ((found b.kind b.body).length : Int)).toNat = 0 := by
    unfold found
    split
    · have := h.d (by assumption); omega
    · have := h.p (by assumption); rw [pairs_len]; omega
  unfold bodyOf
  rw [e, List.replicate_zero, List.append_nil]
theorem pair_low {n : Int} (h : 0 ≤ n ∧ n < 65536) : [n % 256, n / 256] = lows n 2 := by
  have e : n / 256 = n / 256 % 256 := by omega
  show _ = [n % 256, n / 256 % 256]
  rw [← e]
@[simp] theorem headOf_len (b : Blk) : (headOf b).length = 16 := by unfold headOf; simp
end Sk

namespace Sk
open PySem L2
/-! ### labels: the plain side -/
structure Lb where
  gen : Int
  mem : List Int
  bef : List Int
  forks : List Int
deriving DecidableEq
def Lb.d (l : Lb) : PyData := .tuple [.int l.gen, intsD l.mem, intsD l.bef, intsD l.forks]
def lbD : Option Lb → PyData
  | none => .none
  | some l => l.d
theorem dpLb {K : PySem.W.Frag} {H : Hp} {v : V} {l : Lb} (h : Dp K H v l.d) : ∃ t m b f, v = .ref t ∧ SqT K H t [.int l.gen, .ref m, .ref b, .ref f] ∧ SqT K H m (l.mem.map V.int) ∧ SqT K H b (l.bef.map V.int) ∧ SqT K H f (l.forks.map V.int) := by
  obtain ⟨a, us, rfl, hs, hu⟩ := dp_tup h
  obtain ⟨x, us, rfl, hx, hu⟩ := dpAll_cons hu
  obtain ⟨y, us, rfl, hy, hu⟩ := dpAll_cons hu
  obtain ⟨z, us, rfl, hz, hu⟩ := dpAll_cons hu
  obtain ⟨w, us, rfl, hw, hu⟩ := dpAll_cons hu
  obtain rfl := dpAll_nil hu
  obtain ⟨m, rfl, hm⟩ := dpInts hy
  obtain ⟨b, rfl, hb⟩ := dpInts hz
  obtain ⟨f, rfl, hf⟩ := dpInts hw
  rw [dp_int hx] at hs
  exact ⟨a, m, b, f, rfl, hs, hm, hb, hf⟩
theorem mkLb {K : PySem.W.Frag} {H : Hp} {t m b f : Addr} {l : Lb} (ht : SqT K H t [.int l.gen, .ref m, .ref b, .ref f]) (hm : SqT K H m (l.mem.map V.int)) (hb : SqT K H b (l.bef.map V.int)) (hf : SqT K H f (l.forks.map V.int)) : Dp K H (.ref t) l.d :=
  .tup ht (.cons (.int _) (.cons (.tup hm (dpAll_ints _)) (.cons (.tup hb (dpAll_ints _)) (.cons (.tup hf (dpAll_ints _)) .nil))))
theorem lbV {K : PySem.W.Frag} {H : Hp} {v : V} {b : Option Lb} (h : Dp K H v (lbD b)) : (b = none ∧ v = .non) ∨ ∃ c t, b = some c ∧ v = .ref t := by
  cases b with
  | none => exact .inl ⟨rfl, dp_non h⟩
  | some b => obtain ⟨t, m, bb, f, rfl, _⟩ := dpLb h; exact .inr ⟨b, t, rfl, rfl⟩
theorem la_lb (l : Lb) : LaD l.d 2 := la_tup (la_cons la_int (la_cons (la_tup la_ints) (la_cons (la_tup la_ints) (la_cons (la_tup la_ints) la_non'))))
theorem clean_lb (l : Lb) : clean l.d = true := by simp [Lb.d, intsD, clean, cleanAll, clean_ints]
theorem la_lbD (b : Option Lb) : LaD (lbD b) 2 := by cases b with | none => exact la_non | some l => exact la_lb l
theorem clean_lbD (b : Option Lb) : clean (lbD b) = true := by cases b with | none => rfl | some l => exact clean_lb l
theorem la_blk (k : Blk) : LaD k.d 2 := la_tup (la_cons la_int (la_cons la_int (la_cons la_int (la_cons (la_tup la_ints) la_non'))))
theorem clean_blk (k : Blk) : clean k.d = true := by simp [Blk.d, intsD, clean, cleanAll, clean_ints]
theorem ints_inj : ∀ {l m : List Int}, l.map PyData.int = m.map PyData.int → l = m
  | [], [], _ => rfl
  | [], _ :: _, h => by simp at h
  | _ :: _, [], h => by simp at h
  | a :: l, b :: m, h => by
    rw [List.map_cons, List.map_cons, List.cons.injEq] at h
    obtain ⟨h1, h2⟩ := h
    cases h1
    rw [ints_inj h2]
theorem blk_inj {k e : Blk} (h : k.d = e.d) : k = e := by
  obtain ⟨a, b, c, l⟩ := k
  obtain ⟨a', b', c', l'⟩ := e
  simp only [Blk.d, intsD, PyData.tuple.injEq, List.cons.injEq, PyData.int.injEq, and_true] at h
  obtain ⟨h1, h2, h3, h4⟩ := h
  rw [h1, h2, h3, ints_inj h4]
theorem eqv_blk (k e : Blk) : PyData.eqv k.d e.d = decide (k = e) :=
  eqv_dec (clean_blk k) (clean_blk e) (by rw [decide_eq_true_iff]; exact ⟨fun h => by rw [h], blk_inj⟩)
def bit (s : List Int) (i : Int) : Int := if i ∈ s then 1 else 0
def bits (s : List Int) : List Int := [bit s 0, bit s 1, bit s 2]
def fork3 (l : List Int) : List Int := l.flatMap fun n => lows n 3
theorem fork3_len (l : List Int) : (fork3 l).length = 3 * l.length := by
  induction l with
  | nil => rfl
  | cons n r ih =>
    have : fork3 (n :: r) = lows n 3 ++ fork3 r := rfl
    rw [this, List.length_append, ih, lows_len, List.length_cons]; omega
theorem fork3_snoc (l : List Int) (n : Int) : fork3 (l ++ [n]) = fork3 l ++ lows n 3 := by
  unfold fork3
  rw [List.flatMap_append]
  simp
def labelHead (seat : Int) (l : Lb) : List Int := [83, 73, 68, 69] ++ [1, seat] ++ bits l.mem ++ bits l.bef ++ [(l.forks.length : Int)]
def labelFront (seat : Int) (l : Lb) : List Int := labelHead seat l ++ fork3 l.forks
def labelOcts (L : Lay) (seat : Int) (l : Lb) : List Int := labelFront seat l ++ List.replicate (L.oct - ((labelFront seat l).length : Int)).toNat 0
def labelBlk (L : Lay) (seat : Int) (l : Lb) : Blk := ⟨3, l.gen, 0, labelOcts L seat l⟩
theorem labelHead_len (seat : Int) (l : Lb) : (labelHead seat l).length = 13 := rfl
theorem labelFront_len (seat : Int) (l : Lb) : (labelFront seat l).length = 13 + 3 * l.forks.length := by rw [labelFront, List.length_append, fork3_len, labelHead_len]
def numOf : List Int → Int
  | [] => 0
  | n :: r => numOf r * 256 + n
def seats3 (a b c : Int) : List Int := (if a ≠ 0 then [0] else []) ++ (if b ≠ 0 then [1] else []) ++ (if c ≠ 0 then [2] else [])
def memOf (o : List Int) : List Int := seats3 (o.getD 6 0) (o.getD 7 0) (o.getD 8 0)
def befOf (o : List Int) : List Int := seats3 (o.getD 9 0) (o.getD 10 0) (o.getD 11 0)
def forkOf (o : List Int) (i : Nat) : Int := numOf [o.getD (13 + 3 * i) 0, o.getD (14 + 3 * i) 0, o.getD (15 + 3 * i) 0]
def forksOf (o : List Int) : List Int := (List.range (o.getD 12 0).toNat).map (forkOf o)
def readLb (k : Blk) : Lb := ⟨k.seq, memOf k.body, befOf k.body, forksOf k.body⟩
def labelOf (L : Lay) (seat : Int) : Option Blk → Option Lb
  | none => none
  | some k => if k.kind = 3 ∧ k.seq ≠ 0 ∧ seat ∈ memOf k.body ∧ k.body.getD 12 0 ≤ 16 ∧ labelBlk L seat (readLb k) = k then some (readLb k) else none
/-- a block whose body are octets, if it is a block of octets -/
structure OctBlk (L : Lay) (k : Blk) : Prop where
  k3 : 3 ≤ k.kind
  s0 : 0 ≤ k.seq
  len : k.kind = 3 → (k.body.length : Int) = L.oct
  few : k.body.length ≤ 300
  oct : k.kind = 3 → ∀ n ∈ k.body, 0 ≤ n ∧ n < 256
theorem bits_seats {a b c : Int} : bits (seats3 a b c) = [if a ≠ 0 then 1 else 0, if b ≠ 0 then 1 else 0, if c ≠ 0 then 1 else 0] := by
  unfold bits bit seats3
  by_cases ha : a = 0 <;> by_cases hb : b = 0 <;> by_cases hc : c = 0 <;> simp [ha, hb, hc]
theorem mem_seats {a b c : Int} : (0 ∈ seats3 a b c ↔ a ≠ 0) ∧ (1 ∈ seats3 a b c ↔ b ≠ 0) ∧ (2 ∈ seats3 a b c ↔ c ≠ 0) := by
  unfold seats3
  by_cases ha : a = 0 <;> by_cases hb : b = 0 <;> by_cases hc : c = 0 <;> simp [ha, hb, hc]
theorem lows_num {a b c : Int} (ha : 0 ≤ a ∧ a < 256) (hb : 0 ≤ b ∧ b < 256) (hc : 0 ≤ c ∧ c < 256) : lows (numOf [a, b, c]) 3 = [a, b, c] := by
  unfold numOf numOf numOf numOf lows lows lows lows
  have e1 : (((0 * 256 + c) * 256 + b) * 256 + a) % 256 = a := by omega
  have e2 : (((0 * 256 + c) * 256 + b) * 256 + a) / 256 % 256 = b := by omega
  have e3 : (((0 * 256 + c) * 256 + b) * 256 + a) / 256 / 256 % 256 = c := by omega
  rw [e1, e2, e3]
theorem num_low {n : Int} (h : 0 ≤ n ∧ n < 16777216) : lows n 3 = [n % 256, n / 256 % 256, n / 65536] := by
  unfold lows lows lows lows
  have : n / 256 / 256 % 256 = n / 65536 := by omega
  rw [this]
/-- the forks of a body are its octets again -/
theorem fork_take (rest : List Int) (hr : ∀ n ∈ rest, 0 ≤ n ∧ n < 256) : ∀ c : Nat, 3 * c ≤ rest.length → fork3 ((List.range c).map fun i => numOf [rest.getD (3 * i) 0, rest.getD (3 * i + 1) 0, rest.getD (3 * i + 2) 0]) = rest.take (3 * c)
  | 0, _ => by simp [fork3]
  | c + 1, h => by
    have ih := fork_take rest hr c (by omega)
    rw [List.range_succ, List.map_append, List.map_singleton, fork3_snoc, ih]
    have g : ∀ j, j < rest.length → 0 ≤ rest.getD j 0 ∧ rest.getD j 0 < 256 := fun j hj => by
      rw [List.getD_eq_getElem?_getD, List.getElem?_eq_getElem hj]
      exact hr _ (List.getElem_mem hj)
    rw [lows_num (g _ (by omega)) (g _ (by omega)) (g _ (by omega))]
    have t : ∀ j, j < rest.length → rest.take (j + 1) = rest.take j ++ [rest.getD j 0] := fun j hj => by
      rw [List.take_add_one, List.getElem?_eq_getElem hj, List.getD_eq_getElem?_getD, List.getElem?_eq_getElem hj]; rfl
    rw [show 3 * (c + 1) = 3 * c + 1 + 1 + 1 by omega, t _ (by omega), t _ (by omega), t _ (by omega)]
    simp
theorem head13 {o : List Int} (h : 13 ≤ o.length) : ∃ b0 b1 b2 b3 b4 b5 b6 b7 b8 b9 b10 b11 b12 r, o = b0 :: b1 :: b2 :: b3 :: b4 :: b5 :: b6 :: b7 :: b8 :: b9 :: b10 :: b11 :: b12 :: r := by
  match o, h with
  | b0 :: b1 :: b2 :: b3 :: b4 :: b5 :: b6 :: b7 :: b8 :: b9 :: b10 :: b11 :: b12 :: r, _ => exact ⟨_, _, _, _, _, _, _, _, _, _, _, _, _, _, rfl⟩
theorem bit01 {a : Int} (h : 0 ≤ a) : (if a ≠ 0 then (1 : Int) else 0) = a ↔ a ≤ 1 := by split <;> omega
/-- when the block of the label that is read is the block -/
theorem label_iff {L : Lay} (hL : L.Ok) {seat : Int} {k : Blk} (hk : OctBlk L k) (k3 : k.kind = 3) {b0 b1 b2 b3 b4 b5 b6 b7 b8 b9 b10 b11 b12 : Int} {r : List Int} (e : k.body = b0 :: b1 :: b2 :: b3 :: b4 :: b5 :: b6 :: b7 :: b8 :: b9 :: b10 :: b11 :: b12 :: r) (h16 : b12 ≤ 16) :
    labelBlk L seat (readLb k) = k ↔ k.place = 0 ∧ [b0, b1, b2, b3, b4, b5] = [83, 73, 68, 69, 1, seat] ∧ (b6 ≤ 1 ∧ b7 ≤ 1 ∧ b8 ≤ 1 ∧ b9 ≤ 1 ∧ b10 ≤ 1 ∧ b11 ≤ 1) ∧ ∀ n ∈ r.drop (3 * b12.toNat), n = 0 := by
  have ho := hk.oct k3
  have hl := hk.len k3
  have o1 := hL.o1
  rw [e] at ho
  rw [e, show (b0 :: b1 :: b2 :: b3 :: b4 :: b5 :: b6 :: b7 :: b8 :: b9 :: b10 :: b11 :: b12 :: r).length = 13 + r.length by simp only [List.length_cons]; omega] at hl
  have hr : ∀ n ∈ r, 0 ≤ n ∧ n < 256 := fun n hn => ho n (by simp [hn])
  have h12 := ho b12 (by simp)
  have h6 := ho b6 (by simp); have h7 := ho b7 (by simp); have h8 := ho b8 (by simp)
  have h9 := ho b9 (by simp); have hA := ho b10 (by simp); have hB := ho b11 (by simp)
  obtain ⟨c, rfl⟩ := Int.eq_ofNat_of_zero_le h12.1
  have c3 : 3 * c ≤ r.length := by omega
  have hf : forksOf k.body = (List.range c).map fun i => numOf [r.getD (3 * i) 0, r.getD (3 * i + 1) 0, r.getD (3 * i + 2) 0] := by
    rw [e]
    unfold forksOf
    have : (b0 :: b1 :: b2 :: b3 :: b4 :: b5 :: b6 :: b7 :: b8 :: b9 :: b10 :: b11 :: (c : Int) :: r).getD 12 0 = (c : Int) := rfl
    rw [this, Int.toNat_natCast]
    refine List.map_congr_left fun i _ => ?_
    unfold forkOf
    have g : ∀ j, (b0 :: b1 :: b2 :: b3 :: b4 :: b5 :: b6 :: b7 :: b8 :: b9 :: b10 :: b11 :: (c : Int) :: r).getD (13 + j) 0 = r.getD j 0 := fun j => by
      rw [show 13 + j = j + 1 + 1 + 1 + 1 + 1 + 1 + 1 + 1 + 1 + 1 + 1 + 1 + 1 by omega]
      simp only [List.getD_cons_succ]
    rw [g, show 14 + 3 * i = 13 + (3 * i + 1) by omega, show 15 + 3 * i = 13 + (3 * i + 2) by omega, g, g]
  have hm : memOf k.body = seats3 b6 b7 b8 := by rw [e]; rfl
  have hb : befOf k.body = seats3 b9 b10 b11 := by rw [e]; rfl
  have hfl : (forksOf k.body).length = c := by rw [hf]; simp
  have front : labelFront seat (readLb k) = [83, 73, 68, 69, 1, seat, if b6 ≠ 0 then 1 else 0, if b7 ≠ 0 then 1 else 0, if b8 ≠ 0 then 1 else 0, if b9 ≠ 0 then 1 else 0, if b10 ≠ 0 then 1 else 0, if b11 ≠ 0 then 1 else 0, (c : Int)] ++ r.take (3 * c) := by
    unfold labelFront labelHead readLb
    rw [hm, hb, bits_seats, bits_seats, hfl, hf, fork_take r hr c c3]
    rfl
  have fl : (labelFront seat (readLb k)).length = 13 + 3 * c := by rw [labelFront_len, show (readLb k).forks = forksOf k.body from rfl, hfl]
  have key : labelBlk L seat (readLb k) = k ↔ k.place = 0 ∧ labelOcts L seat (readLb k) = k.body := by
    constructor
    · intro h
      rw [← h]
      exact ⟨rfl, by rw [h]; exact congrArg Blk.body h⟩
    · rintro ⟨h1, h2⟩
      obtain ⟨q1, q2, q3, q4⟩ := k
      simp only at k3 h1
      subst k3 h1
      unfold labelBlk
      rw [h2]
      rfl
  rw [key]
  refine and_congr_right fun _ => ?_
  unfold labelOcts
  rw [fl, front, e, show (L.oct - ((13 + 3 * c : Nat) : Int)).toNat = r.length - 3 * c by omega]
  have r2 : r = r.take (3 * c) ++ r.drop (3 * c) := (List.take_append_drop _ _).symm
  have rl : (r.drop (3 * c)).length = r.length - 3 * c := List.length_drop
  rw [Int.toNat_natCast, List.append_assoc]
  have z : r.take (3 * c) ++ List.replicate (r.length - 3 * c) 0 = r ↔ ∀ n ∈ r.drop (3 * c), n = 0 := by
    constructor
    · intro h n hn
      have : List.replicate (r.length - 3 * c) 0 = r.drop (3 * c) := List.append_cancel_left (h.trans r2)
      rw [← this] at hn
      exact List.eq_of_mem_replicate hn
    · intro h
      have : r.drop (3 * c) = List.replicate (r.length - 3 * c) 0 := List.eq_replicate_iff.mpr ⟨rl, h⟩
      rw [← this, List.take_append_drop]
  rw [← z]
  simp only [List.cons_append, List.nil_append, List.cons.injEq, bit01 h6.1, bit01 h7.1, bit01 h8.1, bit01 h9.1, bit01 hA.1, bit01 hB.1, true_and, and_true]
  constructor
  · rintro ⟨a0, a1, a2, a3, a4, a5, a6, a7, a8, a9, aA, aB, aR⟩
    exact ⟨⟨a0.symm, a1.symm, a2.symm, a3.symm, a4.symm, a5.symm⟩, ⟨a6, a7, a8, a9, aA, aB⟩, aR⟩
  · rintro ⟨⟨a0, a1, a2, a3, a4, a5⟩, ⟨a6, a7, a8, a9, aA, aB⟩, aR⟩
    exact ⟨a0.symm, a1.symm, a2.symm, a3.symm, a4.symm, a5.symm, a6, a7, a8, a9, aA, aB, aR⟩
/-! which label goes ahead -/
def newer (l : Lb) : Option Lb → Bool
  | none => true
  | some o => if l.gen = o.gen then decide (l.mem.length < o.mem.length) else decide (l.gen > o.gen)
def pickLb (best x : Option Lb) : Option Lb := match x with
  | none => best
  | some l => if newer l best = true then some l else best
def newestOf (ls : List (Option Lb)) : Option Lb := ls.foldl pickLb none
theorem only_blk (k : Blk) : tupOnly k.d = true := by simp [Blk.d, tupOnly, tupOnlyAll, intsD, tupOnly_ints]
theorem lows_oct : ∀ (n : Int) (c : Nat), ∀ x ∈ lows n c, 0 ≤ x ∧ x < 256
  | _, 0, x, h => by rw [lows] at h; exact absurd h List.not_mem_nil
  | n, c + 1, x, h => by
    rw [lows] at h
    rcases List.mem_cons.mp h with rfl | h
    · omega
    · exact lows_oct _ c x h
theorem octblk_label {L : Lay} (hL : L.Ok) {seat : Int} (h0 : 0 ≤ seat) (h3 : seat < 3) {l : Lb} (g : 0 ≤ l.gen) (few : l.forks.length ≤ 16) : OctBlk L (labelBlk L seat l) := by
  have o1 := hL.o1
  have fl := labelFront_len seat l
  have ll : ((labelOcts L seat l).length : Int) = L.oct := by
    unfold labelOcts
    rw [List.length_append, List.length_replicate]
    omega
  refine ⟨Int.le_refl 3, g, fun _ => ll, by show (labelOcts L seat l).length ≤ 300; omega, fun _ n hn => ?_⟩
  have hb : ∀ s i, 0 ≤ bit s i ∧ bit s i < 256 := fun s i => by unfold bit; split <;> omega
  change n ∈ labelOcts L seat l at hn
  unfold labelOcts labelFront at hn
  rcases List.mem_append.mp hn with hn | hn
  · rcases List.mem_append.mp hn with hn | hn
    · simp only [labelHead, bits, List.cons_append, List.nil_append, List.mem_cons, List.not_mem_nil, or_false] at hn
      rcases hn with rfl | rfl | rfl | rfl | rfl | rfl | rfl | rfl | rfl | rfl | rfl | rfl | rfl
      all_goals first | omega | exact hb _ _
    · unfold fork3 at hn
      obtain ⟨o, _, ho⟩ := List.mem_flatMap.mp hn
      exact lows_oct _ _ _ ho
  · rw [List.eq_of_mem_replicate hn]; decide
end Sk

namespace Sk
open PySem L2
local macro_rules | `(tactic| fail "ne") => `(tactic| first
  | assumption
  | exact Ne.symm (by assumption)
  | exact Free.ne (by with_reducible assumption) (by fail "hp")
  | exact Ne.symm (Free.ne (by with_reducible assumption) (by fail "hp")))
local macro_rules | `(tactic| fail "rp") => `(tactic| first
  | assumption
  | exact Gr.rr (by assumption) _ _ (by fail "rp"))
local macro_rules | `(tactic| fail "nm") => `(tactic| first
  | exact List.not_mem_nil
  | (rw [List.mem_singleton]; fail "ne")
  | (simp only [List.mem_cons, List.not_mem_nil, not_or, or_false]; (repeat' constructor) <;> fail "ne"))
local macro_rules | `(tactic| fail "hp") => `(tactic| first
  | assumption
  | (with_reducible exact upd_same)
  | ((with_reducible show upd _ _ _ _ = _); refine Eq.trans (upd_ne ?_) ?_; (fail "ne"); (fail "hp"))
  | exact (show Same _ _ by assumption) _ _ (by fail "rp")
  | exact Gr.hh (by assumption) _ _ (by fail "nm") (by fail "hp")
  | exact Gr.hh (Mu.g (by assumption)) _ _ (by fail "nm") (by fail "hp"))
local macro_rules | `(tactic| fail "sr") => `(tactic| first
  | assumption
  | exact SqL.of (by assumption)
  | exact SqT.of (by assumption)
  | exact sqL_mono (Gr.rr (by assumption)) (by fail "sr")
  | exact sqT_mono (Gr.rr (by assumption)) (by fail "sr"))
local macro_rules | `(tactic| fail "sq") => `(tactic| first
  | assumption
  | exact SqL.of (by fail "hp")
  | exact SqT.of (by fail "hp")
  | exact sqL_mono (show Same _ _ by assumption) (by fail "sr")
  | exact sqT_mono (show Same _ _ by assumption) (by fail "sr"))
local macro_rules | `(tactic| fail "dr") => `(tactic| first
  | assumption
  | ((with_reducible show DpAll _ _ _ _); first
    | exact DpAll.nil
    | (refine DpAll.cons ?_ ?_ <;> fail "dr")
    | exact dpAll_mono (Gr.rr (by assumption)) (by fail "dr"))
  | ((with_reducible show Dp _ _ _ _); first
    | exact Dp.non
    | exact Dp.int _
    | exact Dp.str _
    | exact Dp.bl _
    | exact Dp.tup (SqT.of (by fail "rp")) (by fail "dr")
    | exact Dp.lst (SqL.of (by fail "rp")) (by fail "dr")
    | exact dp_mono (Gr.rr (by assumption)) (by fail "dr")))
local macro_rules | `(tactic| fail "dp") => `(tactic| first
  | assumption
  | ((with_reducible show DpAll _ _ _ _); exact dpAll_mono (show Same _ _ by assumption) (by fail "dr"))
  | ((with_reducible show Dp _ _ _ _); first
    | exact Dp.non
    | exact Dp.int _
    | exact Dp.str _
    | exact Dp.bl _
    | exact dp_mono (show Same _ _ by assumption) (by fail "dr")))
local macro_rules | `(tactic| fail "gr") => `(tactic| first
  | assumption
  | exact Gr.nil (by assumption)
  | exact Mu.g (by assumption)
  | exact Gr.nil (Mu.g (by assumption))
  | (refine Gr.trans ?_ (by first | assumption | exact Gr.nil (by assumption) | exact Mu.g (by assumption) | exact Gr.nil (Mu.g (by assumption))); fail "gr")
  | exact Gr.refl (by assumption))
local macro_rules | `(tactic| fail "rn") => `(tactic| first
  | assumption
  | exact Gr.frI (by assumption) (by fail "hp") (by fail "rn"))
local macro_rules | `(tactic| fail "newR") => `(tactic| (
  intro p n; generalize hq : upd _ p _ = H1; have z := newR_ex (by assumption) n hq; obtain ⟨R1, f, g, h, s⟩ := z; clear hq n))
local macro_rules | `(tactic| fail "newM") => `(tactic| (
  intro p n; generalize hq : upd _ p _ = H1; have z := newM_ex (by assumption) n hq; obtain ⟨f, g, m, h, s⟩ := z; clear hq n))
local macro_rules | `(tactic| fail "ret") => `(tactic| (
  intro p H1 sk n h; have z := call_ex (by assumption) sk n; obtain ⟨f, g, m, s⟩ := z; clear sk n))
local macro_rules | `(tactic| fail "mut") => `(tactic| (
  generalize hq : upd _ _ _ = H1; have z := mut_ex (by assumption) (by fail "rn") (by fail "hp") hq; obtain ⟨g, h, s⟩ := z; clear hq))
local macro_rules | `(tactic| fail "ar") => `(tactic| first
  | assumption
  | decide
  | omega
  | exact Or.inr ⟨by decide, by decide⟩
  | exact Or.inl ⟨by decide, by decide⟩
  | exact ⟨by decide, by decide, by decide⟩
  | exact ⟨by omega, by omega⟩
  | exact Or.inr ⟨by omega, by omega⟩
  | exact Or.inl ⟨by omega, by omega⟩)
local macro_rules | `(tactic| fail "st") => `(tactic| first
  | (with_reducible refine g_seqA ?_)
  | (with_reducible refine g_seqI ?_)
  | (with_reducible refine g_seqFor ?_)
  | (with_reducible refine g_seqD ?_)
  | (with_reducible refine g_seqS ?_)
  | (with_reducible refine g_seq ?_)
  | (with_reducible refine g_asg ?_)
  | (with_reducible refine g_asgS ?_)
  | (with_reducible refine g_drop ?_)
  | (with_reducible refine g_if ?_)
  | (with_reducible refine g_ret ?_)
  | (with_reducible refine g_retN ?_)
  | (with_reducible refine g_next ?_)
  | (with_reducible refine g_op ?_)
  | (with_reducible refine g_un ?_)
  | (with_reducible refine g_c ?_)
  | ((with_reducible show tVar _ _ _ _); refine g_var rfl ?_)
  | (with_reducible refine g_add ?_)
  | (with_reducible refine g_sub ?_)
  | (with_reducible refine g_neg ?_)
  | (with_reducible refine g_cmp ?_)
  | (with_reducible refine g_eqI ?_)
  | (with_reducible refine g_eqS ?_)
  | (with_reducible refine g_neI ?_)
  | (with_reducible refine g_neS ?_)
  | (with_reducible refine g_isN ?_)
  | (with_reducible refine g_notN ?_)
  | (with_reducible refine g_isB ?_)
  | (with_reducible refine g_notB ?_)
  | ((with_reducible refine g_mul ?_ ?_); (fail "ar"))
  | ((with_reducible refine g_mod ?_ ?_); (fail "ar"))
  | ((with_reducible refine g_div ?_ ?_); (fail "ar"))
  | ((with_reducible refine g_pow ?_ ?_); (fail "ar"))
  | (with_reducible refine g_nil ?_)
  | (with_reducible refine g_cons ?_)
  | (with_reducible refine g_cb ?_)
  | (with_reducible refine g_tup ?_)
  | (with_reducible refine g_lst ?_)
  | (with_reducible refine g_test ?_)
  | (with_reducible refine g_tB ?_)
  | (with_reducible refine g_yes ?_)
  | (with_reducible refine g_truth ?_)
  | (with_reducible refine g_bl ?_)
  | (with_reducible refine g_not ?_)
  | (with_reducible refine g_and ?_)
  | (with_reducible refine g_or ?_)
  | (with_reducible refine g_ife ?_)
  | (with_reducible refine g_andV ?_)
  | (with_reducible refine g_orV ?_)
  | (with_reducible refine g_notV ?_)
  | (with_reducible refine g_int ?_)
  | (with_reducible refine g_intB ?_)
  | (with_reducible refine g_for ?_)
  | (with_reducible refine g_gName ?_)
  | (with_reducible refine g_call ?_)
  | (with_reducible refine g_lc ?_)
  | (with_reducible refine g_iList ?_)
  | (with_reducible refine g_iTup ?_)
  | (with_reducible refine g_seqT ?_)
  | (with_reducible refine g_asgT ?_)
  | (with_reducible refine g_gCons ?_)
  | (with_reducible refine g_gNil ?_)
  | ((with_reducible show gTup _ _ _ (.ref _) _ _ _); refine g_gTup (by fail "sq") (by exact rfl) ?_)
  | (with_reducible refine g_iR1 ?_)
  | (with_reducible refine g_iR2 ?_)
  | (with_reducible refine g_iEnum ?_)
  | (with_reducible refine g_iRev ?_)
  | (with_reducible refine g_iteT rfl ?_)
  | (with_reducible refine g_iteF rfl ?_)
  | (with_reducible refine g_sl ?_)
  | (with_reducible refine g_part ?_)
  | (with_reducible refine g_partW ?_)
  | (with_reducible refine g_noPart ?_)
  | (with_reducible refine g_fld ?_)
  | (with_reducible refine g_seqF ?_)
  | (with_reducible refine g_sfld ?_)
  | (with_reducible refine g_bm ?_)
  | (with_reducible refine g_bm0 ?_)
  | (with_reducible refine g_meth ?_)
  | (with_reducible refine g_make ?_)
  | ((with_reducible show FldW _ (.ref _) _ _ _); refine g_fldW (by fail "hp") (by assumption) (by assumption) (by rfl) ?_)
  | ((with_reducible show MW _ _ (.ref _) _ _); refine g_MW (by fail "hp") (by rfl) ?_)
  | ((with_reducible show SetW _ (.ref _) _ _ _ _); refine g_setW (by fail "hp") (by assumption) (by assumption) (by (simp only [List.length_cons, List.length_nil]; decide)) ?_; fail "putf"; try fail "mut")
  | ((with_reducible show tyV _ "list" (.ref _) _ ∧ _); refine g_tyL (by fail "hp") ?_)
  | ((with_reducible show rAppend (.ref _) [_] _ _); refine g_app (by fail "hp") (by fail "sz") ?_; try fail "mut")
  | ((with_reducible show rLenU _ [_] _ _); first | refine g_lenL (by fail "sq") ?_ | refine g_lenT (by fail "sq") ?_)
  | ((with_reducible first | show rIx _ _ (.int (@OfNat.ofNat Int _ _)) _ _ | show rIx _ _ (.int (-(@OfNat.ofNat Int _ _))) _ _); first | refine g_ixL (by fail "sq") (by exact rfl) ?_ | refine g_ixT (by fail "sq") (by exact rfl) ?_)
  | ((with_reducible show rSetL _ _ _ _ _); refine g_setL (by fail "hp") (by first | exact rfl | assumption) ?_)
  | (dsimp only))
local macro_rules | `(tactic| fail "gi") => `(tactic| repeat ((fail_if_success (with_reducible show tSeq (tIfS _ _ _) _ _ _ _)); fail "st"))
local macro_rules | `(tactic| fail "go") => `(tactic| repeat (fail "st"))
local macro_rules | `(tactic| fail "st") => `(tactic| (fail "calls"))
local macro_rules | `(tactic| fail "sz") => `(tactic| first
  | assumption
  | decide
  | (refine Nat.le_trans (m := 1000) ?_ (by decide); (first | omega | (simp only [List.length_cons, List.length_nil]; omega) | (simp; omega) | simp))
  | (refine Nat.lt_of_le_of_lt (m := 1000) ?_ (by decide); (first | omega | (simp only [List.length_cons, List.length_nil]; omega) | (simp; omega) | simp)))

def topS (i : Nat) : Stmt := PySem.Challenge.pw_sidekeep_k07_labels_tell_members.main.body.getD i (.Pass ⟨0, 0, 0, 0⟩)
abbrev s__law_take : Stmt := (topS 33)
abbrev N__law_take : List Str := ["box", "size", "digit"]
theorem sc__law_take : FnScope N__law_take ["box", "size"] (defScope s__law_take) := ⟨rfl, rfl, rfl, by decide +kernel, rfl, by decide +kernel, by decide +kernel⟩
abbrev s_parts_of : Stmt := (topS 30)
abbrev N_parts_of : List Str := ["number", "size"]
theorem sc_parts_of : FnScope N_parts_of ["number", "size"] (defScope s_parts_of) := ⟨rfl, rfl, rfl, by decide +kernel, rfl, by decide +kernel, by decide +kernel⟩
abbrev s_Layout___init__ : Stmt := (inClass (topS 29) 0)
abbrev N_Layout___init__ : List Str := ["self", "segments", "segment_blocks", "block_size", "numbers"]
theorem sc_Layout___init__ : FnScope N_Layout___init__ ["self", "segments", "segment_blocks", "block_size"] (defScope s_Layout___init__) := ⟨rfl, rfl, rfl, by decide +kernel, rfl, by decide +kernel, by decide +kernel⟩
abbrev s__law_layout : Stmt := (topS 34)
abbrev N__law_layout : List Str := ["box", "sizes"]
theorem sc__law_layout : FnScope N__law_layout ["box"] (defScope s__law_layout) := ⟨rfl, rfl, rfl, by decide +kernel, rfl, by decide +kernel, by decide +kernel⟩
abbrev s__law_number : Stmt := (topS 32)
abbrev N__law_number : List Str := ["script", "k", "cell", "first", "second"]
theorem sc__law_number : FnScope N__law_number ["script", "k"] (defScope s__law_number) := ⟨rfl, rfl, rfl, by decide +kernel, rfl, by decide +kernel, by decide +kernel⟩
abbrev s_is_newer : Stmt := (topS 17)
abbrev N_is_newer : List Str := ["label", "other"]
theorem sc_is_newer : FnScope N_is_newer ["label", "other"] (defScope s_is_newer) := ⟨rfl, rfl, rfl, by decide +kernel, rfl, by decide +kernel, by decide +kernel⟩
abbrev s_newest_label : Stmt := (topS 18)
abbrev N_newest_label : List Str := ["labels", "best", "label"]
theorem sc_newest_label : FnScope N_newest_label ["labels"] (defScope s_newest_label) := ⟨rfl, rfl, rfl, by decide +kernel, rfl, by decide +kernel, by decide +kernel⟩
abbrev s__law_label : Stmt := (topS 36)
abbrev N__law_label : List Str := ["box", "members", "before", "count", "first", "forks", "seat", "k"]
theorem sc__law_label : FnScope N__law_label ["box"] (defScope s__law_label) := ⟨rfl, rfl, rfl, by decide +kernel, rfl, by decide +kernel, by decide +kernel⟩
abbrev s_bits_of_seats : Stmt := (topS 13)
abbrev N_bits_of_seats : List Str := ["seats", "seat"]
theorem sc_bits_of_seats : FnScope N_bits_of_seats ["seats"] (defScope s_bits_of_seats) := ⟨rfl, rfl, rfl, by decide +kernel, rfl, by decide +kernel, by decide +kernel⟩
abbrev s_number_octets : Stmt := (topS 2)
abbrev N_number_octets : List Str := ["number", "count", "found", "_"]
theorem sc_number_octets : FnScope N_number_octets ["number", "count"] (defScope s_number_octets) := ⟨rfl, rfl, rfl, by decide +kernel, rfl, by decide +kernel, by decide +kernel⟩
abbrev s_label_block : Stmt := (topS 15)
abbrev N_label_block : List Str := ["layout", "seat", "label", "generation", "members", "before", "forks", "octets", "fork"]
theorem sc_label_block : FnScope N_label_block ["layout", "seat", "label"] (defScope s_label_block) := ⟨rfl, rfl, rfl, by decide +kernel, rfl, by decide +kernel, by decide +kernel⟩
abbrev s__law_label_block : Stmt := (topS 35)
abbrev N__law_label_block : List Str := ["layout", "seat", "label", "octets", "fork", "other"]
theorem sc__law_label_block : FnScope N__law_label_block ["layout", "seat", "label"] (defScope s__law_label_block) := ⟨rfl, rfl, rfl, by decide +kernel, rfl, by decide +kernel, by decide +kernel⟩
abbrev s__law_changed : Stmt := (topS 38)
abbrev N__law_changed : List Str := ["layout", "block", "box", "kind", "body", "at"]
theorem sc__law_changed : FnScope N__law_changed ["layout", "block", "box"] (defScope s__law_changed) := ⟨rfl, rfl, rfl, by decide +kernel, rfl, by decide +kernel, by decide +kernel⟩
abbrev s_seats_of_bits : Stmt := (topS 14)
abbrev N_seats_of_bits : List Str := ["octets", "seat"]
theorem sc_seats_of_bits : FnScope N_seats_of_bits ["octets"] (defScope s_seats_of_bits) := ⟨rfl, rfl, rfl, by decide +kernel, rfl, by decide +kernel, by decide +kernel⟩
abbrev s_number_of : Stmt := (topS 3)
abbrev N_number_of : List Str := ["octets", "total", "octet"]
theorem sc_number_of : FnScope N_number_of ["octets"] (defScope s_number_of) := ⟨rfl, rfl, rfl, by decide +kernel, rfl, by decide +kernel, by decide +kernel⟩
abbrev s_label_of : Stmt := (topS 16)
abbrev N_label_of : List Str := ["layout", "seat", "block", "octets", "members", "before", "starts", "forks", "label", "number", "start"]
theorem sc_label_of : FnScope N_label_of ["layout", "seat", "block"] (defScope s_label_of) := ⟨rfl, rfl, rfl, by decide +kernel, rfl, by decide +kernel, by decide +kernel⟩
abbrev s__law_due : Stmt := (topS 37)
abbrev N__law_due : List Str := ["layout", "seat", "block", "octets", "end", "forks", "before", "k", "other"]
theorem sc__law_due : FnScope N__law_due ["layout", "seat", "block"] (defScope s__law_due) := ⟨rfl, rfl, rfl, by decide +kernel, rfl, by decide +kernel, by decide +kernel⟩
abbrev s__law_blocks_hold : Stmt := (topS 40)
abbrev N__law_blocks_hold : List Str := ["layout", "box", "further", "label", "seat", "block", "other", "one", "place", "told"]
theorem sc__law_blocks_hold : FnScope N__law_blocks_hold ["layout", "box"] (defScope s__law_blocks_hold) := ⟨rfl, rfl, rfl, by decide +kernel, rfl, by decide +kernel, by decide +kernel⟩
abbrev s__law_newest : Stmt := (topS 39)
abbrev N__law_newest : List Str := ["labels", "best", "label"]
theorem sc__law_newest : FnScope N__law_newest ["labels"] (defScope s__law_newest) := ⟨rfl, rfl, rfl, by decide +kernel, rfl, by decide +kernel, by decide +kernel⟩
abbrev s_law : Stmt := (topS 41)
abbrev N_law : List Str := ["script", "layout", "k", "box", "labels", "j", "members", "passed", "seat"]
theorem sc_law : FnScope N_law ["script"] (defScope s_law) := ⟨rfl, rfl, rfl, by decide +kernel, rfl, by decide +kernel, by decide +kernel⟩
theorem putI_Layout_segments {y : V} : putF "segments" y ([] : List (Str × V)) = ([(("segments" : Str), y)] : List (Str × V)) := by rfl
theorem putU_Layout_segments {v0 v1 v2 v3 v4 v5 v6 v7 v8 y : V} : putF "segments" y ([(("segments" : Str), v0), (("segment_blocks" : Str), v1), (("block_size" : Str), v2), (("payload" : Str), v3), (("limit" : Str), v4), (("last_id" : Str), v5), (("fan" : Str), v6), (("region_blocks" : Str), v7), (("device_blocks" : Str), v8)] : List (Str × V)) = ([(("segments" : Str), y), (("segment_blocks" : Str), v1), (("block_size" : Str), v2), (("payload" : Str), v3), (("limit" : Str), v4), (("last_id" : Str), v5), (("fan" : Str), v6), (("region_blocks" : Str), v7), (("device_blocks" : Str), v8)] : List (Str × V)) := by rfl
theorem putI_Layout_segment_blocks {v0 y : V} : putF "segment_blocks" y ([(("segments" : Str), v0)] : List (Str × V)) = ([(("segments" : Str), v0), (("segment_blocks" : Str), y)] : List (Str × V)) := by rfl
theorem putU_Layout_segment_blocks {v0 v1 v2 v3 v4 v5 v6 v7 v8 y : V} : putF "segment_blocks" y ([(("segments" : Str), v0), (("segment_blocks" : Str), v1), (("block_size" : Str), v2), (("payload" : Str), v3), (("limit" : Str), v4), (("last_id" : Str), v5), (("fan" : Str), v6), (("region_blocks" : Str), v7), (("device_blocks" : Str), v8)] : List (Str × V)) = ([(("segments" : Str), v0), (("segment_blocks" : Str), y), (("block_size" : Str), v2), (("payload" : Str), v3), (("limit" : Str), v4), (("last_id" : Str), v5), (("fan" : Str), v6), (("region_blocks" : Str), v7), (("device_blocks" : Str), v8)] : List (Str × V)) := by rfl
theorem putI_Layout_block_size {v0 v1 y : V} : putF "block_size" y ([(("segments" : Str), v0), (("segment_blocks" : Str), v1)] : List (Str × V)) = ([(("segments" : Str), v0), (("segment_blocks" : Str), v1), (("block_size" : Str), y)] : List (Str × V)) := by rfl
theorem putU_Layout_block_size {v0 v1 v2 v3 v4 v5 v6 v7 v8 y : V} : putF "block_size" y ([(("segments" : Str), v0), (("segment_blocks" : Str), v1), (("block_size" : Str), v2), (("payload" : Str), v3), (("limit" : Str), v4), (("last_id" : Str), v5), (("fan" : Str), v6), (("region_blocks" : Str), v7), (("device_blocks" : Str), v8)] : List (Str × V)) = ([(("segments" : Str), v0), (("segment_blocks" : Str), v1), (("block_size" : Str), y), (("payload" : Str), v3), (("limit" : Str), v4), (("last_id" : Str), v5), (("fan" : Str), v6), (("region_blocks" : Str), v7), (("device_blocks" : Str), v8)] : List (Str × V)) := by rfl
theorem putI_Layout_payload {v0 v1 v2 y : V} : putF "payload" y ([(("segments" : Str), v0), (("segment_blocks" : Str), v1), (("block_size" : Str), v2)] : List (Str × V)) = ([(("segments" : Str), v0), (("segment_blocks" : Str), v1), (("block_size" : Str), v2), (("payload" : Str), y)] : List (Str × V)) := by rfl
theorem putU_Layout_payload {v0 v1 v2 v3 v4 v5 v6 v7 v8 y : V} : putF "payload" y ([(("segments" : Str), v0), (("segment_blocks" : Str), v1), (("block_size" : Str), v2), (("payload" : Str), v3), (("limit" : Str), v4), (("last_id" : Str), v5), (("fan" : Str), v6), (("region_blocks" : Str), v7), (("device_blocks" : Str), v8)] : List (Str × V)) = ([(("segments" : Str), v0), (("segment_blocks" : Str), v1), (("block_size" : Str), v2), (("payload" : Str), y), (("limit" : Str), v4), (("last_id" : Str), v5), (("fan" : Str), v6), (("region_blocks" : Str), v7), (("device_blocks" : Str), v8)] : List (Str × V)) := by rfl
theorem putI_Layout_limit {v0 v1 v2 v3 y : V} : putF "limit" y ([(("segments" : Str), v0), (("segment_blocks" : Str), v1), (("block_size" : Str), v2), (("payload" : Str), v3)] : List (Str × V)) = ([(("segments" : Str), v0), (("segment_blocks" : Str), v1), (("block_size" : Str), v2), (("payload" : Str), v3), (("limit" : Str), y)] : List (Str × V)) := by rfl
theorem putU_Layout_limit {v0 v1 v2 v3 v4 v5 v6 v7 v8 y : V} : putF "limit" y ([(("segments" : Str), v0), (("segment_blocks" : Str), v1), (("block_size" : Str), v2), (("payload" : Str), v3), (("limit" : Str), v4), (("last_id" : Str), v5), (("fan" : Str), v6), (("region_blocks" : Str), v7), (("device_blocks" : Str), v8)] : List (Str × V)) = ([(("segments" : Str), v0), (("segment_blocks" : Str), v1), (("block_size" : Str), v2), (("payload" : Str), v3), (("limit" : Str), y), (("last_id" : Str), v5), (("fan" : Str), v6), (("region_blocks" : Str), v7), (("device_blocks" : Str), v8)] : List (Str × V)) := by rfl
theorem putI_Layout_last_id {v0 v1 v2 v3 v4 y : V} : putF "last_id" y ([(("segments" : Str), v0), (("segment_blocks" : Str), v1), (("block_size" : Str), v2), (("payload" : Str), v3), (("limit" : Str), v4)] : List (Str × V)) = ([(("segments" : Str), v0), (("segment_blocks" : Str), v1), (("block_size" : Str), v2), (("payload" : Str), v3), (("limit" : Str), v4), (("last_id" : Str), y)] : List (Str × V)) := by rfl
theorem putU_Layout_last_id {v0 v1 v2 v3 v4 v5 v6 v7 v8 y : V} : putF "last_id" y ([(("segments" : Str), v0), (("segment_blocks" : Str), v1), (("block_size" : Str), v2), (("payload" : Str), v3), (("limit" : Str), v4), (("last_id" : Str), v5), (("fan" : Str), v6), (("region_blocks" : Str), v7), (("device_blocks" : Str), v8)] : List (Str × V)) = ([(("segments" : Str), v0), (("segment_blocks" : Str), v1), (("block_size" : Str), v2), (("payload" : Str), v3), (("limit" : Str), v4), (("last_id" : Str), y), (("fan" : Str), v6), (("region_blocks" : Str), v7), (("device_blocks" : Str), v8)] : List (Str × V)) := by rfl
theorem putI_Layout_fan {v0 v1 v2 v3 v4 v5 y : V} : putF "fan" y ([(("segments" : Str), v0), (("segment_blocks" : Str), v1), (("block_size" : Str), v2), (("payload" : Str), v3), (("limit" : Str), v4), (("last_id" : Str), v5)] : List (Str × V)) = ([(("segments" : Str), v0), (("segment_blocks" : Str), v1), (("block_size" : Str), v2), (("payload" : Str), v3), (("limit" : Str), v4), (("last_id" : Str), v5), (("fan" : Str), y)] : List (Str × V)) := by rfl
theorem putU_Layout_fan {v0 v1 v2 v3 v4 v5 v6 v7 v8 y : V} : putF "fan" y ([(("segments" : Str), v0), (("segment_blocks" : Str), v1), (("block_size" : Str), v2), (("payload" : Str), v3), (("limit" : Str), v4), (("last_id" : Str), v5), (("fan" : Str), v6), (("region_blocks" : Str), v7), (("device_blocks" : Str), v8)] : List (Str × V)) = ([(("segments" : Str), v0), (("segment_blocks" : Str), v1), (("block_size" : Str), v2), (("payload" : Str), v3), (("limit" : Str), v4), (("last_id" : Str), v5), (("fan" : Str), y), (("region_blocks" : Str), v7), (("device_blocks" : Str), v8)] : List (Str × V)) := by rfl
theorem putI_Layout_region_blocks {v0 v1 v2 v3 v4 v5 v6 y : V} : putF "region_blocks" y ([(("segments" : Str), v0), (("segment_blocks" : Str), v1), (("block_size" : Str), v2), (("payload" : Str), v3), (("limit" : Str), v4), (("last_id" : Str), v5), (("fan" : Str), v6)] : List (Str × V)) = ([(("segments" : Str), v0), (("segment_blocks" : Str), v1), (("block_size" : Str), v2), (("payload" : Str), v3), (("limit" : Str), v4), (("last_id" : Str), v5), (("fan" : Str), v6), (("region_blocks" : Str), y)] : List (Str × V)) := by rfl
theorem putU_Layout_region_blocks {v0 v1 v2 v3 v4 v5 v6 v7 v8 y : V} : putF "region_blocks" y ([(("segments" : Str), v0), (("segment_blocks" : Str), v1), (("block_size" : Str), v2), (("payload" : Str), v3), (("limit" : Str), v4), (("last_id" : Str), v5), (("fan" : Str), v6), (("region_blocks" : Str), v7), (("device_blocks" : Str), v8)] : List (Str × V)) = ([(("segments" : Str), v0), (("segment_blocks" : Str), v1), (("block_size" : Str), v2), (("payload" : Str), v3), (("limit" : Str), v4), (("last_id" : Str), v5), (("fan" : Str), v6), (("region_blocks" : Str), y), (("device_blocks" : Str), v8)] : List (Str × V)) := by rfl
theorem putI_Layout_device_blocks {v0 v1 v2 v3 v4 v5 v6 v7 y : V} : putF "device_blocks" y ([(("segments" : Str), v0), (("segment_blocks" : Str), v1), (("block_size" : Str), v2), (("payload" : Str), v3), (("limit" : Str), v4), (("last_id" : Str), v5), (("fan" : Str), v6), (("region_blocks" : Str), v7)] : List (Str × V)) = ([(("segments" : Str), v0), (("segment_blocks" : Str), v1), (("block_size" : Str), v2), (("payload" : Str), v3), (("limit" : Str), v4), (("last_id" : Str), v5), (("fan" : Str), v6), (("region_blocks" : Str), v7), (("device_blocks" : Str), y)] : List (Str × V)) := by rfl
theorem putU_Layout_device_blocks {v0 v1 v2 v3 v4 v5 v6 v7 v8 y : V} : putF "device_blocks" y ([(("segments" : Str), v0), (("segment_blocks" : Str), v1), (("block_size" : Str), v2), (("payload" : Str), v3), (("limit" : Str), v4), (("last_id" : Str), v5), (("fan" : Str), v6), (("region_blocks" : Str), v7), (("device_blocks" : Str), v8)] : List (Str × V)) = ([(("segments" : Str), v0), (("segment_blocks" : Str), v1), (("block_size" : Str), v2), (("payload" : Str), v3), (("limit" : Str), v4), (("last_id" : Str), v5), (("fan" : Str), v6), (("region_blocks" : Str), v7), (("device_blocks" : Str), y)] : List (Str × V)) := by rfl
local macro_rules | `(tactic| fail "putf") => `(tactic| first
  | rw [putI_Layout_segments]
  | rw [putU_Layout_segments]
  | rw [putI_Layout_segment_blocks]
  | rw [putU_Layout_segment_blocks]
  | rw [putI_Layout_block_size]
  | rw [putU_Layout_block_size]
  | rw [putI_Layout_payload]
  | rw [putU_Layout_payload]
  | rw [putI_Layout_limit]
  | rw [putU_Layout_limit]
  | rw [putI_Layout_last_id]
  | rw [putU_Layout_last_id]
  | rw [putI_Layout_fan]
  | rw [putU_Layout_fan]
  | rw [putI_Layout_region_blocks]
  | rw [putU_Layout_region_blocks]
  | rw [putI_Layout_device_blocks]
  | rw [putU_Layout_device_blocks]
  | skip)
structure Txt (K : PySem.W.Frag) (mg : Str → Option Value) where
  C_Layout : Addr
  f__law_take : Addr
  fd__law_take : FuncData
  F__law_take : Fun K "_law_take" "_law_take" s__law_take f__law_take fd__law_take
  b__law_take : Binds K fd__law_take ["box", "size"] []
  g__law_take : mg "_law_take" = some (.ref f__law_take)
  f_parts_of : Addr
  fd_parts_of : FuncData
  F_parts_of : Fun K "parts_of" "parts_of" s_parts_of f_parts_of fd_parts_of
  b_parts_of : Binds K fd_parts_of ["number", "size"] []
  g_parts_of : mg "parts_of" = some (.ref f_parts_of)
  f_Layout___init__ : Addr
  fd_Layout___init__ : FuncData
  F_Layout___init__ : Fun K "__init__" "Layout.__init__" s_Layout___init__ f_Layout___init__ fd_Layout___init__
  b_Layout___init__ : Binds K fd_Layout___init__ ["self", "segments", "segment_blocks", "block_size"] []
  mk_Layout : Mk K C_Layout f_Layout___init__
  f__law_layout : Addr
  fd__law_layout : FuncData
  F__law_layout : Fun K "_law_layout" "_law_layout" s__law_layout f__law_layout fd__law_layout
  b__law_layout : Binds K fd__law_layout ["box"] []
  g__law_layout : mg "_law_layout" = some (.ref f__law_layout)
  f__law_number : Addr
  fd__law_number : FuncData
  F__law_number : Fun K "_law_number" "_law_number" s__law_number f__law_number fd__law_number
  b__law_number : Binds K fd__law_number ["script", "k"] []
  g__law_number : mg "_law_number" = some (.ref f__law_number)
  f_is_newer : Addr
  fd_is_newer : FuncData
  F_is_newer : Fun K "is_newer" "is_newer" s_is_newer f_is_newer fd_is_newer
  b_is_newer : Binds K fd_is_newer ["label", "other"] []
  g_is_newer : mg "is_newer" = some (.ref f_is_newer)
  f_newest_label : Addr
  fd_newest_label : FuncData
  F_newest_label : Fun K "newest_label" "newest_label" s_newest_label f_newest_label fd_newest_label
  b_newest_label : Binds K fd_newest_label ["labels"] []
  g_newest_label : mg "newest_label" = some (.ref f_newest_label)
  f__law_label : Addr
  fd__law_label : FuncData
  F__law_label : Fun K "_law_label" "_law_label" s__law_label f__law_label fd__law_label
  b__law_label : Binds K fd__law_label ["box"] []
  g__law_label : mg "_law_label" = some (.ref f__law_label)
  f_bits_of_seats : Addr
  fd_bits_of_seats : FuncData
  F_bits_of_seats : Fun K "bits_of_seats" "bits_of_seats" s_bits_of_seats f_bits_of_seats fd_bits_of_seats
  b_bits_of_seats : Binds K fd_bits_of_seats ["seats"] []
  g_bits_of_seats : mg "bits_of_seats" = some (.ref f_bits_of_seats)
  f_number_octets : Addr
  fd_number_octets : FuncData
  F_number_octets : Fun K "number_octets" "number_octets" s_number_octets f_number_octets fd_number_octets
  b_number_octets : Binds K fd_number_octets ["number", "count"] []
  g_number_octets : mg "number_octets" = some (.ref f_number_octets)
  f_label_block : Addr
  fd_label_block : FuncData
  F_label_block : Fun K "label_block" "label_block" s_label_block f_label_block fd_label_block
  b_label_block : Binds K fd_label_block ["layout", "seat", "label"] []
  g_label_block : mg "label_block" = some (.ref f_label_block)
  f__law_label_block : Addr
  fd__law_label_block : FuncData
  F__law_label_block : Fun K "_law_label_block" "_law_label_block" s__law_label_block f__law_label_block fd__law_label_block
  b__law_label_block : Binds K fd__law_label_block ["layout", "seat", "label"] []
  g__law_label_block : mg "_law_label_block" = some (.ref f__law_label_block)
  f__law_changed : Addr
  fd__law_changed : FuncData
  F__law_changed : Fun K "_law_changed" "_law_changed" s__law_changed f__law_changed fd__law_changed
  b__law_changed : Binds K fd__law_changed ["layout", "block", "box"] []
  g__law_changed : mg "_law_changed" = some (.ref f__law_changed)
  f_seats_of_bits : Addr
  fd_seats_of_bits : FuncData
  F_seats_of_bits : Fun K "seats_of_bits" "seats_of_bits" s_seats_of_bits f_seats_of_bits fd_seats_of_bits
  b_seats_of_bits : Binds K fd_seats_of_bits ["octets"] []
  g_seats_of_bits : mg "seats_of_bits" = some (.ref f_seats_of_bits)
  f_number_of : Addr
  fd_number_of : FuncData
  F_number_of : Fun K "number_of" "number_of" s_number_of f_number_of fd_number_of
  b_number_of : Binds K fd_number_of ["octets"] []
  g_number_of : mg "number_of" = some (.ref f_number_of)
  f_label_of : Addr
  fd_label_of : FuncData
  F_label_of : Fun K "label_of" "label_of" s_label_of f_label_of fd_label_of
  b_label_of : Binds K fd_label_of ["layout", "seat", "block"] []
  g_label_of : mg "label_of" = some (.ref f_label_of)
  f__law_due : Addr
  fd__law_due : FuncData
  F__law_due : Fun K "_law_due" "_law_due" s__law_due f__law_due fd__law_due
  b__law_due : Binds K fd__law_due ["layout", "seat", "block"] []
  g__law_due : mg "_law_due" = some (.ref f__law_due)
  f__law_blocks_hold : Addr
  fd__law_blocks_hold : FuncData
  F__law_blocks_hold : Fun K "_law_blocks_hold" "_law_blocks_hold" s__law_blocks_hold f__law_blocks_hold fd__law_blocks_hold
  b__law_blocks_hold : Binds K fd__law_blocks_hold ["layout", "box"] []
  g__law_blocks_hold : mg "_law_blocks_hold" = some (.ref f__law_blocks_hold)
  f__law_newest : Addr
  fd__law_newest : FuncData
  F__law_newest : Fun K "_law_newest" "_law_newest" s__law_newest f__law_newest fd__law_newest
  b__law_newest : Binds K fd__law_newest ["labels"] []
  g__law_newest : mg "_law_newest" = some (.ref f__law_newest)
  f_law : Addr
  fd_law : FuncData
  F_law : Fun K "law" "law" s_law f_law fd_law
  b_law : Binds K fd_law ["script"] []
  g_law : mg "law" = some (.ref f_law)
  cl_Layout : Cls K C_Layout
  g_Layout : mg "Layout" = some (.ref C_Layout)
  a_Layout_segments : NoAttr K C_Layout "segments"
  a_Layout_segment_blocks : NoAttr K C_Layout "segment_blocks"
  a_Layout_block_size : NoAttr K C_Layout "block_size"
  a_Layout_payload : NoAttr K C_Layout "payload"
  a_Layout_limit : NoAttr K C_Layout "limit"
  a_Layout_last_id : NoAttr K C_Layout "last_id"
  a_Layout_fan : NoAttr K C_Layout "fan"
  a_Layout_region_blocks : NoAttr K C_Layout "region_blocks"
  a_Layout_device_blocks : NoAttr K C_Layout "device_blocks"
  n_int : mg "int" = none
  n_len : mg "len" = none
  n_tuple : mg "tuple" = none
  n_range : mg "range" = none
  n_list : mg "list" = none
  n_reversed : mg "reversed" = none
  n_max : mg "max" = none
  n_isinstance : mg "isinstance" = none
  u_MOST_SEGMENTS : Value
  g_MOST_SEGMENTS : mg "MOST_SEGMENTS" = some u_MOST_SEGMENTS
  r_MOST_SEGMENTS : RelV (.int 16) u_MOST_SEGMENTS
  u_LEAST_SEGMENTS : Value
  g_LEAST_SEGMENTS : mg "LEAST_SEGMENTS" = some u_LEAST_SEGMENTS
  r_LEAST_SEGMENTS : RelV (.int 4) u_LEAST_SEGMENTS
  u_MOST_BLOCKS : Value
  g_MOST_BLOCKS : mg "MOST_BLOCKS" = some u_MOST_BLOCKS
  r_MOST_BLOCKS : RelV (.int 32) u_MOST_BLOCKS
  u_LEAST_BLOCKS : Value
  g_LEAST_BLOCKS : mg "LEAST_BLOCKS" = some u_LEAST_BLOCKS
  r_LEAST_BLOCKS : RelV (.int 16) u_LEAST_BLOCKS
  u_HEAD_OCTETS : Value
  g_HEAD_OCTETS : mg "HEAD_OCTETS" = some u_HEAD_OCTETS
  r_HEAD_OCTETS : RelV (.int 16) u_HEAD_OCTETS
  u_SLOTS : Value
  g_SLOTS : mg "SLOTS" = some u_SLOTS
  r_SLOTS : RelV (.int 3) u_SLOTS
  u_SEATS : Value
  g_SEATS : mg "SEATS" = some u_SEATS
  r_SEATS : RelV (.int 3) u_SEATS
  c_LETTERS : Addr
  g_LETTERS : mg "LETTERS" = some (.ref c_LETTERS)
  r_LETTERS : RelV (.ref c_LETTERS) (.ref c_LETTERS)
  q_LETTERS : ∀ H : Hp, SqT K H c_LETTERS [.int 83, .int 73, .int 68, .int 69]
  u_FORK_OCTETS : Value
  g_FORK_OCTETS : mg "FORK_OCTETS" = some u_FORK_OCTETS
  r_FORK_OCTETS : RelV (.int 3) u_FORK_OCTETS
  u_DATA : Value
  g_DATA : mg "DATA" = some u_DATA
  r_DATA : RelV (.int 3) u_DATA
  u_MEMBERS_AT : Value
  g_MEMBERS_AT : mg "MEMBERS_AT" = some u_MEMBERS_AT
  r_MEMBERS_AT : RelV (.int 6) u_MEMBERS_AT
  u_COUNT_AT : Value
  g_COUNT_AT : mg "COUNT_AT" = some u_COUNT_AT
  r_COUNT_AT : RelV (.int 12) u_COUNT_AT
  u_MOST_FORKS : Value
  g_MOST_FORKS : mg "MOST_FORKS" = some u_MOST_FORKS
  r_MOST_FORKS : RelV (.int 16) u_MOST_FORKS
  u_FORKS_AT : Value
  g_FORKS_AT : mg "FORKS_AT" = some u_FORKS_AT
  r_FORKS_AT : RelV (.int 13) u_FORKS_AT
  u_LABELS : Value
  g_LABELS : mg "LABELS" = some u_LABELS
  r_LABELS : RelV (.int 2) u_LABELS
def spTake : Sp := fun vs H Q _ => ∃ (b : Addr) (n z : Int), vs = [.ref b, .int z] ∧ H b = some (.lst [.int n]) ∧ 0 < z ∧ z < 1073741824 ∧ Q (.int (n % z)) (upd H b (.lst [.int (n / z)]))
local macro_rules | `(tactic| fail "calls") => `(tactic| ((with_reducible show spTake _ _ _ _); refine ⟨_, _, _, rfl, by fail "hp", by fail "ar", by fail "ar", ?_⟩))
section
variable {P : Program} {w : World} {K : PySem.W.Frag} {mg : Str → Option Value} {base : Heap}
theorem ok__law_take (T : Txt K mg) : FnOk P w K mg base CX0 1 T.f__law_take T.fd__law_take ["box", "size"] (spTake) := by
  refine T.F__law_take.ok sc__law_take (fun vs H Q E h => ?_) (fun cdv A outer s H vs Q E hr h => ?_)
  · obtain ⟨b, n, z, rfl, hb, z0, z1, hq⟩ := h
    rfl
  · obtain ⟨b, n, z, rfl, hb, z0, z1, hq⟩ := h
    refine ⟨_, (pss_cons (ps_set (i := 2) sc__law_take.nd rfl (by first | exact Or.inl rfl | exact Or.inr rfl) (pe_op opModU (pe_callTy callIntU (by rfl) T.n_int (by decide +kernel) (pa_cons (pe_ix (ixU (K := K)) (pv 0) pe_int (fun _ _ => rfl)) pa_nil)) (pv 1)))
      (pss_cons (ps_asg (pe_op opFloorDivU (pe_ix (ixU (K := K)) (pv 0) pe_int (fun _ _ => rfl)) (pv 1)) (pg_sub (pv 0) pe_int set_list))
      (pss_one (ps_ret (pv 2))))), ?_⟩
    try dsimp only [cxOf]
    fail "go"
    exact hq
end
def spParts : Sp := fun vs H Q _ => ∃ n z : Int, vs = [.int n, .int z] ∧ 0 < z ∧ z < 1000 ∧ Q (.int (partsOf n z)) H
local macro_rules | `(tactic| fail "calls") => `(tactic| ((with_reducible show spParts _ _ _ _); refine ⟨_, _, rfl, by fail "ar", by fail "ar", ?_⟩))
section
variable {P : Program} {w : World} {K : PySem.W.Frag} {mg : Str → Option Value} {base : Heap}
theorem ok_parts_of (T : Txt K mg) : FnOk P w K mg base CX0 1 T.f_parts_of T.fd_parts_of ["number", "size"] (spParts) := by
  refine T.F_parts_of.ok sc_parts_of (fun vs H Q E h => ?_) (fun cdv A outer s H vs Q E hr h => ?_)
  · obtain ⟨n, z, rfl, z0, z1, hq⟩ := h
    rfl
  · obtain ⟨n, z, rfl, z0, z1, hq⟩ := h
    refine ⟨_, (pss_one (ps_ret (pe_op opFloorDivU (pe_op opSubU (pe_op (opAddU (K := K)) (pv 0) (pv 1)) pe_int) (pv 1)))), ?_⟩
    try dsimp only [cxOf]
    fail "go"
    exact hq
end
def spLay (C : Addr) : Sp := fun vs H Q _ => ∃ (R : Hp) (p dx : Addr) (L : Lay), vs = [.ref p, .int L.seg, .int L.blk, .int L.oct] ∧ Same R H ∧ R p = none ∧ H p = some (.ins C dx []) ∧ L.Ok ∧ ∀ H', Same R H' → H' p = some (.ins C dx L.flds) → Q .non H'
section
variable {P : Program} {w : World} {K : PySem.W.Frag} {mg : Str → Option Value} {base : Heap}
theorem ok_Layout___init__ (T : Txt K mg) : FnOk P w K mg base CX0 2 T.f_Layout___init__ T.fd_Layout___init__ ["self", "segments", "segment_blocks", "block_size"] (spLay T.C_Layout) := by
  have cl_Layout := T.cl_Layout
  have a_Layout_segments := T.a_Layout_segments
  have a_Layout_segment_blocks := T.a_Layout_segment_blocks
  have a_Layout_block_size := T.a_Layout_block_size
  have a_Layout_payload := T.a_Layout_payload
  have a_Layout_limit := T.a_Layout_limit
  have a_Layout_last_id := T.a_Layout_last_id
  have a_Layout_fan := T.a_Layout_fan
  have a_Layout_region_blocks := T.a_Layout_region_blocks
  have a_Layout_device_blocks := T.a_Layout_device_blocks
  have G_parts_of := ok_parts_of (P := P) (w := w) (base := base) T
  refine T.F_Layout___init__.ok sc_Layout___init__ (fun vs H Q E h => ?_) (fun cdv A outer s H vs Q E hr h => ?_)
  · obtain ⟨R, p, dx, L, rfl, sR, Rp, hp, hL, hq⟩ := h
    rfl
  · obtain ⟨R, p, dx, L, rfl, sR, Rp, hp, hL, hq⟩ := h
    refine ⟨_, (pss_cons (ps_if (PW.pt (pw_or (pt_cmpR op_lt (pv 1) (pe_glob rfl T.g_LEAST_SEGMENTS T.r_LEAST_SEGMENTS) (nomark _)) (pw_or1 (pt_cmpR op_gt (pv 1) (pe_glob rfl T.g_MOST_SEGMENTS T.r_MOST_SEGMENTS) (nomark _))))) (pss_one ps_never) pss_nil)
      (pss_cons (ps_if (PW.pt (pw_or (pt_cmpR op_lt (pv 2) (pe_glob rfl T.g_LEAST_BLOCKS T.r_LEAST_BLOCKS) (nomark _)) (pw_or1 (pt_cmpR op_gt (pv 2) (pe_glob rfl T.g_MOST_BLOCKS T.r_MOST_BLOCKS) (nomark _))))) (pss_one ps_never) pss_nil)
      (pss_cons (ps_if (pt_cmpR (opNinF (K := K)) (pv 3) (pe_tup (pa_cons pe_int (pa_cons pe_int (pa_cons pe_int pa_nil)))) (by rfl)) (pss_one ps_never) pss_nil)
      (pss_cons (ps_fld (pv 0) (pv 1) rfl)
      (pss_cons (ps_fld (pv 0) (pv 2) rfl)
      (pss_cons (ps_fld (pv 0) (pv 3) rfl)
      (pss_cons (ps_fld (pv 0) (pe_op opSubU (pv 2) pe_int) rfl)
      (pss_cons (ps_fld (pv 0) (pe_op opMultU (pe_op opSubU (pv 1) pe_int) (pe_fldK (K := K) (pv 0) rfl)) rfl)
      (pss_cons (ps_fld (pv 0) (pe_op (opAddU (K := K)) (pe_fldK (K := K) (pv 0) rfl) (pe_fldK (K := K) (pv 0) rfl)) rfl)
      (pss_cons (ps_fld (pv 0) (pe_op opFloorDivU (pv 3) pe_int) rfl)
      (pss_cons (ps_if (pt_cmpR op_gt (pe_op (opAddU (K := K)) (pe_op (opAddU (K := K)) (pe_glob rfl T.g_HEAD_OCTETS T.r_HEAD_OCTETS) (pe_op opMultU pe_int (pe_fldK (K := K) (pv 0) rfl))) (pe_call G_parts_of (hr.mono (by decide)) rfl T.g_parts_of T.F_parts_of.kp T.b_parts_of .nil pass0 (pa_cons (pe_fldK (K := K) (pv 0) rfl) (pa_cons pe_int pa_nil)))) (pv 3) (nomark _)) (pss_one ps_never) pss_nil)
      (pss_cons (ps_set (i := 4) sc_Layout___init__.nd rfl (by first | exact Or.inl rfl | exact Or.inr rfl) (pe_op (opAddU (K := K)) (pe_op (opAddU (K := K)) (pe_op (opAddU (K := K)) (pe_op opMultU (pe_op (opAddU (K := K)) (pe_glob rfl T.g_SLOTS T.r_SLOTS) pe_int) (pe_fldK (K := K) (pv 0) rfl)) (pe_glob rfl T.g_SLOTS T.r_SLOTS)) pe_int) (pv 1)))
      (pss_cons (ps_fld (pv 0) (pe_call G_parts_of (hr.mono (by decide)) rfl T.g_parts_of T.F_parts_of.kp T.b_parts_of .nil pass0 (pa_cons (pe_op opMultU pe_int (pv 4)) (pa_cons (pv 3) pa_nil))) rfl)
      (pss_one (ps_fld (pv 0) (pe_op (opAddU (K := K)) (pe_op opMultU pe_int (pe_fldK (K := K) (pv 0) rfl)) (pe_op opMultU (pv 1) (pv 2))) rfl))))))))))))))), ?_⟩
    try dsimp only [cxOf]
    obtain ⟨s1, s2, b1, b2, o1, fits⟩ := id hL
    fail "go"
    refine g_iteF (decide_eq_false (by omega)) ?_
    fail "go"
    refine g_iteF (decide_eq_false (by omega)) ?_
    fail "go"
    refine g_iteF (decide_eq_false (by omega)) ?_
    fail "go"
    refine g_iteF (decide_eq_false (by omega)) ?_
    fail "go"
    refine ⟨by fail "sz", ?_⟩
    fail "newR"
    rename_i t H1 R1 n1 g1 h1 r1
    fail "go"
    refine g_ninF (.inr (SqT.of (r1 _ _ h1))) rfl rfl ?_
    fail "go"
    rw [oct_in o1]
    fail "go"
    refine g_iteF (decide_eq_false (by have := fits; unfold Lay.lastId Lay.limit Lay.payload at this; omega)) ?_
    fail "go"
    rename_i H2 g2 h2 s2
    exact hq _ (g1.rr.trans s2) h2
end
def spLawLay (C : Addr) : Sp := fun vs H Q _ => ∃ (R : Hp) (b : Addr) (n : Int), vs = [.ref b] ∧ Same R H ∧ R b = none ∧ H b = some (.lst [.int n]) ∧ ∀ p H' L, Same R H' → LayAt C H' p L → L ∈ lays → Q (.ref p) H'
section
variable {P : Program} {w : World} {K : PySem.W.Frag} {mg : Str → Option Value} {base : Heap}
theorem ok__law_layout (T : Txt K mg) : FnOk P w K mg base CX0 4 T.f__law_layout T.fd__law_layout ["box"] (spLawLay T.C_Layout) := by
  have G__law_take := ok__law_take (P := P) (w := w) (base := base) T
  have G_Layout___init__ := ok_Layout___init__ (P := P) (w := w) (base := base) T
  refine T.F__law_layout.ok sc__law_layout (fun vs H Q E h => ?_) (fun cdv A outer s H vs Q E hr h => ?_)
  · obtain ⟨R, b, n, rfl, sR, Rb, hb, hq⟩ := h
    rfl
  · obtain ⟨R, b, n, rfl, sR, Rb, hb, hq⟩ := h
    refine ⟨_, (pss_cons (ps_set (i := 1) sc__law_layout.nd rfl (by first | exact Or.inl rfl | exact Or.inr rfl) (pe_ix (ixU (K := K)) (pe_lst (pa_cons (pe_tup (pa_cons pe_int (pa_cons pe_int (pa_cons pe_int pa_nil)))) (pa_cons (pe_tup (pa_cons pe_int (pa_cons pe_int (pa_cons pe_int pa_nil)))) (pa_cons (pe_tup (pa_cons pe_int (pa_cons pe_int (pa_cons pe_int pa_nil)))) (pa_cons (pe_tup (pa_cons pe_int (pa_cons pe_int (pa_cons pe_int pa_nil)))) (pa_cons (pe_tup (pa_cons pe_int (pa_cons pe_int (pa_cons pe_int pa_nil)))) (pa_cons (pe_tup (pa_cons pe_int (pa_cons pe_int (pa_cons pe_int pa_nil)))) pa_nil))))))) (pe_call G__law_take (hr.mono (by decide)) rfl T.g__law_take T.F__law_take.kp T.b__law_take .nil pass0 (pa_cons (pv 0) (pa_cons pe_int pa_nil))) (fun _ _ => rfl)))
      (pss_one (ps_ret (pe_make T.mk_Layout G_Layout___init__ (hr.mono (by decide)) rfl T.g_Layout T.b_Layout___init__ .nil pass0 (pa_cons (pe_ix (ixU (K := K)) (pv 1) pe_int (fun _ _ => rfl)) (pa_cons (pe_ix (ixU (K := K)) (pv 1) pe_int (fun _ _ => rfl)) (pa_cons (pe_ix (ixU (K := K)) (pv 1) pe_int (fun _ _ => rfl)) pa_nil))))))), ?_⟩
    try dsimp only [cxOf]
    fail "go"
    refine ⟨by fail "sz", ?_⟩
    fail "newM"
    rename_i t1 H1 n1 g1 m1 h1 s1
    fail "go"
    refine ⟨by fail "sz", ?_⟩
    fail "newM"
    rename_i t2 H2 n2 g2 m2 h2 s2
    fail "go"
    refine ⟨by fail "sz", ?_⟩
    fail "newM"
    rename_i t3 H3 n3 g3 m3 h3 s3
    fail "go"
    refine ⟨by fail "sz", ?_⟩
    fail "newM"
    rename_i t4 H4 n4 g4 m4 h4 s4
    fail "go"
    refine ⟨by fail "sz", ?_⟩
    fail "newM"
    rename_i t5 H5 n5 g5 m5 h5 s5
    fail "go"
    refine ⟨by fail "sz", ?_⟩
    fail "newM"
    rename_i t6 H6 n6 g6 m6 h6 s6
    fail "go"
    refine ⟨by fail "sz", ?_⟩
    fail "newM"
    rename_i l H7 n7 g7 m7 h7 s7
    fail "go"
    fail "mut"
    rename_i H8 g8 h8 s8
    have pick : ∃ (L : Lay) (t : Addr), L ∈ lays ∧ atI [V.ref t1, V.ref t2, V.ref t3, V.ref t4, V.ref t5, V.ref t6] (n % 6) = some (.ref t) ∧ SqT K H8 t [.int L.seg, .int L.blk, .int L.oct] := by
      have h0 := Int.emod_nonneg n (show (6 : Int) ≠ 0 by decide)
      have h1 := Int.emod_lt_of_pos n (show (0 : Int) < 6 by decide)
      have : n % 6 = 0 ∨ n % 6 = 1 ∨ n % 6 = 2 ∨ n % 6 = 3 ∨ n % 6 = 4 ∨ n % 6 = 5 := by omega
      rcases this with e | e | e | e | e | e <;> rw [e]
      · exact ⟨⟨4, 16, 64⟩, t1, by simp [lays], rfl, SqT.of (by fail "hp")⟩
      · exact ⟨⟨4, 16, 64⟩, t2, by simp [lays], rfl, SqT.of (by fail "hp")⟩
      · exact ⟨⟨5, 16, 64⟩, t3, by simp [lays], rfl, SqT.of (by fail "hp")⟩
      · exact ⟨⟨4, 16, 128⟩, t4, by simp [lays], rfl, SqT.of (by fail "hp")⟩
      · exact ⟨⟨4, 17, 64⟩, t5, by simp [lays], rfl, SqT.of (by fail "hp")⟩
      · exact ⟨⟨4, 16, 256⟩, t6, by simp [lays], rfl, SqT.of (by fail "hp")⟩
    obtain ⟨L, t, hL, hi, ht⟩ := pick
    refine g_ixL (SqL.of (by fail "hp")) hi ?_
    fail "go"
    intro p dx np ndx nex
    refine ⟨R, p, dx, L, rfl, s8.trans (made_same np ndx), s8.free np, upd_same, lays_ok L hL, fun H9 s9 h9 => ⟨rfl, ?_⟩⟩
    fail "go"
    exact hq p H9 L s9 ⟨dx, h9⟩ hL
end
def lawCell0 (ns : List Int) (k : Int) : Int := if (0 : Int) < (ns.length : Int) then ns.getD (k % (ns.length : Int)).toNat 0 else 0
def lawCell (ns : List Int) (k : Int) : Int := if lawCell0 ns k < 0 then 1 - 2 * lawCell0 ns k else lawCell0 ns k
def lawMix1 (c k : Int) : Int := ((c + 7) * 48271 + (k + 3) * 69621) % 2147483647
def lawMix2 (c k : Int) : Int := ((lawMix1 c k + 11) * 16807 + (c + 1) * 40692 + k) % 2147483399
def lawMix (c k : Int) : Int := (lawMix1 c k * 2147483399 + lawMix2 c k * 31 + c) % 4611686014132420609
def lawNumber (ns : List Int) (k : Int) : Int := if 1000000000 ≤ lawCell ns k ∧ k < (ns.length : Int) then lawCell ns k else lawMix (lawCell ns k) k
def spNum (K : PySem.W.Frag) : Sp := fun vs H Q _ => ∃ (a : Addr) (ns : List Int) (k : Int), vs = [.ref a, .int k] ∧ SqL K H a (ns.map V.int) ∧ 0 ≤ k ∧ Q (.int (lawNumber ns k)) H
theorem atI_mod {ns : List Int} {k : Int} (h : (0 : Int) < (ns.length : Int)) : atI (ns.map V.int) (k % (ns.length : Int)) = some (.int (ns.getD (k % (ns.length : Int)).toNat 0)) := by
  have h1 := Int.emod_nonneg k (b := (ns.length : Int)) (by omega)
  have h2 := Int.emod_lt_of_pos k h
  obtain ⟨j, hj⟩ := Int.eq_ofNat_of_zero_le h1
  rw [hj]
  have hl : j < ns.length := by omega
  refine atI_nat ?_
  simp [hl, List.getD_eq_getElem?_getD]
theorem len_map {ns : List Int} : ((List.map V.int ns).length : Int) = (ns.length : Int) := by simp
section
variable {P : Program} {w : World} {K : PySem.W.Frag} {mg : Str → Option Value} {base : Heap}
theorem ok__law_number (T : Txt K mg) : FnOk P w K mg base CX0 1 T.f__law_number T.fd__law_number ["script", "k"] (spNum K) := by
  refine T.F__law_number.ok sc__law_number (fun vs H Q E h => ?_) (fun cdv A outer s H vs Q E hr h => ?_)
  · obtain ⟨a, ns, k, rfl, hS, k0, hq⟩ := h
    rfl
  · obtain ⟨a, ns, k, rfl, hS, k0, hq⟩ := h
    refine ⟨_, (pss_cons (ps_set (i := 2) sc__law_number.nd rfl (by first | exact Or.inl rfl | exact Or.inr rfl) pe_int)
      (pss_cons (ps_if (pt_cmpR op_gt (pe_callB (callLenU (K := K)) (by rfl) T.n_len (by decide +kernel) (pa_cons (pv 0) pa_nil)) pe_int (nomark _)) (pss_one (ps_set (i := 2) sc__law_number.nd rfl (by first | exact Or.inl rfl | exact Or.inr rfl) (pe_ix (ixU (K := K)) (pv 0) (pe_op opModU (pe_callTy callIntU (by rfl) T.n_int (by decide +kernel) (pa_cons (pv 1) pa_nil)) (pe_callB (callLenU (K := K)) (by rfl) T.n_len (by decide +kernel) (pa_cons (pv 0) pa_nil))) (fun _ _ => rfl)))) pss_nil)
      (pss_cons (ps_if (pt_cmpR op_lt (pv 2) pe_int (nomark _)) (pss_one (ps_set (i := 2) sc__law_number.nd rfl (by first | exact Or.inl rfl | exact Or.inr rfl) (pe_op opSubU pe_int (pe_op opMultU pe_int (pv 2))))) pss_nil)
      (pss_cons (ps_if (PW.pt (pw_and (pt_cmpR op_ge (pv 2) (pe_op opPowU pe_int pe_int) (nomark _)) (pw_and1 (pt_cmpR op_lt (pv 1) (pe_callB (callLenU (K := K)) (by rfl) T.n_len (by decide +kernel) (pa_cons (pv 0) pa_nil)) (nomark _))))) (pss_one (ps_ret (pv 2))) pss_nil)
      (pss_cons (ps_set (i := 3) sc__law_number.nd rfl (by first | exact Or.inl rfl | exact Or.inr rfl) (pe_op opModU (pe_callTy callIntU (by rfl) T.n_int (by decide +kernel) (pa_cons (pe_op (opAddU (K := K)) (pe_op opMultU (pe_op (opAddU (K := K)) (pv 2) pe_int) pe_int) (pe_op opMultU (pe_op (opAddU (K := K)) (pv 1) pe_int) pe_int)) pa_nil)) pe_int))
      (pss_cons (ps_set (i := 4) sc__law_number.nd rfl (by first | exact Or.inl rfl | exact Or.inr rfl) (pe_op opModU (pe_callTy callIntU (by rfl) T.n_int (by decide +kernel) (pa_cons (pe_op (opAddU (K := K)) (pe_op (opAddU (K := K)) (pe_op opMultU (pe_op (opAddU (K := K)) (pv 3) pe_int) pe_int) (pe_op opMultU (pe_op (opAddU (K := K)) (pv 2) pe_int) pe_int)) (pv 1)) pa_nil)) pe_int))
      (pss_one (ps_ret (pe_op opModU (pe_callTy callIntU (by rfl) T.n_int (by decide +kernel) (pa_cons (pe_op (opAddU (K := K)) (pe_op (opAddU (K := K)) (pe_op opMultU (pv 3) pe_int) (pe_op opMultU (pv 4) pe_int)) (pv 2)) pa_nil)) pe_int))))))))), ?_⟩
    try dsimp only [cxOf]
    fail "go"
    rw [len_map]
    refine g_joinI (fun x => x = .int (lawCell0 ns k)) rfl (fun h Q' q' => ?_) (fun h => ?_) (fun x hx => ?_)
    · fail "go"
      rw [len_map]
      fail "go"
      refine g_ixL hS (atI_mod h) (q' _ ?_)
      rw [lawCell0, if_pos h]
    · rw [lawCell0, if_neg h]
    subst hx
    fail "go"
    refine g_joinI (fun x => x = .int (lawCell ns k)) rfl (fun h Q' q' => ?_) (fun h => ?_) (fun x hx => ?_)
    · fail "go"
      refine q' _ ?_
      rw [lawCell, if_pos h]
    · rw [lawCell, if_neg h]
    subst hx
    fail "go"
    have e9 : (10 : Int) ^ Int.toNat 9 = 1000000000 := by decide
    rw [e9]
    refine g_ite (fun h1 => ?_) (fun h1 => ?_)
    · fail "go"
      rw [len_map]
      refine g_ite (fun h2 => ?_) (fun h2 => ?_)
      · fail "go"
        rw [lawNumber, if_pos ⟨h1, h2⟩] at hq
        exact hq
      · fail "go"
        rw [lawNumber, if_neg (fun z => h2 z.2)] at hq
        exact hq
    · fail "go"
      rw [lawNumber, if_neg (fun z => h1 z.1)] at hq
      exact hq
end
def spNewer (K : PySem.W.Frag) : Sp := fun vs H Q _ => ∃ (v w : V) (l : Lb) (b : Option Lb), vs = [v, w] ∧ Dp K H v l.d ∧ Dp K H w (lbD b) ∧ Q (.bl (newer l b)) H
section
variable {P : Program} {w : World} {K : PySem.W.Frag} {mg : Str → Option Value} {base : Heap}
theorem ok_is_newer (T : Txt K mg) : FnOk P w K mg base CX0 1 T.f_is_newer T.fd_is_newer ["label", "other"] (spNewer K) := by
  refine T.F_is_newer.ok sc_is_newer (fun vs H Q E h => ?_) (fun cdv A outer s H vs Q E hr h => ?_)
  · obtain ⟨v, w, l, b, rfl, dv, dw, hq⟩ := h
    rfl
  · obtain ⟨v, w, l, b, rfl, dv, dw, hq⟩ := h
    refine ⟨_, (pss_cons (ps_if (PW.pt (pw_or (pt_cmpR opIsU (pv 1) pe_non (nomark _)) (pw_or1 (pt_cmpR (opNeU (K := K) hr.units) (pe_ix (ixU (K := K)) (pv 0) pe_int (fun _ _ => rfl)) (pe_ix (ixU (K := K)) (pv 1) pe_int (fun _ _ => rfl)) (nomark _))))) (pss_one (ps_ret (pe_or (pe_cmpR opIsU (pv 1) pe_non (nomark _)) (pe_one (pe_cmpR op_gt (pe_ix (ixU (K := K)) (pv 0) pe_int (fun _ _ => rfl)) (pe_ix (ixU (K := K)) (pv 1) pe_int (fun _ _ => rfl)) (nomark _)))))) pss_nil)
      (pss_one (ps_ret (pe_cmpR op_lt (pe_callB (callLenU (K := K)) (by rfl) T.n_len (by decide +kernel) (pa_cons (pe_ix (ixU (K := K)) (pv 0) pe_int (fun _ _ => rfl)) pa_nil)) (pe_callB (callLenU (K := K)) (by rfl) T.n_len (by decide +kernel) (pa_cons (pe_ix (ixU (K := K)) (pv 1) pe_int (fun _ _ => rfl)) pa_nil)) (nomark _))))), ?_⟩
    try dsimp only [cxOf]
    have r0 := Same.refl H
    obtain ⟨t, m, x, f, rfl, ht, hm, _, _⟩ := dpLb dv
    rcases b with _ | o
    · obtain rfl := dp_non dw
      fail "go"
      exact hq
    · obtain ⟨t2, m2, x2, f2, rfl, ht2, hm2, _, _⟩ := dpLb dw
      dsimp only [newer] at hq
      fail "go"
      refine g_iteN (fun e => ?_) (fun e => ?_)
      · rw [if_neg e] at hq
        fail "go"
        exact hq
      · rw [if_pos e] at hq
        fail "go"
        rw [List.length_map, List.length_map]
        have z : decide ((l.mem.length : Int) < (o.mem.length : Int)) = decide (l.mem.length < o.mem.length) := by rw [decide_eq_decide]; omega
        rw [z]
        exact hq
end
def spNewest (K : PySem.W.Frag) : Sp := fun vs H Q _ => ∃ (a : Addr) (us : List V) (ls : List (Option Lb)), vs = [.ref a] ∧ SqL K H a us ∧ DpAll K H us (ls.map lbD) ∧ ∀ v, Dp K H v (lbD (newestOf ls)) → Q v H
def NewInv (K : PySem.W.Frag) (a : Addr) (ls : List (Option Lb)) (H0 : Hp) (i : Nat) (σ : St) (H : Hp) : Prop := ∃ (v : V) (x : Option V), σ = [some (.ref a), some v, x] ∧ H = H0 ∧ Dp K H v (lbD (newestOf (ls.take i)))
theorem newest_snoc {ls : List (Option Lb)} {i : Nat} {b : Option Lb} (h : ls[i]? = some b) : newestOf (ls.take (i + 1)) = pickLb (newestOf (ls.take i)) b := by
  rw [List.take_add_one, h]
  unfold newestOf
  rw [List.foldl_append]; rfl
section
variable {P : Program} {w : World} {K : PySem.W.Frag} {mg : Str → Option Value} {base : Heap}
theorem ok_newest_label (T : Txt K mg) : FnOk P w K mg base CX0 2 T.f_newest_label T.fd_newest_label ["labels"] (spNewest K) := by
  have G_is_newer := ok_is_newer (P := P) (w := w) (base := base) T
  refine T.F_newest_label.ok sc_newest_label (fun vs H Q E h => ?_) (fun cdv A outer s H vs Q E hr h => ?_)
  · obtain ⟨a, us, ls, rfl, ha, du, hq⟩ := h
    rfl
  · obtain ⟨a, us, ls, rfl, ha, du, hq⟩ := h
    refine ⟨_, (pss_cons (ps_set (i := 1) sc_newest_label.nd rfl (by first | exact Or.inl rfl | exact Or.inr rfl) pe_non)
      (pss_cons (ps_for PassesOwn.never rfl (pi_listK (K := K) (pv 0)) (pg_name (i := 2) sc_newest_label.nd rfl (by first | exact Or.inl rfl | exact Or.inr rfl)) (pss_one (ps_if (PW.pt (pw_and (pt_cmpR opNotU (pv 2) pe_non (nomark _)) (pw_and1 (pt_truthK (K := K) (pe_call G_is_newer (hr.mono (by decide)) rfl T.g_is_newer T.F_is_newer.kp T.b_is_newer .nil pass0 (pa_cons (pv 2) (pa_cons (pv 1) pa_nil))) (by intro _; rfl))))) (pss_one (ps_set (i := 1) sc_newest_label.nd rfl (by first | exact Or.inl rfl | exact Or.inr rfl) (pv 2))) pss_nil)))
      (pss_one (ps_ret (pv 1))))), ?_⟩
    try dsimp only [cxOf]
    have r0 := Same.refl H
    have ul : us.length = ls.length := by have := dpAll_len du; simpa using this
    fail "go"
    refine g_LsW ha ?_
    refine for_list (K := K) (xs := us) (NewInv K a ls H) ⟨_, none, rfl, rfl, .non⟩ (fun i σ H2 _ ⟨_, _, _, e, _⟩ => e ▸ ha) ?_ ?_
    · rintro i x σ H2 hi ⟨v, x0, rfl, rfl, dv⟩
      obtain ⟨d, hd, dx⟩ := dpAll_get' du hi
      rw [List.getElem?_map] at hd
      obtain ⟨b, hb, rfl⟩ := Option.map_eq_some_iff.mp hd
      have hs := newest_snoc hb
      rcases b with _ | l
      · obtain rfl := dp_non dx
        fail "go"
        exact ⟨v, _, rfl, rfl, by rw [hs]; exact dv⟩
      · obtain ⟨t, m, y, f, rfl, ht, hm, _, _⟩ := dpLb dx
        fail "go"
        refine ⟨_, v, l, _, rfl, dx, dv, ?_⟩
        fail "go"
        refine ⟨_, rfl, ?_⟩
        refine g_iteB (fun e => ?_) (fun e => ?_)
        · fail "go"
          exact ⟨_, _, rfl, rfl, by rw [hs, pickLb, if_pos e]; exact dx⟩
        · fail "go"
          exact ⟨v, _, rfl, rfl, by rw [hs, pickLb, if_neg (by rw [e]; exact Bool.false_ne_true)]; exact dv⟩
    · rintro σ H2 ⟨v, x0, rfl, rfl, dv⟩
      rw [ul, List.take_length] at dv
      fail "go"
      exact hq _ dv
end
structure LbOk (l : Lb) : Prop where
  gen : 1 ≤ l.gen
  few : l.forks.length ≤ 16
  oct : ∀ f ∈ l.forks, 0 ≤ f ∧ f < 16777216
def spLawLabel (K : PySem.W.Frag) : Sp := fun vs H Q _ => ∃ (R : Hp) (b : Addr) (n : Int), vs = [.ref b] ∧ Same R H ∧ R b = none ∧ H b = some (.lst [.int n]) ∧
  ∀ v R' H' l, Gr [b] R H R' H' → (∃ m, H' b = some (.lst [.int m])) → Dp K R' v l.d → LbOk l → Q v H'
def SeatInv (R H0 : Hp) (b D : Addr) (j : Nat) (H : Hp) : Prop := ∃ (m : Int) (us : List Int), Mu [b, D] R H0 H ∧ H b = some (.lst [.int m]) ∧ H D = some (.lst (us.map V.int)) ∧ us.length ≤ j
theorem Gr.app {M : List Addr} {R H0 H : Hp} {D : Addr} {o o' : HO} (g : Gr M R H0 R H) (RD : R D = none) (hD : H D = some o) (hM : D ∈ M) : Gr M R H0 R (upd H D o') :=
  g.trans ((Gr.mut g.rh RD hD).mono fun x hx => by rw [List.mem_singleton.mp hx]; exact hM)
theorem pick5 {j : Int} (h : 0 ≤ j ∧ j < 5) : ∃ q : Int, atI [V.int 0, .int 0, .int 1, .int 3, .int 16] j = some (.int q) ∧ 0 ≤ q ∧ q ≤ 16 := by
  obtain ⟨i, rfl⟩ := Int.eq_ofNat_of_zero_le h.1
  match i, h with
  | 0, _ => exact ⟨0, rfl, by decide⟩
  | 1, _ => exact ⟨0, rfl, by decide⟩
  | 2, _ => exact ⟨1, rfl, by decide⟩
  | 3, _ => exact ⟨3, rfl, by decide⟩
  | 4, _ => exact ⟨16, rfl, by decide⟩
  | n + 5, h => omega
theorem pick3 {x y z j : Int} (h : 0 ≤ j ∧ j < 3) : ∃ q, atI [V.int x, .int y, .int z] j = some (.int q) ∧ (q = x ∨ q = y ∨ q = z) := by
  obtain ⟨i, rfl⟩ := Int.eq_ofNat_of_zero_le h.1
  match i, h with
  | 0, _ => exact ⟨x, rfl, .inl rfl⟩
  | 1, _ => exact ⟨y, rfl, .inr (.inl rfl)⟩
  | 2, _ => exact ⟨z, rfl, .inr (.inr rfl)⟩
  | n + 3, h => omega
def fcol (f : Nat → Int) (j : Nat) : List Int := (List.range j).map f
@[simp] theorem fcol_len (f : Nat → Int) (j : Nat) : (fcol f j).length = j := by simp [fcol]
theorem fcol_succ (f : Nat → Int) (j : Nat) : fcol f (j + 1) = fcol f j ++ [f j] := by simp [fcol, List.range_succ]
local macro_rules | `(tactic| fail "calls") => `(tactic| ((with_reducible show spTake _ _ _ _); refine ⟨_, _, _, rfl, by fail "hp", by fail "ar", by fail "ar", ?_⟩; fail "mut"))
section
variable {P : Program} {w : World} {K : PySem.W.Frag} {mg : Str → Option Value} {base : Heap}
theorem ok__law_label (T : Txt K mg) : FnOk P w K mg base CX0 2 T.f__law_label T.fd__law_label ["box"] (spLawLabel K) := by
  have G__law_take := ok__law_take (P := P) (w := w) (base := base) T
  refine T.F__law_label.ok sc__law_label (fun vs H Q E h => ?_) (fun cdv A outer s H vs Q E hr h => ?_)
  · obtain ⟨R, b, n, rfl, sR, Rb, hb, hq⟩ := h
    rfl
  · obtain ⟨R, b, n, rfl, sR, Rb, hb, hq⟩ := h
    refine ⟨_, (pss_cons (ps_set (i := 1) sc__law_label.nd rfl (by first | exact Or.inl rfl | exact Or.inr rfl) (pe_callTy (callTupU (K := K)) (by rfl) T.n_tuple (by decide +kernel) (pa_cons (pe_lc (own := [("seat", 6)]) (g := gName 6) (tt := _) rfl sc__law_label.nd (pi_range1 rfl T.n_range (pa_cons pe_int pa_nil)) (blkOk_by (N := N__law_label) (sc := defScope s__law_label) (by decide +kernel)) (fun _ _ _ _ _ => (pg_name (i := 6) sc__law_label.nd rfl (by first | exact Or.inl rfl | exact Or.inr rfl))) (fun _ _ _ _ _ => pts_one (pt_cmpR op_gt (pe_call G__law_take (hr.mono (by decide)) rfl T.g__law_take T.F__law_take.kp T.b__law_take .nil pass0 (pa_cons (pv 0) (pa_cons pe_int pa_nil))) pe_int (nomark _))) (fun _ _ _ _ _ => (pv 6))) pa_nil)))
      (pss_cons (ps_set (i := 2) sc__law_label.nd rfl (by first | exact Or.inl rfl | exact Or.inr rfl) (pe_callTy (callTupU (K := K)) (by rfl) T.n_tuple (by decide +kernel) (pa_cons (pe_lc (own := [("seat", 6)]) (g := gName 6) (tt := _) rfl sc__law_label.nd (pi_range1 rfl T.n_range (pa_cons pe_int pa_nil)) (blkOk_by (N := N__law_label) (sc := defScope s__law_label) (by decide +kernel)) (fun _ _ _ _ _ => (pg_name (i := 6) sc__law_label.nd rfl (by first | exact Or.inl rfl | exact Or.inr rfl))) (fun _ _ _ _ _ => pts_one (pt_cmpR op_gt (pe_call G__law_take (hr.mono (by decide)) rfl T.g__law_take T.F__law_take.kp T.b__law_take .nil pass0 (pa_cons (pv 0) (pa_cons pe_int pa_nil))) pe_int (nomark _))) (fun _ _ _ _ _ => (pv 6))) pa_nil)))
      (pss_cons (ps_set (i := 3) sc__law_label.nd rfl (by first | exact Or.inl rfl | exact Or.inr rfl) (pe_ix (ixU (K := K)) (pe_lst (pa_cons pe_int (pa_cons pe_int (pa_cons pe_int (pa_cons pe_int (pa_cons pe_int pa_nil)))))) (pe_call G__law_take (hr.mono (by decide)) rfl T.g__law_take T.F__law_take.kp T.b__law_take .nil pass0 (pa_cons (pv 0) (pa_cons pe_int pa_nil))) (fun _ _ => rfl)))
      (pss_cons (ps_set (i := 4) sc__law_label.nd rfl (by first | exact Or.inl rfl | exact Or.inr rfl) (pe_call G__law_take (hr.mono (by decide)) rfl T.g__law_take T.F__law_take.kp T.b__law_take .nil pass0 (pa_cons (pv 0) (pa_cons pe_int pa_nil))))
      (pss_cons (ps_set (i := 5) sc__law_label.nd rfl (by first | exact Or.inl rfl | exact Or.inr rfl) (pe_callTy (callTupU (K := K)) (by rfl) T.n_tuple (by decide +kernel) (pa_cons (pe_lc (own := [("k", 7)]) (g := gName 7) (tt := tYes) rfl sc__law_label.nd (pi_range1 rfl T.n_range (pa_cons (pv 3) pa_nil)) (blkOk_by (N := N__law_label) (sc := defScope s__law_label) (by decide +kernel)) (fun _ _ _ _ _ => (pg_name (i := 7) sc__law_label.nd rfl (by first | exact Or.inl rfl | exact Or.inr rfl))) (fun _ _ _ _ _ => pts_nil) (fun _ _ _ _ _ => (pe_op opModU (pe_callTy callIntU (by rfl) T.n_int (by decide +kernel) (pa_cons (pe_op opMultU (pe_op opMultU (pv 4) (pe_op (opAddU (K := K)) (pv 7) pe_int)) pe_int) pa_nil)) pe_int))) pa_nil)))
      (pss_one (ps_ret (pe_tup (pa_cons (pe_ix (ixU (K := K)) (pe_lst (pa_cons (pe_op (opAddU (K := K)) pe_int (pe_call G__law_take (hr.mono (by decide)) rfl T.g__law_take T.F__law_take.kp T.b__law_take .nil pass0 (pa_cons (pv 0) (pa_cons pe_int pa_nil)))) (pa_cons (pe_op opSubU (pe_op opSubU (pe_op opPowU pe_int pe_int) pe_int) (pe_call G__law_take (hr.mono (by decide)) rfl T.g__law_take T.F__law_take.kp T.b__law_take .nil pass0 (pa_cons (pv 0) (pa_cons pe_int pa_nil)))) (pa_cons (pe_op (opAddU (K := K)) pe_int (pe_call G__law_take (hr.mono (by decide)) rfl T.g__law_take T.F__law_take.kp T.b__law_take .nil pass0 (pa_cons (pv 0) (pa_cons (pe_op opPowU pe_int pe_int) pa_nil)))) pa_nil)))) (pe_call G__law_take (hr.mono (by decide)) rfl T.g__law_take T.F__law_take.kp T.b__law_take .nil pass0 (pa_cons (pv 0) (pa_cons pe_int pa_nil))) (fun _ _ => rfl)) (pa_cons (pv 1) (pa_cons (pv 2) (pa_cons (pv 5) pa_nil)))))))))))), ?_⟩
    try dsimp only [cxOf]
    fail "go"
    refine g_R1W (n := 3) rfl (by decide) ?_
    intro D nD
    have RD := sR.free nD
    have DbD : b ≠ D := ne_of_none hb nD
    refine lc_range (lo := 0) (n := 3) (SeatInv R (upd H D (.lst [])) b D) ⟨n, [], ⟨Gr.refl (Gr.newM (M := []) sR nD).rh⟩, by rw [upd_ne DbD]; exact hb, upd_same, Nat.le_refl _⟩ ?_ ?_
    · rintro j H2 hj ⟨m, us, g2, h2, hD, ul⟩
      have s2 := g2.g.rh
      generalize upd H D (.lst []) = H0 at g2 ⊢
      refine ⟨rfl, ?_⟩
      fail "go"
      rename_i H3 g3 h3 s3
      have h3D : H3 D = some (.lst (us.map V.int)) := g3.g.hh _ _ (by rw [List.mem_singleton]; exact Ne.symm DbD) hD
      have gX : Mu [b, D] R H0 H3 := ⟨g2.g.trans (g3.g.mono (by simp))⟩
      refine g_ite (fun e => ?_) (fun e => ?_)
      · fail "go"
        refine ⟨_, h3D, by rw [List.length_map]; fail "sz", _, us ++ [0 + (j : Int)], ⟨Gr.app gX.g RD h3D (by simp)⟩, by rw [upd_ne DbD]; exact h3, by rw [upd_same, List.map_append]; rfl, by rw [List.length_append, List.length_singleton]; omega⟩
      · exact ⟨_, us, gX, h3, h3D, by omega⟩
    rintro H1 ⟨n1, us1, g1, h1, hD1, ul1⟩
    have gF : Mu [b] R H H1 := ⟨(show Gr [b, D] R H R H1 from ((Gr.newM (M := []) sR nD).nil).trans g1.g).forget (by intro x hx hn; simp at hx hn; rcases hx with rfl | rfl; exact absurd rfl hn; exact nD)⟩
    clear g1
    have s1 := gF.g.rh
    fail "go"
    refine g_tupL (SqL.of hD1) ?_
    fail "newR"
    rename_i p2 H2 R2 n2 g2 h2 s2
    have h2b := g2.same _ _ h1
    have R2b : R2 b = none := g2.fr _ _ h1 Rb
    have gG : Gr [b] R H R2 H2 := gF.g.trans g2.nil
    clear hD1 h1 s1 g2
    fail "go"
    refine g_R1W (n := 3) rfl (by decide) ?_
    intro E nE
    have RE := s2.free nE
    have DbE : b ≠ E := ne_of_none h2b nE
    refine lc_range (lo := 0) (n := 3) (SeatInv R2 (upd H2 E (.lst [])) b E) ⟨n1, [], ⟨Gr.refl (Gr.newM (M := []) s2 nE).rh⟩, by rw [upd_ne DbE]; exact h2b, upd_same, Nat.le_refl _⟩ ?_ ?_
    · clear s2 gG gF
      rintro j H4 hj ⟨m, us, g4, h4, hE, ul⟩
      have Rb := R2b
      have s4 := g4.g.rh
      generalize upd H2 E (.lst []) = H0 at g4 ⊢
      refine ⟨rfl, ?_⟩
      fail "go"
      rename_i H3 g3 h3 s3
      have h3D : H3 E = some (.lst (us.map V.int)) := g3.g.hh _ _ (by rw [List.mem_singleton]; exact Ne.symm DbE) hE
      have gX : Mu [b, E] R2 H0 H3 := ⟨g4.g.trans (g3.g.mono (by simp))⟩
      refine g_ite (fun e => ?_) (fun e => ?_)
      · fail "go"
        refine ⟨_, h3D, by rw [List.length_map]; fail "sz", _, us ++ [0 + (j : Int)], ⟨Gr.app gX.g RE h3D (by simp)⟩, by rw [upd_ne DbE]; exact h3, by rw [upd_same, List.map_append]; rfl, by rw [List.length_append, List.length_singleton]; omega⟩
      · exact ⟨_, us, gX, h3, h3D, by omega⟩
    rintro H5 ⟨n5, us5, g5, h5, hE5, ul5⟩
    have gF5 : Mu [b] R2 H2 H5 := ⟨(show Gr [b, E] R2 H2 R2 H5 from ((Gr.newM (M := []) s2 nE).nil).trans g5.g).forget (by intro x hx hn; simp at hx hn; rcases hx with rfl | rfl; exact absurd rfl hn; exact nE)⟩
    clear g5
    have gG5 : Gr [b] R H R2 H5 := gG.trans gF5.g
    have s5 := gF5.g.rh
    clear gG gF gF5 s2
    fail "go"
    refine g_tupL (SqL.of hE5) ?_
    fail "newR"
    rename_i p6 H6 R6 n6 g6 h6 s6
    have hb6 := g6.same _ _ h5
    have R6b : R6 b = none := g6.fr _ _ h5 R2b
    have h2' : R6 p2 = some (.tup (us1.map V.int)) := g6.rr _ _ h2
    have gG6 : Gr [b] R H R6 H6 := gG5.trans g6.nil
    clear gG5 g6 h5 R2b h2 hE5 s5 RD RE nD nE Rb sR hb h2b DbD DbE
    fail "go"
    refine ⟨by fail "sz", ?_⟩
    fail "newM"
    rename_i p7 H7 n7 g7 m7 h7 s7
    fail "go"
    rename_i H8 g8 h8 s8
    have m5 : 0 ≤ n5 % 5 ∧ n5 % 5 < 5 := ⟨Int.emod_nonneg _ (by decide), Int.emod_lt_of_pos _ (by decide)⟩
    obtain ⟨c, hc, c0, c1⟩ := pick5 m5
    have hp7 : H8 p7 = some (.lst [.int 0, .int 0, .int 1, .int 3, .int 16]) := g8.g.hh _ _ (by rw [List.mem_singleton]; exact (ne_of_none hb6 n7).symm) h7
    refine g_ixL (SqL.of hp7) hc ?_
    have gG8 : Gr [b] R H R6 H8 := gG6.trans ((Gr.nil g7.g).trans g8.g)
    clear g7 g8 gG6 hb6 h7 hp7 s6 s7
    fail "go"
    rename_i H9 g9 h9 s9
    have gG9 : Gr [b] R H R6 H9 := gG8.trans g9.g
    clear gG8 g9 h8 s8
    refine g_R1W (n := c.toNat) (by omega) (by omega) ?_
    intro D nD
    have RD := s9.free nD
    generalize hfi : n5 / 5 % 5003 = fi
    refine lc_range (lo := 0) (n := c.toNat) (fun j H' => Same H9 H' ∧ H' D = some (.lst ((fcol (fun (i : Nat) => (fi * ((i : Int) + 1) * 3571) % 16777216) j).map V.int))) ⟨(Gr.newM (M := []) (Same.refl H9) nD).rh, by rw [upd_same]; rfl⟩ ?_ ?_
    · clear s9 gG9
      rintro j H10 hj ⟨s10, h10⟩
      rw [Int.zero_add]
      refine ⟨rfl, ?_⟩
      fail "go"
      refine ⟨_, h10, by rw [List.length_map, fcol_len]; fail "sz", fun b o q => by rw [upd_ne (ne_of_none q nD)]; exact s10 _ _ q, ?_⟩
      rw [upd_same, fcol_succ, List.map_append]; rfl
    rintro H10 ⟨s910, h10⟩
    have hb10 := s910 _ _ h9
    have gG10 : Gr [b] R H R6 H10 := gG9.trans (Gr.nil (Mu.ofSame s9 s910).g)
    have s10 : Same R6 H10 := s9.trans s910
    clear gG9 s910 s9 h9
    fail "go"
    refine g_tupL (SqL.of h10) ?_
    fail "newR"
    rename_i p11 H11 R11 n11 g11 h11 s11
    have hb11 := g11.same _ _ hb10
    have R11b : R11 b = none := g11.fr _ _ hb10 R6b
    have h2' : R11 p2 = some (.tup (us1.map V.int)) := g11.rr _ _ h2'
    have h6' : R11 p6 = some (.tup (us5.map V.int)) := g11.rr _ _ h6
    have gG11 : Gr [b] R H R11 H11 := gG10.trans g11.nil
    clear gG10 s10 g11 R6b h10 hb10 h6
    fail "go"
    have e48 : (2 : Int) ^ Int.toNat 48 = 281474976710656 := by decide
    have e9 : (10 : Int) ^ Int.toNat 9 = 1000000000 := by decide
    rw [e48, e9]
    rename_i H12 g12 h12 s12 H13 g13 h13 s13 H14 g14 h14 s14
    refine ⟨by fail "sz", ?_⟩
    fail "newM"
    rename_i p15 H15 n15 g15 m15 h15 s15
    have hb15 := g15.g.same _ _ h14
    have gG15 : Gr [b] R H R11 H15 := gG11.trans (g12.g.trans (g13.g.trans (g14.g.trans (Gr.nil g15.g))))
    clear gG11 g12 g13 g14 g15 h12 h13 s12 s13 s14 s11
    fail "go"
    rename_i H16 g16 h16 s16
    have m3 : 0 ≤ n5 / 5 / 5003 / 5 / 9 / 1000000000 % 3 ∧ n5 / 5 / 5003 / 5 / 9 / 1000000000 % 3 < 3 := ⟨Int.emod_nonneg _ (by decide), Int.emod_lt_of_pos _ (by decide)⟩
    have q1 : 0 ≤ n5 / 5 / 5003 % 5 := Int.emod_nonneg _ (by decide)
    have q2 : n5 / 5 / 5003 / 5 % 9 < 9 := Int.emod_lt_of_pos _ (by decide)
    have q3 : 0 ≤ n5 / 5 / 5003 / 5 / 9 % 1000000000 := Int.emod_nonneg _ (by decide)
    obtain ⟨gen, hg, hgs⟩ := pick3 (x := 1 + n5 / 5 / 5003 % 5) (y := 281474976710656 - 1 - n5 / 5 / 5003 / 5 % 9) (z := 1 + n5 / 5 / 5003 / 5 / 9 % 1000000000) m3
    have gen1 : 1 ≤ gen := by rcases hgs with rfl | rfl | rfl <;> omega
    have hp15 := g16.g.hh _ _ (by rw [List.mem_singleton]; exact (ne_of_none h14 n15).symm) h15
    refine g_ixL (SqL.of hp15) hg ?_
    fail "go"
    refine ⟨by fail "sz", ?_⟩
    fail "newR"
    rename_i p17 H17 R17 n17 g17 h17 s17
    refine hq _ R17 H17 ⟨gen, us1, us5, fcol (fun (i : Nat) => (fi * ((i : Int) + 1) * 3571) % 16777216) c.toNat⟩ (gG15.trans (g16.g.trans g17.nil)) ⟨_, g17.same _ _ h16⟩ ?_ ⟨gen1, by rw [fcol_len]; omega, fun f hf => ?_⟩
    · exact mkLb (SqT.of h17) (SqT.of (g17.rr _ _ h2')) (SqT.of (g17.rr _ _ h6')) (SqT.of (g17.rr _ _ h11))
    · obtain ⟨i, _, rfl⟩ := List.mem_map.mp hf
      exact ⟨Int.emod_nonneg _ (by decide), Int.emod_lt_of_pos _ (by decide)⟩
end
def spBits (K : PySem.W.Frag) : Sp := fun vs H Q _ => ∃ (t : Addr) (l : List Int), vs = [.ref t] ∧ SqT K H t (l.map V.int) ∧ ∀ p H', Same H H' → H p = none → H' p = some (.lst ((bits l).map V.int)) → Q (.ref p) H'
theorem bits_step (l : List Int) {j : Nat} (h : j < 3) : (bits l).take (j + 1) = (bits l).take j ++ [if decide (0 + (j : Int) ∈ l) = true then 1 else 0] := by
  match j, h with
  | 0, _ => simp [bits, bit]
  | 1, _ => simp [bits, bit]
  | 2, _ => simp [bits, bit]
section
variable {P : Program} {w : World} {K : PySem.W.Frag} {mg : Str → Option Value} {base : Heap}
theorem ok_bits_of_seats (T : Txt K mg) : FnOk P w K mg base CX0 1 T.f_bits_of_seats T.fd_bits_of_seats ["seats"] (spBits K) := by
  refine T.F_bits_of_seats.ok sc_bits_of_seats (fun vs H Q E h => ?_) (fun cdv A outer s H vs Q E hr h => ?_)
  · obtain ⟨t, l, rfl, ht, hq⟩ := h
    rfl
  · obtain ⟨t, l, rfl, ht, hq⟩ := h
    refine ⟨_, (pss_one (ps_ret (pe_lc (own := [("seat", 1)]) (g := gName 1) (tt := tYes) rfl sc_bits_of_seats.nd (pi_range1 rfl T.n_range (pa_cons (pe_glob rfl T.g_SEATS T.r_SEATS) pa_nil)) (blkOk_by (N := N_bits_of_seats) (sc := defScope s_bits_of_seats) (by decide +kernel)) (fun _ _ _ _ _ => (pg_name (i := 1) sc_bits_of_seats.nd rfl (by first | exact Or.inl rfl | exact Or.inr rfl))) (fun _ _ _ _ _ => pts_nil) (fun _ _ _ _ _ => (pe_callTy callIntU (by rfl) T.n_int (by decide +kernel) (pa_cons (pe_cmpR (opInF (K := K)) (pv 1) (pv 0) (by rfl)) pa_nil)))))), ?_⟩
    try dsimp only [cxOf]
    have r0 := Same.refl H
    fail "go"
    refine g_R1W (n := 3) rfl (by decide) ?_
    intro D nD
    refine lc_range (lo := 0) (n := 3) (fun j H' => Same H H' ∧ H' D = some (.lst (((bits l).take j).map V.int))) ⟨(Gr.newM (M := []) r0 nD).rh, upd_same⟩ ?_ ?_
    · rintro j H2 hj ⟨s2, h2⟩
      refine ⟨rfl, ?_⟩
      fail "go"
      refine g_inF (.inr (sqT_mono s2 ht)) rfl (flat_ints l) ?_
      rw [inV_ints]
      fail "go"
      refine ⟨_, h2, ?_, fun b o q => by rw [upd_ne (ne_of_none q nD)]; exact s2 _ _ q, ?_⟩
      · have : (bits l).length = 3 := rfl
        rw [List.length_map, List.length_take]; fail "sz"
      · rw [upd_same, bits_step l hj, List.map_append]; rfl
    · rintro H2 ⟨s2, h2⟩
      exact hq _ _ s2 nD h2
end
def spOctets : Sp := fun vs H Q _ => ∃ (n : Int) (k : Nat), vs = [.int n, .int (k : Int)] ∧ k ≤ 100 ∧ ∀ p H', Same H H' → H p = none → H' p = some (.lst ((lows n k).map V.int)) → Q (.ref p) H'
def OctInv (R : Hp) (n : Int) (k : Nat) (p : Addr) (i : Nat) (σ : St) (H : Hp) : Prop := ∃ x : Option V, σ = [some (.int (lowsRest n i)), some (.int (k : Int)), some (.ref p), x] ∧ Same R H ∧ H p = some (.lst ((lows n i).map V.int))
section
variable {P : Program} {w : World} {K : PySem.W.Frag} {mg : Str → Option Value} {base : Heap}
theorem ok_number_octets (T : Txt K mg) : FnOk P w K mg base CX0 1 T.f_number_octets T.fd_number_octets ["number", "count"] (spOctets) := by
  refine T.F_number_octets.ok sc_number_octets (fun vs H Q E h => ?_) (fun cdv A outer s H vs Q E hr h => ?_)
  · obtain ⟨n, k, rfl, hk, hq⟩ := h
    rfl
  · obtain ⟨n, k, rfl, hk, hq⟩ := h
    refine ⟨_, (pss_cons (ps_set (i := 2) sc_number_octets.nd rfl (by first | exact Or.inl rfl | exact Or.inr rfl) (pe_lst pa_nil))
      (pss_cons (ps_for PassesOwn.never rfl (pi_range1 rfl T.n_range (pa_cons (pv 1) pa_nil)) (pg_name (i := 3) sc_number_octets.nd rfl (by first | exact Or.inl rfl | exact Or.inr rfl)) (pss_cons (ps_expr (pe_bm PySem.F.plainAttrs_list PySem.F.slot_list_append PySem.F.type_list_append mt_append (pv 2) (pa_cons (pe_op opModU (pv 0) pe_int) pa_nil)))
      (pss_one (ps_set (i := 0) sc_number_octets.nd rfl (by first | exact Or.inl rfl | exact Or.inr rfl) (pe_op opFloorDivU (pv 0) pe_int)))))
      (pss_one (ps_ret (pv 2))))), ?_⟩
    try dsimp only [cxOf]
    have r0 := Same.refl H
    fail "go"
    refine ⟨by fail "sz", ?_⟩
    fail "newM"
    rename_i p H1 n1 g1 m1 h1 s1
    fail "go"
    refine g_R1W rfl (by omega) ?_
    refine for_range (lo := 0) (n := k) (OctInv H n k p) ⟨none, rfl, s1, h1⟩ ?_ ?_
    · rintro i σ H2 hi ⟨x0, rfl, s2, h2⟩
      fail "go"
      rename_i H3 g3 h3 s3
      refine ⟨some (.int (0 + (i : Int))), ?_, s3, ?_⟩
      · rw [lowsRest_succ]; rfl
      · rw [lows_succ, List.map_append]; exact h3
    · rintro σ H2 ⟨x0, rfl, s2, h2⟩
      fail "go"
      exact hq _ _ s2 m1 h2
end
def spLabelBlock (K : PySem.W.Frag) (C : Addr) : Sp := fun vs H Q _ => ∃ (a : Addr) (v : V) (L : Lay) (n : Int) (l : Lb), vs = [.ref a, .int n, v] ∧ LayAt C H a L ∧ L.Ok ∧ Dp K H v l.d ∧ l.forks.length ≤ 300 ∧ ∀ w H', Same H H' → Dp K H' w (labelBlk L n l).d → Q w H'
def LbForks (R : Hp) (a t m b f p : Addr) (n : Int) (l : Lb) (i : Nat) (σ : St) (H : Hp) : Prop := ∃ x : Option V, σ = [some (.ref a), some (.int n), some (.ref t), some (.int l.gen), some (.ref m), some (.ref b), some (.ref f), some (.ref p), x] ∧ Same R H ∧ H p = some (.lst ((labelHead n l ++ fork3 (l.forks.take i)).map V.int))
section
variable {P : Program} {w : World} {K : PySem.W.Frag} {mg : Str → Option Value} {base : Heap}
theorem ok_label_block (T : Txt K mg) : FnOk P w K mg base CX0 2 T.f_label_block T.fd_label_block ["layout", "seat", "label"] (spLabelBlock K T.C_Layout) := by
  have cl_Layout := T.cl_Layout
  have a_Layout_block_size := T.a_Layout_block_size
  have G_bits_of_seats := ok_bits_of_seats (P := P) (w := w) (base := base) T
  have G_number_octets := ok_number_octets (P := P) (w := w) (base := base) T
  refine T.F_label_block.ok sc_label_block (fun vs H Q E h => ?_) (fun cdv A outer s H vs Q E hr h => ?_)
  · obtain ⟨a, v, L, n, l, rfl, ⟨dx, ha⟩, hL, dv, hf, hq⟩ := h
    rfl
  · obtain ⟨a, v, L, n, l, rfl, ⟨dx, ha⟩, hL, dv, hf, hq⟩ := h
    refine ⟨_, (pss_cons (ps_asg (pv 2) (pg_tupK (K := K) rfl (pgs_cons (pg_name (i := 3) sc_label_block.nd rfl (by first | exact Or.inl rfl | exact Or.inr rfl)) (pgs_cons (pg_name (i := 4) sc_label_block.nd rfl (by first | exact Or.inl rfl | exact Or.inr rfl)) (pgs_cons (pg_name (i := 5) sc_label_block.nd rfl (by first | exact Or.inl rfl | exact Or.inr rfl)) (pgs_cons (pg_name (i := 6) sc_label_block.nd rfl (by first | exact Or.inl rfl | exact Or.inr rfl)) pgs_nil))))))
      (pss_cons (ps_set (i := 7) sc_label_block.nd rfl (by first | exact Or.inl rfl | exact Or.inr rfl) (pe_op (opAddU (K := K)) (pe_op (opAddU (K := K)) (pe_op (opAddU (K := K)) (pe_op (opAddU (K := K)) (pe_callTy (callListU (K := K)) (by rfl) T.n_list (by decide +kernel) (pa_cons (pe_glob rfl T.g_LETTERS T.r_LETTERS) pa_nil)) (pe_lst (pa_cons pe_int (pa_cons (pv 1) pa_nil)))) (pe_call G_bits_of_seats (hr.mono (by decide)) rfl T.g_bits_of_seats T.F_bits_of_seats.kp T.b_bits_of_seats .nil pass0 (pa_cons (pv 4) pa_nil))) (pe_call G_bits_of_seats (hr.mono (by decide)) rfl T.g_bits_of_seats T.F_bits_of_seats.kp T.b_bits_of_seats .nil pass0 (pa_cons (pv 5) pa_nil))) (pe_lst (pa_cons (pe_callB (callLenU (K := K)) (by rfl) T.n_len (by decide +kernel) (pa_cons (pv 6) pa_nil)) pa_nil))))
      (pss_cons (ps_for PassesOwn.never rfl (pi_tupK (K := K) (pv 6)) (pg_name (i := 8) sc_label_block.nd rfl (by first | exact Or.inl rfl | exact Or.inr rfl)) (pss_one (ps_expr (pe_bm PySem.F.plainAttrs_list PySem.F.slot_list_extend PySem.F.type_list_extend mt_extend (pv 7) (pa_cons (pe_call G_number_octets (hr.mono (by decide)) rfl T.g_number_octets T.F_number_octets.kp T.b_number_octets .nil pass0 (pa_cons (pv 8) (pa_cons (pe_glob rfl T.g_FORK_OCTETS T.r_FORK_OCTETS) pa_nil))) pa_nil)))))
      (pss_one (ps_ret (pe_tup (pa_cons (pe_glob rfl T.g_DATA T.r_DATA) (pa_cons (pv 3) (pa_cons pe_int (pa_cons (pe_callTy (callTupU (K := K)) (by rfl) T.n_tuple (by decide +kernel) (pa_cons (pe_op (opAddU (K := K)) (pv 7) (pe_op opMultU (pe_lst (pa_cons pe_int pa_nil)) (pe_op opSubU (pe_fldK (K := K) (pv 0) rfl) (pe_callB (callLenU (K := K)) (by rfl) T.n_len (by decide +kernel) (pa_cons (pv 7) pa_nil))))) pa_nil)) pa_nil)))))))))), ?_⟩
    try dsimp only [cxOf]
    have r0 := Same.refl H
    obtain ⟨t, m, b, f, rfl, ht, hm, hb, hfk⟩ := dpLb dv
    fail "go"
    refine g_listT (T.q_LETTERS _) ?_
    fail "newM"
    rename_i p1 H1 n1 g1 m1 h1 s1
    fail "go"
    refine ⟨by fail "sz", ?_⟩
    fail "newM"
    rename_i p2 H2 n2 g2 m2 h2 s2
    refine g_catI (l := [83, 73, 68, 69]) (m := [1, n]) (by fail "hp") h2 (by simp) ?_
    fail "newM"
    rename_i p3 H3 n3 g3 m3 h3 s3
    fail "go"
    refine ⟨m, l.mem, rfl, by fail "sq", ?_⟩
    fail "ret"
    rename_i p4 H4 h4 f4 g4 m4 s4
    refine g_catI (by fail "hp") h4 (by simp [bits]) ?_
    fail "newM"
    rename_i p5 H5 n5 g5 m5 h5 s5
    fail "go"
    refine ⟨b, l.bef, rfl, by fail "sq", ?_⟩
    fail "ret"
    rename_i p6 H6 h6 f6 g6 m6 s6
    refine g_catI (by fail "hp") h6 (by simp [bits]) ?_
    fail "newM"
    rename_i p7 H7 n7 g7 m7 h7 s7
    fail "go"
    rw [List.length_map]
    refine ⟨by fail "sz", ?_⟩
    fail "newM"
    rename_i p8 H8 n8 g8 m8 h8 s8
    refine g_catI (m := [(l.forks.length : Int)]) (by fail "hp") h8 (by simp [bits]) ?_
    fail "newM"
    rename_i p9 H9 n9 g9 m9 h9 s9
    fail "go"
    refine g_TsW (by fail "sq") ?_
    have h9' : H9 p9 = some (.lst ((labelHead n l ++ fork3 (l.forks.take 0)).map V.int)) := by rw [h9]; simp [labelHead, fork3]
    refine for_tup (K := K) (xs := l.forks.map V.int) (LbForks H a t m b f p9 n l) ⟨none, rfl, s9, h9'⟩ (fun i σ HX _ ⟨_, _, sX, _⟩ => sqT_mono sX hfk) ?_ ?_
    · clear s1 s2 s3 s4 s5 s6 s7 s8 s9 h1 h2 h3 h4 h5 h6 h7 h8 h9 h9' g1 g2 g3 g4 g5 g6 g7 g8 g9 r0
      rintro i x σ H10 hi ⟨x0, rfl, s10, h10⟩
      obtain ⟨o, ho, rfl⟩ := map_get hi
      have hil : i < l.forks.length := (List.getElem?_eq_some_iff.mp ho).1
      have htl : (l.forks.take i).length = i := by rw [List.length_take]; omega
      have fl : (fork3 (l.forks.take i)).length = 3 * i := by rw [fork3_len, htl]
      fail "go"
      refine ⟨o, 3, rfl, by omega, ?_⟩
      fail "ret"
      rename_i p11 H11 h11 f11 g11 m11 s11
      fail "go"
      refine g_ext (l := p9) (show H11 p9 = some (.lst ((labelHead n l ++ fork3 (l.forks.take i)).map V.int)) by fail "hp") h11 (by rw [List.length_map, List.length_map, List.length_append, labelHead_len, fl, lows_len]; fail "sz") ?_
      fail "mut"
      rename_i H12 g12 h12 s12
      fail "go"
      refine ⟨_, rfl, s12, ?_⟩
      rw [h12, take_snoc ho, fork3_snoc, ← List.map_append, List.append_assoc]
    · clear s1 s2 s3 s4 s5 s6 s7 s8 s9 h1 h2 h3 h4 h5 h6 h7 h8 h9 h9' g1 g2 g3 g4 g5 g6 g7 g8 g9 r0
      rintro σ H10 ⟨x0, rfl, s10, h10⟩
      rw [List.length_map, List.take_length] at h10
      have o1 := hL.o1
      have fl := labelFront_len n l
      change H10 p9 = some (.lst ((labelFront n l).map V.int)) at h10
      fail "go"
      refine ⟨by fail "sz", ?_⟩
      fail "newM"
      rename_i p11 H11 n11 g11 m11 h11 s11
      fail "go"
      rw [List.length_map]
      refine g_repZ h11 (by omega) (by omega) ?_
      fail "newM"
      rename_i p12 H12 n12 g12 m12 h12 s12
      refine g_catI (by fail "hp") h12 (by rw [List.length_replicate]; omega) ?_
      fail "newM"
      rename_i p13 H13 n13 g13 m13 h13 s13
      fail "go"
      refine g_tupL (SqL.of h13) ?_
      fail "newM"
      rename_i p14 H14 n14 g14 m14 h14 s14
      fail "go"
      refine ⟨by fail "sz", ?_⟩
      fail "newM"
      rename_i p15 H15 n15 g15 m15 h15 s15
      have h14' : H15 p14 = some (.tup ((labelOcts L n l).map V.int)) := g15.g.hh _ _ (by simp) h14
      exact hq _ _ s15 (.tup (SqT.of h15) (.cons (.int _) (.cons (.int _) (.cons (.int _) (.cons (.tup (SqT.of h14') (dpAll_ints _)) .nil)))))
end
def spLawLb (K : PySem.W.Frag) (C : Addr) : Sp := fun vs H Q _ => ∃ (a : Addr) (v : V) (L : Lay) (n : Int) (l : Lb), vs = [.ref a, .int n, v] ∧ LayAt C H a L ∧ L.Ok ∧ Dp K H v l.d ∧ l.forks.length ≤ 300 ∧ (∀ f ∈ l.forks, 0 ≤ f ∧ f < 16777216) ∧ ∀ w H', Same H H' → Dp K H' w (labelBlk L n l).d → Q w H'
theorem bits_step' (l : List Int) {j : Nat} (h : j < 3) : (bits l).take (j + 1) = (bits l).take j ++ [if decide (0 + (j : Int) ∈ l) = true then 1 else 0] := by
  match j, h with
  | 0, _ => simp [bits, bit]
  | 1, _ => simp [bits, bit]
  | 2, _ => simp [bits, bit]
def LlForks (R : Hp) (a t : Addr) (n : Int) (l : Lb) (i : Nat) (σ : St) (H : Hp) : Prop := ∃ (p : Addr) (x y : Option V), σ = [some (.ref a), some (.int n), some (.ref t), some (.ref p), x, y] ∧ Same R H ∧ R p = none ∧ H p = some (.lst ((labelHead n l ++ fork3 (l.forks.take i)).map V.int))
section
variable {P : Program} {w : World} {K : PySem.W.Frag} {mg : Str → Option Value} {base : Heap}
theorem ok__law_label_block (T : Txt K mg) : FnOk P w K mg base CX0 1 T.f__law_label_block T.fd__law_label_block ["layout", "seat", "label"] (spLawLb K T.C_Layout) := by
  have cl_Layout := T.cl_Layout
  have a_Layout_block_size := T.a_Layout_block_size
  refine T.F__law_label_block.ok sc__law_label_block (fun vs H Q E h => ?_) (fun cdv A outer s H vs Q E hr h => ?_)
  · obtain ⟨a, v, L, n, l, rfl, ⟨dx, ha⟩, hL, dv, hf, hr, hq⟩ := h
    rfl
  · obtain ⟨a, v, L, n, l, rfl, ⟨dx, ha⟩, hL, dv, hf, hr, hq⟩ := h
    refine ⟨_, (pss_cons (ps_set (i := 3) sc__law_label_block.nd rfl (by first | exact Or.inl rfl | exact Or.inr rfl) (pe_op (opAddU (K := K)) (pe_lst (pa_cons pe_int (pa_cons pe_int (pa_cons pe_int (pa_cons pe_int (pa_cons pe_int (pa_cons (pv 1) pa_nil))))))) (pe_lc (own := [("other", 5)]) (g := gName 5) (tt := tYes) rfl sc__law_label_block.nd (pi_range1 rfl T.n_range (pa_cons pe_int pa_nil)) (blkOk_by (N := N__law_label_block) (sc := defScope s__law_label_block) (by decide +kernel)) (fun _ _ _ _ _ => (pg_name (i := 5) sc__law_label_block.nd rfl (by first | exact Or.inl rfl | exact Or.inr rfl))) (fun _ _ _ _ _ => pts_nil) (fun _ _ _ _ _ => (pe_callTy callIntU (by rfl) T.n_int (by decide +kernel) (pa_cons (pe_cmpR (opInF (K := K)) (pv 5) (pe_ix (ixU (K := K)) (pv 2) pe_int (fun _ _ => rfl)) (by rfl)) pa_nil))))))
      (pss_cons (ps_set (i := 3) sc__law_label_block.nd rfl (by first | exact Or.inl rfl | exact Or.inr rfl) (pe_op (opAddU (K := K)) (pe_op (opAddU (K := K)) (pv 3) (pe_lc (own := [("other", 5)]) (g := gName 5) (tt := tYes) rfl sc__law_label_block.nd (pi_range1 rfl T.n_range (pa_cons pe_int pa_nil)) (blkOk_by (N := N__law_label_block) (sc := defScope s__law_label_block) (by decide +kernel)) (fun _ _ _ _ _ => (pg_name (i := 5) sc__law_label_block.nd rfl (by first | exact Or.inl rfl | exact Or.inr rfl))) (fun _ _ _ _ _ => pts_nil) (fun _ _ _ _ _ => (pe_callTy callIntU (by rfl) T.n_int (by decide +kernel) (pa_cons (pe_cmpR (opInF (K := K)) (pv 5) (pe_ix (ixU (K := K)) (pv 2) pe_int (fun _ _ => rfl)) (by rfl)) pa_nil))))) (pe_lst (pa_cons (pe_callB (callLenU (K := K)) (by rfl) T.n_len (by decide +kernel) (pa_cons (pe_ix (ixU (K := K)) (pv 2) pe_int (fun _ _ => rfl)) pa_nil)) pa_nil))))
      (pss_cons (ps_for PassesOwn.never rfl (pi_tupK (K := K) (pe_ix (ixU (K := K)) (pv 2) pe_int (fun _ _ => rfl))) (pg_name (i := 4) sc__law_label_block.nd rfl (by first | exact Or.inl rfl | exact Or.inr rfl)) (pss_one (ps_set (i := 3) sc__law_label_block.nd rfl (by first | exact Or.inl rfl | exact Or.inr rfl) (pe_op (opAddU (K := K)) (pv 3) (pe_lst (pa_cons (pe_op opModU (pe_callTy callIntU (by rfl) T.n_int (by decide +kernel) (pa_cons (pv 4) pa_nil)) pe_int) (pa_cons (pe_op opModU (pe_op opFloorDivU (pe_callTy callIntU (by rfl) T.n_int (by decide +kernel) (pa_cons (pv 4) pa_nil)) pe_int) pe_int) (pa_cons (pe_op opFloorDivU (pe_callTy callIntU (by rfl) T.n_int (by decide +kernel) (pa_cons (pv 4) pa_nil)) pe_int) pa_nil))))))))
      (pss_one (ps_ret (pe_tup (pa_cons pe_int (pa_cons (pe_ix (ixU (K := K)) (pv 2) pe_int (fun _ _ => rfl)) (pa_cons pe_int (pa_cons (pe_callTy (callTupU (K := K)) (by rfl) T.n_tuple (by decide +kernel) (pa_cons (pe_op (opAddU (K := K)) (pv 3) (pe_op opMultU (pe_lst (pa_cons pe_int pa_nil)) (pe_op opSubU (pe_fldK (K := K) (pv 0) rfl) (pe_callB (callLenU (K := K)) (by rfl) T.n_len (by decide +kernel) (pa_cons (pv 3) pa_nil))))) pa_nil)) pa_nil)))))))))), ?_⟩
    try dsimp only [cxOf]
    have r0 := Same.refl H
    obtain ⟨t, m, b, f, rfl, ht, hm, hb, hfk⟩ := dpLb dv
    fail "go"
    refine ⟨by fail "sz", ?_⟩
    fail "newM"
    rename_i p2 H2 n2 g2 m2 h2 s2
    fail "go"
    refine g_R1W (n := 3) rfl (by decide) ?_
    intro D3 nD3
    refine lc_range (lo := 0) (n := 3) (fun j H' => Same H2 H' ∧ H' D3 = some (.lst (((bits l.mem).take j).map V.int))) ⟨(Gr.newM (M := []) (Same.refl H2) nD3).rh, upd_same⟩ ?_ ?_
    · rintro j HX hj ⟨sX, hX⟩
      refine ⟨rfl, ?_⟩
      have tX := sqT_mono (s2.trans sX) ht
      have mX := sqT_mono (s2.trans sX) hm
      have bl : (bits l.mem).length = 3 := rfl
      fail "go"
      refine g_inF (.inr mX) rfl (flat_ints _) ?_
      rw [inV_ints]
      fail "go"
      refine ⟨_, hX, by rw [List.length_map, List.length_take]; fail "sz", fun b o q => by rw [upd_ne (ne_of_none q nD3)]; exact sX _ _ q, ?_⟩
      rw [upd_same, bits_step' _ hj, List.map_append]; rfl
    rintro H3 ⟨s23, h3⟩
    have s3 := s2.trans s23
    have h3' : H3 D3 = some (.lst ((bits l.mem).map V.int)) := h3
    try dsimp only
    refine g_catI (a := p2) (l := [83, 73, 68, 69, 1, n]) (s23 _ _ h2) h3' (by simp [bits]) ?_
    fail "newM"
    rename_i p4 H4 n4 g4 m4 h4 s4
    clear g4 h3 h3' s23 s3 g2 h2
    fail "go"
    refine g_R1W (n := 3) rfl (by decide) ?_
    intro D5 nD5
    refine lc_range (lo := 0) (n := 3) (fun j H' => Same H4 H' ∧ H' D5 = some (.lst (((bits l.bef).take j).map V.int))) ⟨(Gr.newM (M := []) (Same.refl H4) nD5).rh, upd_same⟩ ?_ ?_
    · rintro j HX hj ⟨sX, hX⟩
      refine ⟨rfl, ?_⟩
      have tX := sqT_mono (s4.trans sX) ht
      have mX := sqT_mono (s4.trans sX) hb
      have bl : (bits l.bef).length = 3 := rfl
      fail "go"
      refine g_inF (.inr mX) rfl (flat_ints _) ?_
      rw [inV_ints]
      fail "go"
      refine ⟨_, hX, by rw [List.length_map, List.length_take]; fail "sz", fun b o q => by rw [upd_ne (ne_of_none q nD5)]; exact sX _ _ q, ?_⟩
      rw [upd_same, bits_step' _ hj, List.map_append]; rfl
    rintro H5 ⟨s45, h5⟩
    have s5 := s4.trans s45
    have h5' : H5 D5 = some (.lst ((bits l.bef).map V.int)) := h5
    try dsimp only
    refine g_catI (a := p4) (s45 _ _ h4) h5' (by simp [bits]) ?_
    fail "newM"
    rename_i p6 H6 n6 g6 m6 h6 s6
    clear g6 h5 h5' s45 s5 h4
    fail "go"
    rw [List.length_map]
    refine ⟨by fail "sz", ?_⟩
    fail "newM"
    rename_i p7 H7 n7 g7 m7 h7 s7
    refine g_catI (m := [(l.forks.length : Int)]) (by fail "hp") h7 (by simp [bits]) ?_
    fail "newM"
    rename_i p8 H8 n8 g8 m8 h8 s8
    clear g7 g8 h6 h7 s6 s7
    fail "go"
    refine g_TsW (by fail "sq") ?_
    have h8' : H8 p8 = some (.lst ((labelHead n l ++ fork3 (l.forks.take 0)).map V.int)) := by rw [h8]; simp [labelHead, fork3]
    refine for_tup (K := K) (xs := l.forks.map V.int) (LlForks H a t n l) ⟨p8, none, none, rfl, s8, m8, h8'⟩ (fun i σ HX _ ⟨_, _, _, _, sX, _⟩ => sqT_mono sX hfk) ?_ ?_
    · clear h8 h8' s8 r0
      rintro i x σ H10 hi ⟨p, x0, x1, rfl, s10, m10, h10⟩
      obtain ⟨o, ho, rfl⟩ := map_get hi
      have hil : i < l.forks.length := (List.getElem?_eq_some_iff.mp ho).1
      have htl : (l.forks.take i).length = i := by rw [List.length_take]; omega
      have fl : (fork3 (l.forks.take i)).length = 3 * i := by rw [fork3_len, htl]
      have oo := hr o (List.mem_of_getElem? ho)
      fail "go"
      refine ⟨by fail "sz", ?_⟩
      fail "newM"
      rename_i p11 H11 n11 g11 m11 h11 s11
      refine g_catI (a := p) (l := labelHead n l ++ fork3 (l.forks.take i)) (m := [o % 256, o / 256 % 256, o / 65536]) (by fail "hp") h11 (by rw [List.length_append, labelHead_len, fl]; simp; omega) ?_
      fail "newM"
      rename_i p12 H12 n12 g12 m12 h12 s12
      fail "go"
      refine ⟨p12, _, _, rfl, s12, m12, ?_⟩
      rw [h12, take_snoc ho, fork3_snoc, num_low oo, List.append_assoc]
    · clear h8 h8' s8 r0
      rintro σ H10 ⟨p, x0, x1, rfl, s10, m10, h10⟩
      rw [List.length_map, List.take_length] at h10
      have o1 := hL.o1
      have fl := labelFront_len n l
      change H10 p = some (.lst ((labelFront n l).map V.int)) at h10
      fail "go"
      refine ⟨by fail "sz", ?_⟩
      fail "newM"
      rename_i p11 H11 n11 g11 m11 h11 s11
      fail "go"
      rw [List.length_map]
      refine g_repZ h11 (by omega) (by omega) ?_
      fail "newM"
      rename_i p12 H12 n12 g12 m12 h12 s12
      refine g_catI (a := p) (l := labelFront n l) (by fail "hp") h12 (by rw [List.length_replicate]; omega) ?_
      fail "newM"
      rename_i p13 H13 n13 g13 m13 h13 s13
      fail "go"
      refine g_tupL (SqL.of h13) ?_
      fail "newM"
      rename_i p14 H14 n14 g14 m14 h14 s14
      fail "go"
      refine ⟨by fail "sz", ?_⟩
      fail "newM"
      rename_i p15 H15 n15 g15 m15 h15 s15
      have h14' : H15 p14 = some (.tup ((labelOcts L n l).map V.int)) := g15.g.hh _ _ (by simp) h14
      exact hq _ _ s15 (.tup (SqT.of h15) (.cons (.int _) (.cons (.int _) (.cons (.int _) (.cons (.tup (SqT.of h14') (dpAll_ints _)) .nil)))))
end
def spLbChanged (K : PySem.W.Frag) (C : Addr) : Sp := fun vs H Q _ => ∃ (R : Hp) (a b : Addr) (v : V) (L : Lay) (k : Blk) (n : Int), vs = [.ref a, v, .ref b] ∧ Same R H ∧ LayAt C R a L ∧ L.Ok ∧ Dp K R v k.d ∧ OctBlk L k ∧ k.kind = 3 ∧ R b = none ∧ H b = some (.lst [.int n]) ∧
  ∀ w R' H' e, Gr [b] R H R' H' → (∃ m, H' b = some (.lst [.int m])) → Dp K R' w e.d → OctBlk L e → Q w H'
theorem pick4 {x y z w j : Int} (h : 0 ≤ j ∧ j < 4) : ∃ q, atI [V.int x, .int y, .int z, .int w] j = some (.int q) ∧ (q = x ∨ q = y ∨ q = z ∨ q = w) := by
  obtain ⟨i, rfl⟩ := Int.eq_ofNat_of_zero_le h.1
  match i, h with
  | 0, _ => exact ⟨x, rfl, .inl rfl⟩
  | 1, _ => exact ⟨y, rfl, .inr (.inl rfl)⟩
  | 2, _ => exact ⟨z, rfl, .inr (.inr (.inl rfl))⟩
  | 3, _ => exact ⟨w, rfl, .inr (.inr (.inr rfl))⟩
  | n + 4, h => omega
local macro_rules | `(tactic| fail "calls") => `(tactic| ((with_reducible show spTake _ _ _ _); refine ⟨_, _, _, rfl, by fail "hp", by fail "ar", by fail "ar", ?_⟩; fail "mut"))
section
variable {P : Program} {w : World} {K : PySem.W.Frag} {mg : Str → Option Value} {base : Heap}
theorem ok__law_changed (T : Txt K mg) : FnOk P w K mg base CX0 2 T.f__law_changed T.fd__law_changed ["layout", "block", "box"] (spLbChanged K T.C_Layout) := by
  have cl_Layout := T.cl_Layout
  have a_Layout_fan := T.a_Layout_fan
  have a_Layout_block_size := T.a_Layout_block_size
  have G__law_take := ok__law_take (P := P) (w := w) (base := base) T
  refine T.F__law_changed.ok sc__law_changed (fun vs H Q E h => ?_) (fun cdv A outer s H vs Q E hr h => ?_)
  · obtain ⟨R, a, b, v, L, k, n, rfl, sR, ⟨dx, ha⟩, hL, dv, hk, k3, Rb, hb, hq⟩ := h
    rfl
  · obtain ⟨R, a, b, v, L, k, n, rfl, sR, ⟨dx, ha⟩, hL, dv, hk, k3, Rb, hb, hq⟩ := h
    refine ⟨_, (pss_cons (ps_set (i := 3) sc__law_changed.nd rfl (by first | exact Or.inl rfl | exact Or.inr rfl) (pe_call G__law_take (hr.mono (by decide)) rfl T.g__law_take T.F__law_take.kp T.b__law_take .nil pass0 (pa_cons (pv 2) (pa_cons pe_int pa_nil))))
      (pss_cons (ps_if (pt_cmpR (opEqU (K := K) hr.units) (pv 3) pe_int (nomark _)) (pss_one (ps_ret (pe_tup (pa_cons pe_int (pa_cons pe_int (pa_cons pe_int (pa_cons (pe_ix (ixU (K := K)) (pv 1) pe_int (fun _ _ => rfl)) pa_nil))))))) pss_nil)
      (pss_cons (ps_if (pt_cmpR (opEqU (K := K) hr.units) (pv 3) pe_int (nomark _)) (pss_one (ps_ret (pe_tup (pa_cons pe_int (pa_cons (pe_ix (ixU (K := K)) (pv 1) pe_int (fun _ _ => rfl)) (pa_cons (pe_op (opAddU (K := K)) pe_int (pe_call G__law_take (hr.mono (by decide)) rfl T.g__law_take T.F__law_take.kp T.b__law_take .nil pass0 (pa_cons (pv 2) (pa_cons pe_int pa_nil)))) (pa_cons (pe_ix (ixU (K := K)) (pv 1) pe_int (fun _ _ => rfl)) pa_nil))))))) pss_nil)
      (pss_cons (ps_if (pt_cmpR (opEqU (K := K) hr.units) (pv 3) pe_int (nomark _)) (pss_one (ps_ret (pe_tup (pa_cons pe_int (pa_cons (pe_ix (ixU (K := K)) (pv 1) pe_int (fun _ _ => rfl)) (pa_cons pe_int (pa_cons (pe_callTy (callTupU (K := K)) (by rfl) T.n_tuple (by decide +kernel) (pa_cons (pe_op opMultU (pe_lst (pa_cons pe_int pa_nil)) (pe_fldK (K := K) (pv 0) rfl)) pa_nil)) pa_nil))))))) pss_nil)
      (pss_cons (ps_set (i := 4) sc__law_changed.nd rfl (by first | exact Or.inl rfl | exact Or.inr rfl) (pe_callTy (callListU (K := K)) (by rfl) T.n_list (by decide +kernel) (pa_cons (pe_ix (ixU (K := K)) (pv 1) pe_int (fun _ _ => rfl)) pa_nil)))
      (pss_cons (ps_set (i := 5) sc__law_changed.nd rfl (by first | exact Or.inl rfl | exact Or.inr rfl) (pe_ix (ixU (K := K)) (pe_lst (pa_cons (pe_call G__law_take (hr.mono (by decide)) rfl T.g__law_take T.F__law_take.kp T.b__law_take .nil pass0 (pa_cons (pv 2) (pa_cons pe_int pa_nil))) (pa_cons (pe_op (opAddU (K := K)) pe_int (pe_call G__law_take (hr.mono (by decide)) rfl T.g__law_take T.F__law_take.kp T.b__law_take .nil pass0 (pa_cons (pv 2) (pa_cons pe_int pa_nil)))) (pa_cons (pe_call G__law_take (hr.mono (by decide)) rfl T.g__law_take T.F__law_take.kp T.b__law_take .nil pass0 (pa_cons (pv 2) (pa_cons (pe_fldK (K := K) (pv 0) rfl) pa_nil))) (pa_cons (pe_op (opAddU (K := K)) pe_int (pe_call G__law_take (hr.mono (by decide)) rfl T.g__law_take T.F__law_take.kp T.b__law_take .nil pass0 (pa_cons (pv 2) (pa_cons pe_int pa_nil)))) pa_nil))))) (pe_op opSubU (pv 3) pe_int) (fun _ _ => rfl)))
      (pss_cons (ps_asg (pe_ix (ixU (K := K)) (pe_lst (pa_cons (pe_op opModU (pe_callTy callIntU (by rfl) T.n_int (by decide +kernel) (pa_cons (pe_op (opAddU (K := K)) (pe_ix (ixU (K := K)) (pv 4) (pv 5) (fun _ _ => rfl)) pe_int) pa_nil)) pe_int) (pa_cons (pe_call G__law_take (hr.mono (by decide)) rfl T.g__law_take T.F__law_take.kp T.b__law_take .nil pass0 (pa_cons (pv 2) (pa_cons pe_int pa_nil))) (pa_cons (pe_call G__law_take (hr.mono (by decide)) rfl T.g__law_take T.F__law_take.kp T.b__law_take .nil pass0 (pa_cons (pv 2) (pa_cons pe_int pa_nil))) (pa_cons pe_int pa_nil))))) (pe_call G__law_take (hr.mono (by decide)) rfl T.g__law_take T.F__law_take.kp T.b__law_take .nil pass0 (pa_cons (pv 2) (pa_cons pe_int pa_nil))) (fun _ _ => rfl)) (pg_sub (pv 4) (pv 5) set_list))
      (pss_one (ps_ret (pe_tup (pa_cons pe_int (pa_cons (pe_ix (ixU (K := K)) (pv 1) pe_int (fun _ _ => rfl)) (pa_cons pe_int (pa_cons (pe_callTy (callTupU (K := K)) (by rfl) T.n_tuple (by decide +kernel) (pa_cons (pv 4) pa_nil)) pa_nil)))))))))))))), ?_⟩
    try dsimp only [cxOf]
    obtain ⟨t, u, rfl, ht, hu⟩ := dpBlk dv
    have o1 := hL.o1
    have hl := hk.len k3
    have ho := hk.oct k3
    fail "go"
    rename_i H1 g1 h1 s1
    refine g_ite (fun e => ?_) (fun e0 => ?_)
    · fail "go"
      refine ⟨by fail "sz", ?_⟩
      fail "newR"
      rename_i p H2 R2 n2 g2 h2 s2
      refine hq _ R2 H2 ⟨3, 0, 0, k.body⟩ (g1.g.trans g2.nil) ⟨_, g2.same _ _ h1⟩ ?_ ⟨Int.le_refl 3, Int.le_refl 0, fun _ => hl, hk.few, fun _ => ho⟩
      exact .tup (SqT.of h2) (.cons (.int _) (.cons (.int _) (.cons (.int _) (.cons (.tup (sqT_mono g2.rr hu) (dpAll_ints _)) .nil))))
    fail "go"
    refine g_ite (fun e => ?_) (fun e1 => ?_)
    · fail "go"
      rename_i H3 g3 h3 s3
      refine ⟨by fail "sz", ?_⟩
      fail "newR"
      rename_i p H2 R2 n2 g2 h2 s2
      refine hq _ R2 H2 ⟨3, k.seq, 1 + n / 7 % 9, k.body⟩ (g1.g.trans (g3.g.trans g2.nil)) ⟨_, g2.same _ _ h3⟩ ?_ ⟨Int.le_refl 3, hk.s0, fun _ => hl, hk.few, fun _ => ho⟩
      exact .tup (SqT.of h2) (.cons (.int _) (.cons (.int _) (.cons (.int _) (.cons (.tup (sqT_mono g2.rr hu) (dpAll_ints _)) .nil))))
    fail "go"
    refine g_ite (fun e => ?_) (fun e2 => ?_)
    · fail "go"
      refine ⟨by fail "sz", ?_⟩
      fail "newM"
      rename_i p3 H3 n3 g3 m3 h3 s3
      fail "go"
      refine g_repZ h3 (by unfold Lay.fan; omega) (by unfold Lay.fan; omega) ?_
      fail "newM"
      rename_i p4 H4 n4 g4 m4 h4 s4
      fail "go"
      refine g_tupL (SqL.of h4) ?_
      fail "newR"
      rename_i p5 H5 R5 n5 g5 h5 s5
      fail "go"
      refine ⟨by fail "sz", ?_⟩
      fail "newR"
      rename_i p6 H6 R6 n6 g6 h6 s6
      have gA := g3.g.trans g4.g
      refine hq _ R6 H6 ⟨5, k.seq, 0, List.replicate L.fan.toNat 0⟩ (g1.g.trans (gA.nil.trans (g5.nil.trans g6.nil))) ⟨_, g6.same _ _ (g5.same _ _ (gA.same _ _ h1))⟩ ?_ ⟨show (3 : Int) ≤ 5 by decide, hk.s0, fun z => absurd (show (5 : Int) = 3 from z) (by decide), ?_, fun z => absurd (show (5 : Int) = 3 from z) (by decide)⟩
      · exact .tup (SqT.of h6) (.cons (.int _) (.cons (.int _) (.cons (.int _) (.cons (.tup (SqT.of (g6.rr _ _ h5)) (dpAll_ints _)) .nil))))
      · show (List.replicate L.fan.toNat (0 : Int)).length ≤ 300
        rw [List.length_replicate]; unfold Lay.fan; omega
    fail "go"
    refine g_listT (by fail "sq") ?_
    fail "newM"
    rename_i l H3 n3 g3 m3 h3 s3
    fail "go"
    rename_i H4 g4 h4 s4 H5 g5 h5 s5 H6 g6 h6 s6 H7 g7 h7 s7
    have hlb : l ≠ b := Ne.symm (ne_of_none h1 n3)
    refine ⟨by fail "sz", ?_⟩
    fail "newM"
    rename_i p8 H8 n8 g8 m8 h8 s8
    fail "go"
    have k7 : 0 ≤ n % 7 - 3 ∧ n % 7 - 3 < 4 := by omega
    obtain ⟨at', hat, hats⟩ := pick4 (x := n / 7 % 13) (y := 6 + n / 7 / 13 % 6) (z := n / 7 / 13 / 6 % L.oct) (w := 12 + n / 7 / 13 / 6 / L.oct % 4) k7
    have hr : 0 ≤ at' ∧ at' < L.oct := by
      have := Int.emod_nonneg (n / 7 / 13 / 6) (show L.oct ≠ 0 by omega)
      have := Int.emod_lt_of_pos (n / 7 / 13 / 6) (show 0 < L.oct by omega)
      rcases hats with rfl | rfl | rfl | rfl <;> omega
    refine g_ixL (SqL.of h8) hat ?_
    obtain ⟨i, rfl⟩ := Int.eq_ofNat_of_zero_le hr.1
    have il : i < k.body.length := by omega
    have hl8 : H8 l = some (.lst (k.body.map V.int)) := by fail "hp"
    have hb8 : H8 b = some (.lst [.int (n / 7 / 13 / 6 / L.oct / 4)]) := by fail "hp"
    have ln : H l = none := g1.g.free n3
    have gA : Mu [b] R H H8 := ⟨g1.g.trans ((Gr.nil g3.g).trans (g4.g.trans (g5.g.trans (g6.g.trans (g7.g.trans (Gr.nil g8.g))))))⟩
    clear g1 g3 g4 g5 g6 g7 g8 h1 h3 h4 h5 h6 h7 h8 s1 s3 s4 s5 s6 s7 sR
    fail "go"
    refine g_ixL (SqL.of hl8) (atI_getD il) ?_
    fail "go"
    rename_i H9 g9 h9 s9 H10 g10 h10 s10
    refine ⟨by fail "sz", ?_⟩
    fail "newM"
    rename_i p11 H11 n11 g11 m11 h11 s11
    fail "go"
    rename_i H12 g12 h12 s12
    have e7 : 0 ≤ n / 7 / 13 / 6 / L.oct / 4 / 256 / 4 % 4 ∧ n / 7 / 13 / 6 / L.oct / 4 / 256 / 4 % 4 < 4 := by
      have := Int.emod_nonneg (n / 7 / 13 / 6 / L.oct / 4 / 256 / 4) (show (4 : Int) ≠ 0 by decide)
      have := Int.emod_lt_of_pos (n / 7 / 13 / 6 / L.oct / 4 / 256 / 4) (show (0 : Int) < 4 by decide)
      omega
    obtain ⟨x', hx, hxs⟩ := pick4 (x := (k.body.getD i 0 + 1) % 256) (y := n / 7 / 13 / 6 / L.oct / 4 % 256) (z := n / 7 / 13 / 6 / L.oct / 4 / 256 % 4) (w := 17) e7
    have hx0 : 0 ≤ x' ∧ x' < 256 := by
      generalize n / 7 / 13 / 6 / L.oct / 4 = q at hxs
      rcases hxs with rfl | rfl | rfl | rfl <;> omega
    have hp11 : H12 p11 = some (.lst [.int ((k.body.getD i 0 + 1) % 256), .int (n / 7 / 13 / 6 / L.oct / 4 % 256), .int (n / 7 / 13 / 6 / L.oct / 4 / 256 % 4), .int 17]) := g12.g.hh _ _ (by rw [List.mem_singleton]; exact (ne_of_none h10 n11).symm) h11
    refine g_ixL (SqL.of hp11) hx ?_
    have gB : Mu [b] R H H12 := ⟨gA.g.trans (g9.g.trans (g10.g.trans ((Gr.nil g11.g).trans g12.g)))⟩
    have hb12 : ∃ m, H12 b = some (.lst [.int m]) := ⟨_, h12⟩
    have lnb : l ∉ [b] := by rw [List.mem_singleton]; exact hlb
    have hl12 : H12 l = some (.lst (k.body.map V.int)) := g12.g.hh _ _ lnb (g11.g.same _ _ (g10.g.hh _ _ lnb (g9.g.hh _ _ lnb hl8)))
    clear g9 g10 g11 g12 h9 h10 h11 s9 s10 s11
    fail "go"
    refine g_setL (j := i) hl12 (by unfold ixN; rw [List.length_map]; simp; omega) ?_
    fail "mut"
    rename_i H13 g13 h13 s13
    have h13' : H13 l = some (.lst ((k.body.set i x').map V.int)) := by rw [h13, List.map_set]
    fail "go"
    refine g_tupL (SqL.of h13') ?_
    fail "newR"
    rename_i p14 H14 R14 n14 g14 h14 s14
    fail "go"
    refine ⟨by fail "sz", ?_⟩
    fail "newR"
    rename_i p15 H15 R15 n15 g15 h15 s15
    have gC : Gr [b, l] R H R H13 := (gB.g.mono (by simp)).trans (g13.g.mono (by simp))
    have gD : Gr [b] R H R H13 := gC.forget (by intro x hx hn; simp at hx hn; rcases hx with rfl | rfl; exact absurd rfl hn; exact ln)
    obtain ⟨m12, hb12⟩ := hb12
    have hb13 := g13.g.hh _ _ (by rw [List.mem_singleton]; exact hlb.symm) hb12
    refine hq _ R15 H15 ⟨3, k.seq, 0, k.body.set i x'⟩ (gD.trans (g14.nil.trans g15.nil)) ⟨_, g15.same _ _ (g14.same _ _ hb13)⟩ ?_ ⟨Int.le_refl 3, hk.s0, fun _ => by show ((k.body.set i x').length : Int) = L.oct; rw [List.length_set]; exact hl, by show (k.body.set i x').length ≤ 300; rw [List.length_set]; exact hk.few, fun _ y hy => ?_⟩
    · exact .tup (SqT.of h15) (.cons (.int _) (.cons (.int _) (.cons (.int _) (.cons (.tup (SqT.of (g15.rr _ _ h14)) (dpAll_ints _)) .nil))))
    · rcases List.mem_or_eq_of_mem_set hy with hy | rfl
      · exact ho y hy
      · exact hx0
end
def spSeats (K : PySem.W.Frag) : Sp := fun vs H Q _ => ∃ (t : Addr) (a b c : Int), vs = [.ref t] ∧ SqT K H t [.int a, .int b, .int c] ∧ ∀ p H', Same H H' → H p = none → H' p = some (.tup ((seats3 a b c).map V.int)) → Q (.ref p) H'
def seatsUp (a b c : Int) : Nat → List Int
  | 0 => []
  | 1 => if a ≠ 0 then [0] else []
  | 2 => (if a ≠ 0 then [0] else []) ++ (if b ≠ 0 then [1] else [])
  | _ => seats3 a b c
theorem seats_step {a b c : Int} {j : Nat} (h : j < 3) : ∃ x, ([V.int a, .int b, .int c] : List V)[j]? = some (.int x) ∧ seatsUp a b c (j + 1) = seatsUp a b c j ++ (if x ≠ 0 then [(j : Int)] else []) := by
  match j, h with
  | 0, _ => exact ⟨a, rfl, by simp [seatsUp]⟩
  | 1, _ => exact ⟨b, rfl, by simp [seatsUp]⟩
  | 2, _ => exact ⟨c, rfl, by simp [seatsUp, seats3]⟩
theorem seatsUp_len {a b c : Int} {j : Nat} : (seatsUp a b c j).length ≤ 3 := by
  unfold seatsUp seats3
  split <;> (repeat' split) <;> simp
section
variable {P : Program} {w : World} {K : PySem.W.Frag} {mg : Str → Option Value} {base : Heap}
theorem ok_seats_of_bits (T : Txt K mg) : FnOk P w K mg base CX0 1 T.f_seats_of_bits T.fd_seats_of_bits ["octets"] (spSeats K) := by
  refine T.F_seats_of_bits.ok sc_seats_of_bits (fun vs H Q E h => ?_) (fun cdv A outer s H vs Q E hr h => ?_)
  · obtain ⟨t, a, b, c, rfl, ht, hq⟩ := h
    rfl
  · obtain ⟨t, a, b, c, rfl, ht, hq⟩ := h
    refine ⟨_, (pss_one (ps_ret (pe_callTy (callTupU (K := K)) (by rfl) T.n_tuple (by decide +kernel) (pa_cons (pe_lc (own := [("seat", 1)]) (g := gName 1) (tt := _) rfl sc_seats_of_bits.nd (pi_range1 rfl T.n_range (pa_cons (pe_glob rfl T.g_SEATS T.r_SEATS) pa_nil)) (blkOk_by (N := N_seats_of_bits) (sc := defScope s_seats_of_bits) (by decide +kernel)) (fun _ _ _ _ _ => (pg_name (i := 1) sc_seats_of_bits.nd rfl (by first | exact Or.inl rfl | exact Or.inr rfl))) (fun _ _ _ _ _ => pts_one (pt_cmpR (opNeU (K := K) hr.units) (pe_ix (ixU (K := K)) (pv 0) (pv 1) (fun _ _ => rfl)) pe_int (nomark _))) (fun _ _ _ _ _ => (pv 1))) pa_nil)))), ?_⟩
    try dsimp only [cxOf]
    have r0 := Same.refl H
    fail "go"
    refine g_R1W (n := 3) rfl (by decide) ?_
    intro D nD
    refine lc_range (lo := 0) (n := 3) (fun j H' => Same H H' ∧ H' D = some (.lst ((seatsUp a b c j).map V.int))) ⟨(Gr.newM (M := []) r0 nD).rh, upd_same⟩ ?_ ?_
    · rintro j H2 hj ⟨s2, h2⟩
      rw [Int.zero_add]
      refine ⟨rfl, ?_⟩
      obtain ⟨x, hx, hs⟩ := seats_step (a := a) (b := b) (c := c) hj
      have hl := seatsUp_len (a := a) (b := b) (c := c) (j := j)
      fail "go"
      refine g_ixT (sqT_mono s2 ht) (atI_nat hx) ?_
      fail "go"
      refine g_iteN (fun e => ?_) (fun e => ?_)
      · fail "go"
        refine ⟨_, h2, by rw [List.length_map]; fail "sz", fun b o q => by rw [upd_ne (ne_of_none q nD)]; exact s2 _ _ q, ?_⟩
        rw [upd_same, hs, if_pos e, List.map_append]; rfl
      · refine ⟨s2, ?_⟩
        rw [h2, hs, if_neg (fun z => z e), List.append_nil]
    · rintro H2 ⟨s2, h2⟩
      fail "go"
      refine g_tupL (SqL.of h2) ?_
      intro p np
      have s3 : Same H2 (upd H2 p (.tup ((seatsUp a b c 3).map V.int))) := (Gr.newM (M := []) (Same.refl H2) np).rh
      exact hq _ _ (s2.trans s3) (s2.free np) upd_same
end
def spNumOf (K : PySem.W.Frag) : Sp := fun vs H Q _ => ∃ (t : Addr) (l : List Int), vs = [.ref t] ∧ (SqL K H t (l.map V.int) ∨ SqT K H t (l.map V.int)) ∧ Q (.int (numOf l)) H
def NumInv (t : Addr) (l : List Int) (H0 : Hp) (i : Nat) (σ : St) (H : Hp) : Prop := ∃ x : Option V, σ = [some (.ref t), some (.int (numOf (l.drop (l.length - i)))), x] ∧ H = H0
theorem num_step {l : List Int} {i : Nat} {n : Int} (hi : i < l.length) (h : l[l.length - 1 - i]? = some n) : numOf (l.drop (l.length - (i + 1))) = numOf (l.drop (l.length - i)) * 256 + n := by
  obtain ⟨hl, rfl⟩ := List.getElem?_eq_some_iff.mp h
  have e : l.length - (i + 1) = l.length - 1 - i := by omega
  have e2 : l.length - i = l.length - 1 - i + 1 := by omega
  rw [e, e2, List.drop_eq_getElem_cons hl, numOf]
section
variable {P : Program} {w : World} {K : PySem.W.Frag} {mg : Str → Option Value} {base : Heap}
theorem ok_number_of (T : Txt K mg) : FnOk P w K mg base CX0 1 T.f_number_of T.fd_number_of ["octets"] (spNumOf K) := by
  refine T.F_number_of.ok sc_number_of (fun vs H Q E h => ?_) (fun cdv A outer s H vs Q E hr h => ?_)
  · obtain ⟨t, l, rfl, ht, hq⟩ := h
    rfl
  · obtain ⟨t, l, rfl, ht, hq⟩ := h
    refine ⟨_, (pss_cons (ps_set (i := 1) sc_number_of.nd rfl (by first | exact Or.inl rfl | exact Or.inr rfl) pe_int)
      (pss_cons (ps_for PassesOwn.never rfl (pi_revK (K := K) (by rfl) T.n_reversed (pv 0)) (pg_name (i := 2) sc_number_of.nd rfl (by first | exact Or.inl rfl | exact Or.inr rfl)) (pss_one (ps_set (i := 1) sc_number_of.nd rfl (by first | exact Or.inl rfl | exact Or.inr rfl) (pe_op (opAddU (K := K)) (pe_op opMultU (pv 1) pe_int) (pv 2)))))
      (pss_one (ps_ret (pv 1))))), ?_⟩
    try dsimp only [cxOf]
    have r0 := Same.refl H
    fail "go"
    have i0 : NumInv t l H 0 ((L2.start N_number_of [V.ref t]).set 1 (some (.int 0))) H := ⟨none, by rw [Nat.sub_zero, List.drop_length]; rfl, rfl⟩
    rcases ht with ht | ht
    · refine ⟨t, _, rfl, .inl ⟨ht, ?_⟩⟩
      refine RT.for_Itv (NumInv t l H) i0 (fun i σ H2 ⟨_, _, e⟩ => e ▸ ht) ?_ ?_
      · rintro i x σ H2 hi hx ⟨x0, rfl, rfl⟩
        rw [List.length_map] at hi hx
        obtain ⟨n, hn, rfl⟩ := map_get hx
        fail "go"
        exact ⟨_, by rw [num_step hi hn]; rfl, rfl⟩
      · rintro σ H2 ⟨x0, rfl, rfl⟩
        rw [List.length_map, Nat.sub_self, List.drop_zero]
        fail "go"
        exact hq
    · refine ⟨t, _, rfl, .inr ⟨ht, ?_⟩⟩
      refine RT.for_ItvT (NumInv t l H) i0 (fun i σ H2 ⟨_, _, e⟩ => e ▸ ht) ?_ ?_
      · rintro i x σ H2 hi hx ⟨x0, rfl, rfl⟩
        rw [List.length_map] at hi hx
        obtain ⟨n, hn, rfl⟩ := map_get hx
        fail "go"
        exact ⟨_, by rw [num_step hi hn]; rfl, rfl⟩
      · rintro σ H2 ⟨x0, rfl, rfl⟩
        rw [List.length_map, Nat.sub_self, List.drop_zero]
        fail "go"
        exact hq
end
def spLabelOf (K : PySem.W.Frag) (C : Addr) : Sp := fun vs H Q _ => ∃ (a : Addr) (v : V) (L : Lay) (n : Int) (k : Option Blk), vs = [.ref a, .int n, v] ∧ LayAt C H a L ∧ L.Ok ∧ Dp K H v (optD k) ∧ (∀ b, k = some b → OctBlk L b) ∧ ∀ w H', Same H H' → Dp K H' w (lbD (labelOf L n k)) → Q w H'
def startsI (j : Nat) : List Int := (List.range j).map fun (i : Nat) => 13 + 3 * (i : Int)
@[simp] theorem startsI_len (j : Nat) : (startsI j).length = j := by simp [startsI]
theorem startsI_succ (j : Nat) : startsI (j + 1) = startsI j ++ [13 + 3 * (j : Int)] := by simp [startsI, List.range_succ]
theorem startsI_get {n j : Nat} {x : Int} (h : (startsI n)[j]? = some x) : j < n ∧ x = 13 + 3 * (j : Int) := by
  obtain ⟨hl, rfl⟩ := List.getElem?_eq_some_iff.mp h
  rw [startsI_len] at hl
  exact ⟨hl, by simp [startsI]⟩
theorem getD_oct {l : List Int} {j : Nat} {P : Int → Prop} (h : ∀ n ∈ l, P n) (hj : j < l.length) : P (l.getD j 0) := by
  rw [List.getD_eq_getElem?_getD, List.getElem?_eq_getElem hj]
  exact h _ (List.getElem_mem hj)
section
variable {P : Program} {w : World} {K : PySem.W.Frag} {mg : Str → Option Value} {base : Heap}
theorem ok_label_of (T : Txt K mg) : FnOk P w K mg base CX0 3 T.f_label_of T.fd_label_of ["layout", "seat", "block"] (spLabelOf K T.C_Layout) := by
  have G_seats_of_bits := ok_seats_of_bits (P := P) (w := w) (base := base) T
  have G_number_of := ok_number_of (P := P) (w := w) (base := base) T
  have G_label_block := ok_label_block (P := P) (w := w) (base := base) T
  refine T.F_label_of.ok sc_label_of (fun vs H Q E h => ?_) (fun cdv A outer s H vs Q E hr h => ?_)
  · obtain ⟨a, v, L, n, k, rfl, ha, hL, dv, hk, hq⟩ := h
    rfl
  · obtain ⟨a, v, L, n, k, rfl, ha, hL, dv, hk, hq⟩ := h
    refine ⟨_, (pss_cons (ps_if (PW.pt (pw_or (pt_cmpR opIsU (pv 2) pe_non (nomark _)) (pw_or (pt_cmpR (opNeU (K := K) hr.units) (pe_ix (ixU (K := K)) (pv 2) pe_int (fun _ _ => rfl)) (pe_glob rfl T.g_DATA T.r_DATA) (nomark _)) (pw_or1 (pt_cmpR (opEqU (K := K) hr.units) (pe_ix (ixU (K := K)) (pv 2) pe_int (fun _ _ => rfl)) pe_int (nomark _)))))) (pss_one (ps_ret pe_non)) pss_nil)
      (pss_cons (ps_set (i := 3) sc_label_of.nd rfl (by first | exact Or.inl rfl | exact Or.inr rfl) (pe_ix (ixU (K := K)) (pv 2) pe_int (fun _ _ => rfl)))
      (pss_cons (ps_set (i := 4) sc_label_of.nd rfl (by first | exact Or.inl rfl | exact Or.inr rfl) (pe_call G_seats_of_bits (hr.mono (by decide)) rfl T.g_seats_of_bits T.F_seats_of_bits.kp T.b_seats_of_bits .nil pass0 (pa_cons (pe_slice (slU (K := K)) (pv 3) (po_some (pe_glob rfl T.g_MEMBERS_AT T.r_MEMBERS_AT)) (po_some (pe_op (opAddU (K := K)) (pe_glob rfl T.g_MEMBERS_AT T.r_MEMBERS_AT) (pe_glob rfl T.g_SEATS T.r_SEATS)))) pa_nil)))
      (pss_cons (ps_set (i := 5) sc_label_of.nd rfl (by first | exact Or.inl rfl | exact Or.inr rfl) (pe_call G_seats_of_bits (hr.mono (by decide)) rfl T.g_seats_of_bits T.F_seats_of_bits.kp T.b_seats_of_bits .nil pass0 (pa_cons (pe_slice (slU (K := K)) (pv 3) (po_some (pe_op (opAddU (K := K)) (pe_glob rfl T.g_MEMBERS_AT T.r_MEMBERS_AT) (pe_glob rfl T.g_SEATS T.r_SEATS))) (po_some (pe_glob rfl T.g_COUNT_AT T.r_COUNT_AT))) pa_nil)))
      (pss_cons (ps_if (PW.pt (pw_or (pt_cmpR (opNinF (K := K)) (pv 1) (pv 4) (by rfl)) (pw_or1 (pt_cmpR op_gt (pe_ix (ixU (K := K)) (pv 3) (pe_glob rfl T.g_COUNT_AT T.r_COUNT_AT) (fun _ _ => rfl)) (pe_glob rfl T.g_MOST_FORKS T.r_MOST_FORKS) (nomark _))))) (pss_one (ps_ret pe_non)) pss_nil)
      (pss_cons (ps_setLc (i := 6) (own := [("number", 9)]) (g := gName 9) (tt := tYes) rfl sc_label_of.nd rfl rfl (sw_true rfl rfl rfl (by decide +kernel)) (pi_range1 rfl T.n_range (pa_cons (pe_ix (ixU (K := K)) (pv 3) (pe_glob rfl T.g_COUNT_AT T.r_COUNT_AT) (fun _ _ => rfl)) pa_nil)) (blkOk_by (N := N_label_of) (sc := defScope s_label_of) (by decide +kernel)) (fun _ _ _ _ _ => (pg_name (i := 9) sc_label_of.nd rfl (by first | exact Or.inl rfl | exact Or.inr rfl))) (fun _ _ _ _ _ => pts_nil) (fun _ _ _ _ _ => (pe_op (opAddU (K := K)) (pe_glob rfl T.g_FORKS_AT T.r_FORKS_AT) (pe_op opMultU (pe_glob rfl T.g_FORK_OCTETS T.r_FORK_OCTETS) (pv 9)))))
      (pss_cons (ps_set (i := 7) sc_label_of.nd rfl (by first | exact Or.inl rfl | exact Or.inr rfl) (pe_callTy (callTupU (K := K)) (by rfl) T.n_tuple (by decide +kernel) (pa_cons (pe_lc (own := [("start", 10)]) (g := gName 10) (tt := tYes) rfl sc_label_of.nd (pi_listK (K := K) (pv 6)) (blkOk_by (N := N_label_of) (sc := defScope s_label_of) (by decide +kernel)) (fun _ _ _ _ _ => (pg_name (i := 10) sc_label_of.nd rfl (by first | exact Or.inl rfl | exact Or.inr rfl))) (fun _ _ _ _ _ => pts_nil) (fun _ _ _ _ _ => (pe_call G_number_of (hr.mono (by decide)) rfl T.g_number_of T.F_number_of.kp T.b_number_of .nil pass0 (pa_cons (pe_slice (slU (K := K)) (pv 3) (po_some (pv 10)) (po_some (pe_op (opAddU (K := K)) (pv 10) (pe_glob rfl T.g_FORK_OCTETS T.r_FORK_OCTETS)))) pa_nil)))) pa_nil)))
      (pss_cons (ps_set (i := 8) sc_label_of.nd rfl (by first | exact Or.inl rfl | exact Or.inr rfl) (pe_tup (pa_cons (pe_ix (ixU (K := K)) (pv 2) pe_int (fun _ _ => rfl)) (pa_cons (pv 4) (pa_cons (pv 5) (pa_cons (pv 7) pa_nil))))))
      (pss_cons (ps_if (pt_cmpR (opNeU (K := K) hr.units) (pe_call G_label_block (hr.mono (by decide)) rfl T.g_label_block T.F_label_block.kp T.b_label_block .nil pass0 (pa_cons (pv 0) (pa_cons (pv 1) (pa_cons (pv 8) pa_nil)))) (pv 2) (nomark _)) (pss_one (ps_ret pe_non)) pss_nil)
      (pss_one (ps_ret (pv 8)))))))))))), ?_⟩
    try dsimp only [cxOf]
    have r0 := Same.refl H
    rcases k with _ | k
    · obtain rfl := dp_non dv
      fail "go"
      exact hq _ _ r0 .non
    have hk := hk k rfl
    obtain ⟨t, u, rfl, ht, hu⟩ := dpBlk dv
    fail "go"
    refine g_iteN (fun e => ?_) (fun e3 => ?_)
    · fail "go"
      refine hq _ _ r0 ?_
      rw [labelOf, if_neg (fun z => e z.1)]
      exact .non
    fail "go"
    refine g_ite (fun e => ?_) (fun es => ?_)
    · fail "go"
      refine hq _ _ r0 ?_
      rw [labelOf, if_neg (fun z => z.2.1 e)]
      exact .non
    have o1 := hL.o1
    have hl := hk.len e3
    fail "go"
    refine g_slT3 (j := 6) hu (by decide) (by omega) rfl rfl ?_
    fail "newM"
    rename_i p1 H1 n1 g1 m1 h1 s1
    fail "go"
    refine ⟨_, _, _, _, rfl, SqT.of h1, ?_⟩
    fail "ret"
    rename_i p2 H2 h2 f2 g2 m2 s2
    fail "go"
    refine g_slT3 (j := 9) (sqT_mono s2 hu) (by decide) (by omega) rfl rfl ?_
    fail "newM"
    rename_i p3 H3 n3 g3 m3 h3 s3
    fail "go"
    refine ⟨_, _, _, _, rfl, SqT.of h3, ?_⟩
    fail "ret"
    rename_i p4 H4 h4 f4 g4 m4 s4
    have h2' : H4 p2 = some (.tup ((memOf k.body).map V.int)) := by fail "hp"
    have h4' : H4 p4 = some (.tup ((befOf k.body).map V.int)) := h4
    clear g1 g2 g3 g4 h1 h2 h3 h4 s1 s2 s3 n1 n3 f2 f4
    fail "go"
    refine g_ninF (.inr (SqT.of h2')) rfl (flat_ints _) ?_
    rw [inV_ints]
    fail "go"
    refine g_iteN (fun e => ?_) (fun em => ?_)
    · fail "go"
      refine hq _ _ s4 ?_
      rw [labelOf, if_neg (fun z => e z.2.2.1)]
      exact .non
    fail "go"
    refine g_ixT (sqT_mono s4 hu) (atI_getD (j := 12) (by omega)) ?_
    fail "go"
    refine g_ite (fun e => ?_) (fun e16 => ?_)
    · fail "go"
      refine hq _ _ s4 ?_
      rw [labelOf, if_neg (fun z => by have := z.2.2.2.1; omega)]
      exact .non
    fail "go"
    refine g_ixT (sqT_mono s4 hu) (atI_getD (j := 12) (by omega)) ?_
    have b12 := getD_oct (hk.oct e3) (show 12 < k.body.length by omega)
    have hfk : forksOf k.body = (List.range (k.body.getD 12 0).toNat).map (forkOf k.body) := rfl
    fail "go"
    have em16 : k.body.getD 12 0 ≤ 16 := by omega
    generalize hc : k.body.getD 12 0 = c at b12 hfk e16
    refine g_R1W (n := c.toNat) (by omega) (by omega) ?_
    intro D5 n5
    refine lc_range (lo := 0) (n := c.toNat) (fun j H' => Same H4 H' ∧ H' D5 = some (.lst ((startsI j).map V.int))) ⟨(Gr.newM (M := []) (Same.refl H4) n5).rh, by rw [upd_same]; rfl⟩ ?_ ?_
    · rintro j H5 hj ⟨s5, h5⟩
      rw [Int.zero_add]
      refine ⟨rfl, ?_⟩
      fail "go"
      refine ⟨_, h5, by rw [List.length_map, startsI_len]; fail "sz", fun b o q => by rw [upd_ne (ne_of_none q n5)]; exact s5 _ _ q, ?_⟩
      rw [upd_same, startsI_succ, List.map_append]; rfl
    rintro H5 ⟨s45, h5⟩
    have s5 := s4.trans s45
    fail "go"
    refine g_LsW (SqL.of h5) fun D6 n6 => ?_
    refine lc_list (K := K) (a := D5) (fun j H' => Same H5 H' ∧ H' D6 = some (.lst (((List.range j).map (forkOf k.body)).map V.int))) ⟨(Gr.newM (M := []) (Same.refl H5) n6).rh, upd_same⟩ (fun j H' _ ⟨s, _⟩ => SqL.of (s _ _ h5)) ?_ ?_
    · rintro j x H6 hj ⟨s6, h6⟩
      obtain ⟨st, hst, rfl⟩ := map_get hj
      obtain ⟨hjc, rfl⟩ := startsI_get hst
      have s06 := s5.trans s6
      refine ⟨rfl, ?_⟩
      fail "go"
      refine g_slT3 (j := 13 + 3 * j) (sqT_mono s06 hu) (by omega) (by omega) (by omega) (by omega) ?_
      fail "newM"
      rename_i p7 H7 n7 g7 m7 h7 s7
      fail "go"
      refine ⟨p7, [_, _, _], rfl, .inr (SqT.of h7), ?_⟩
      have h6' := g7.g.same _ _ h6
      refine ⟨_, h6', by rw [List.length_map, List.length_map, List.length_range]; fail "sz", fun b o q => by rw [upd_ne (ne_of_none q n6)]; exact g7.g.same _ _ (s6 _ _ q), ?_⟩
      have ef : forkOf k.body j = numOf [k.body.getD (13 + 3 * j) 0, k.body.getD (13 + 3 * j + 1) 0, k.body.getD (13 + 3 * j + 2) 0] := by
        unfold forkOf
        rw [show 14 + 3 * j = 13 + 3 * j + 1 by omega, show 15 + 3 * j = 13 + 3 * j + 2 by omega]
      rw [upd_same, List.range_succ, List.map_append, List.map_append, List.map_singleton, List.map_singleton, ef]
    rintro H6 ⟨s56, h6⟩
    rw [List.length_map, startsI_len, ← hfk] at h6
    have s46 := s45.trans s56
    have s6 := s5.trans s56
    have fl : (forksOf k.body).length ≤ 16 := by rw [hfk, List.length_map, List.length_range]; omega
    fail "go"
    refine g_tupL (SqL.of h6) ?_
    fail "newM"
    rename_i p7 H7 n7 g7 m7 h7 s7
    fail "go"
    refine ⟨by fail "sz", ?_⟩
    fail "newM"
    rename_i p8 H8 n8 g8 m8 h8 s8
    have s48 : Same H4 H8 := s46.trans (g7.g.same.trans g8.g.same)
    have ml : Dp K H8 (.ref p8) (readLb k).d := mkLb (SqT.of h8) (SqT.of (s48 _ _ h2')) (SqT.of (s48 _ _ h4')) (SqT.of (g8.g.same _ _ h7))
    fail "go"
    refine ⟨a, _, L, n, readLb k, rfl, ha.mono s8, hL, ml, by show (forksOf k.body).length ≤ 300; omega, fun w H9 s9 dw => ?_⟩
    have dw' := dw
    obtain ⟨t9, u9, rfl, _, _⟩ := dpBlk dw'
    have dv9 : Dp K H9 (.ref t) k.d := dp_mono (s8.trans s9) dv
    fail "go"
    refine g_neDa dw dv9 (la_shaped (la_blk _)) (la_shaped (la_blk k)) (.inl ⟨_, rfl⟩) ?_
    rw [eqv_blk]
    fail "go"
    refine g_iteN (fun e => ?_) (fun e => ?_)
    · fail "go"
      refine hq _ _ (s8.trans s9) ?_
      rw [labelOf, if_neg (fun z => e z.2.2.2.2)]
      exact .non
    · fail "go"
      refine hq _ _ (s8.trans s9) ?_
      rw [labelOf, if_pos ⟨e3, es, em, em16, e⟩]
      exact dp_mono s9 ml
end
def spDue (K : PySem.W.Frag) (C : Addr) : Sp := fun vs H Q _ => ∃ (a : Addr) (v : V) (L : Lay) (n : Int) (k : Option Blk), vs = [.ref a, .int n, v] ∧ L.Ok ∧ Dp K H v (optD k) ∧ (∀ b, k = some b → OctBlk L b) ∧ 0 ≤ n ∧ n < 3 ∧ ∀ w H', Same H H' → Dp K H' w (lbD (labelOf L n k)) → Q w H'
theorem eqv_ints (l m : List Int) : PyData.eqv (.list (l.map PyData.int)) (.list (m.map PyData.int)) = decide (l = m) :=
  eqv_dec (by rw [clean]; exact clean_ints l) (by rw [clean]; exact clean_ints m) (by rw [decide_eq_true_iff]; exact ⟨fun h => by rw [h], fun h => ints_inj (by injection h)⟩)
theorem atI_at {l : List Int} {z : Int} {j : Nat} (e : z = (j : Int)) (h : j < l.length) : atI (l.map V.int) z = some (.int (l.getD j 0)) := by rw [e]; exact atI_getD h
theorem numOf3 (a b c : Int) : numOf [a, b, c] = a + 256 * b + 65536 * c := by
  unfold numOf numOf numOf numOf; omega
theorem seat_pick {l : List Int} {n : Int} (h : 13 ≤ l.length) (n0 : 0 ≤ n) (n3 : n < 3) : ∃ q, atI (l.map V.int) (6 + n) = some (.int q) ∧ ((n = 0 ∧ q = l.getD 6 0) ∨ (n = 1 ∧ q = l.getD 7 0) ∨ (n = 2 ∧ q = l.getD 8 0)) := by
  have : n = 0 ∨ n = 1 ∨ n = 2 := by omega
  rcases this with rfl | rfl | rfl
  · exact ⟨_, atI_at (j := 6) rfl (by omega), .inl ⟨rfl, rfl⟩⟩
  · exact ⟨_, atI_at (j := 7) rfl (by omega), .inr (.inl ⟨rfl, rfl⟩)⟩
  · exact ⟨_, atI_at (j := 8) rfl (by omega), .inr (.inr ⟨rfl, rfl⟩)⟩
theorem seats_at {l : List Int} {s j : Nat} (h : s + 3 ≤ l.length) (hj : j < 3) : ([V.int (l.getD s 0), .int (l.getD (s + 1) 0), .int (l.getD (s + 2) 0)] : List V)[j]? = some (.int (l.getD (s + j) 0)) := by
  match j, hj with
  | 0, _ => rfl
  | 1, _ => rfl
  | 2, _ => rfl
theorem seats_bit {l : List Int} {s j : Nat} (hj : j < 3) (h0 : ∀ i, i < 3 → 0 ≤ l.getD (s + i) 0 ∧ l.getD (s + i) 0 ≤ 1) :
    seatsUp (l.getD s 0) (l.getD (s + 1) 0) (l.getD (s + 2) 0) (j + 1) = seatsUp (l.getD s 0) (l.getD (s + 1) 0) (l.getD (s + 2) 0) j ++ (if l.getD (s + j) 0 = 1 then [(j : Int)] else []) := by
  have e : l.getD (s + j) 0 = 1 ↔ l.getD (s + j) 0 ≠ 0 := by have := h0 j hj; omega
  simp only [e]
  match j, hj with
  | 0, _ => simp [seatsUp]
  | 1, _ => simp [seatsUp]
  | 2, _ => simp [seatsUp, seats3]
section
variable {P : Program} {w : World} {K : PySem.W.Frag} {mg : Str → Option Value} {base : Heap}
theorem ok__law_due (T : Txt K mg) : FnOk P w K mg base CX0 1 T.f__law_due T.fd__law_due ["layout", "seat", "block"] (spDue K T.C_Layout) := by
  refine T.F__law_due.ok sc__law_due (fun vs H Q E h => ?_) (fun cdv A outer s H vs Q E hr h => ?_)
  · obtain ⟨a, v, L, n, k, rfl, hL, dv, hk, n0, n3, hq⟩ := h
    rfl
  · obtain ⟨a, v, L, n, k, rfl, hL, dv, hk, n0, n3, hq⟩ := h
    refine ⟨_, (pss_cons (ps_if (PW.pt (pw_or (pt_cmpR opIsU (pv 2) pe_non (nomark _)) (pw_or (pt_cmpR (opNeU (K := K) hr.units) (pe_ix (ixU (K := K)) (pv 2) pe_int (fun _ _ => rfl)) pe_int (nomark _)) (pw_or (pt_cmpR op_lt (pe_ix (ixU (K := K)) (pv 2) pe_int (fun _ _ => rfl)) pe_int (nomark _)) (pw_or1 (pt_cmpR (opNeU (K := K) hr.units) (pe_ix (ixU (K := K)) (pv 2) pe_int (fun _ _ => rfl)) pe_int (nomark _))))))) (pss_one (ps_ret pe_non)) pss_nil)
      (pss_cons (ps_set (i := 3) sc__law_due.nd rfl (by first | exact Or.inl rfl | exact Or.inr rfl) (pe_callTy (callListU (K := K)) (by rfl) T.n_list (by decide +kernel) (pa_cons (pe_ix (ixU (K := K)) (pv 2) pe_int (fun _ _ => rfl)) pa_nil)))
      (pss_cons (ps_if (PW.pt (pw_or (pt_cmpR (opNeU (K := K) hr.units) (pe_slice (slU (K := K)) (pv 3) po_none (po_some pe_int)) (pe_lst (pa_cons pe_int (pa_cons pe_int (pa_cons pe_int (pa_cons pe_int (pa_cons pe_int (pa_cons (pv 1) pa_nil))))))) (nomark _)) (pw_or (pt_cmpR op_gt (pe_callB (callMaxU (K := K) rfl) (by rfl) T.n_max (by decide +kernel) (pa_cons (pe_slice (slU (K := K)) (pv 3) (po_some pe_int) (po_some pe_int)) pa_nil)) pe_int (nomark _)) (pw_or (pt_cmpR op_gt (pe_ix (ixU (K := K)) (pv 3) pe_int (fun _ _ => rfl)) pe_int (nomark _)) (pw_or1 (pt_cmpR (opNeU (K := K) hr.units) (pe_ix (ixU (K := K)) (pv 3) (pe_op (opAddU (K := K)) pe_int (pv 1)) (fun _ _ => rfl)) pe_int (nomark _))))))) (pss_one (ps_ret pe_non)) pss_nil)
      (pss_cons (ps_set (i := 4) sc__law_due.nd rfl (by first | exact Or.inl rfl | exact Or.inr rfl) (pe_op (opAddU (K := K)) pe_int (pe_op opMultU pe_int (pe_ix (ixU (K := K)) (pv 3) pe_int (fun _ _ => rfl)))))
      (pss_cons (ps_if (pt_cmpR op_gt (pe_callB (callMaxU (K := K) rfl) (by rfl) T.n_max (by decide +kernel) (pa_cons (pe_slice (slU (K := K)) (pv 3) (po_some (pv 4)) po_none) pa_nil)) pe_int (nomark _)) (pss_one (ps_ret pe_non)) pss_nil)
      (pss_cons (ps_set (i := 5) sc__law_due.nd rfl (by first | exact Or.inl rfl | exact Or.inr rfl) (pe_callTy (callTupU (K := K)) (by rfl) T.n_tuple (by decide +kernel) (pa_cons (pe_lc (own := [("k", 7)]) (g := gName 7) (tt := tYes) rfl sc__law_due.nd (pi_range1 rfl T.n_range (pa_cons (pe_ix (ixU (K := K)) (pv 3) pe_int (fun _ _ => rfl)) pa_nil)) (blkOk_by (N := N__law_due) (sc := defScope s__law_due) (by decide +kernel)) (fun _ _ _ _ _ => (pg_name (i := 7) sc__law_due.nd rfl (by first | exact Or.inl rfl | exact Or.inr rfl))) (fun _ _ _ _ _ => pts_nil) (fun _ _ _ _ _ => (pe_op (opAddU (K := K)) (pe_op (opAddU (K := K)) (pe_ix (ixU (K := K)) (pv 3) (pe_op (opAddU (K := K)) pe_int (pe_op opMultU pe_int (pv 7))) (fun _ _ => rfl)) (pe_op opMultU pe_int (pe_ix (ixU (K := K)) (pv 3) (pe_op (opAddU (K := K)) pe_int (pe_op opMultU pe_int (pv 7))) (fun _ _ => rfl)))) (pe_op opMultU pe_int (pe_ix (ixU (K := K)) (pv 3) (pe_op (opAddU (K := K)) pe_int (pe_op opMultU pe_int (pv 7))) (fun _ _ => rfl)))))) pa_nil)))
      (pss_cons (ps_set (i := 6) sc__law_due.nd rfl (by first | exact Or.inl rfl | exact Or.inr rfl) (pe_callTy (callTupU (K := K)) (by rfl) T.n_tuple (by decide +kernel) (pa_cons (pe_lc (own := [("other", 8)]) (g := gName 8) (tt := _) rfl sc__law_due.nd (pi_range1 rfl T.n_range (pa_cons pe_int pa_nil)) (blkOk_by (N := N__law_due) (sc := defScope s__law_due) (by decide +kernel)) (fun _ _ _ _ _ => (pg_name (i := 8) sc__law_due.nd rfl (by first | exact Or.inl rfl | exact Or.inr rfl))) (fun _ _ _ _ _ => pts_one (pt_cmpR (opEqU (K := K) hr.units) (pe_ix (ixU (K := K)) (pv 3) (pe_op (opAddU (K := K)) pe_int (pv 8)) (fun _ _ => rfl)) pe_int (nomark _))) (fun _ _ _ _ _ => (pv 8))) pa_nil)))
      (pss_one (ps_ret (pe_tup (pa_cons (pe_ix (ixU (K := K)) (pv 2) pe_int (fun _ _ => rfl)) (pa_cons (pe_callTy (callTupU (K := K)) (by rfl) T.n_tuple (by decide +kernel) (pa_cons (pe_lc (own := [("other", 8)]) (g := gName 8) (tt := _) rfl sc__law_due.nd (pi_range1 rfl T.n_range (pa_cons pe_int pa_nil)) (blkOk_by (N := N__law_due) (sc := defScope s__law_due) (by decide +kernel)) (fun _ _ _ _ _ => (pg_name (i := 8) sc__law_due.nd rfl (by first | exact Or.inl rfl | exact Or.inr rfl))) (fun _ _ _ _ _ => pts_one (pt_cmpR (opEqU (K := K) hr.units) (pe_ix (ixU (K := K)) (pv 3) (pe_op (opAddU (K := K)) pe_int (pv 8)) (fun _ _ => rfl)) pe_int (nomark _))) (fun _ _ _ _ _ => (pv 8))) pa_nil)) (pa_cons (pv 6) (pa_cons (pv 5) pa_nil)))))))))))))), ?_⟩
    try dsimp only [cxOf]
    have r0 := Same.refl H
    rcases k with _ | k
    · obtain rfl := dp_non dv
      fail "go"
      exact hq _ _ r0 .non
    have hk := hk k rfl
    obtain ⟨t, u, rfl, ht, hu⟩ := dpBlk dv
    fail "go"
    refine g_iteN (fun e => ?_) (fun e3 => ?_)
    · fail "go"
      refine hq _ _ r0 ?_
      rw [labelOf, if_neg (fun z => e z.1)]
      exact .non
    fail "go"
    refine g_ite (fun e => ?_) (fun e1 => ?_)
    · fail "go"
      refine hq _ _ r0 ?_
      rw [labelOf, if_neg (fun z => z.2.1 (by have := hk.s0; omega))]
      exact .non
    fail "go"
    refine g_iteN (fun e => ?_) (fun ep => ?_)
    · fail "go"
      refine hq _ _ r0 ?_
      rw [labelOf, if_neg (fun z => e (by have := congrArg Blk.place z.2.2.2.2; exact this.symm))]
      exact .non
    have o1 := hL.o1
    have hl := hk.len e3
    have ho := hk.oct e3
    have hfew := hk.few
    obtain ⟨b0, b1, b2, b3, b4, b5, b6, b7, b8, b9, b10, b11, b12, r, eb⟩ := head13 (show 13 ≤ k.body.length by omega)
    have li := fun z => (label_iff hL (seat := n) hk e3 eb z)
    have c6 : k.body.take 6 = [b0, b1, b2, b3, b4, b5] := by rw [eb]; rfl
    have c12 : (k.body.drop 6).take 6 = [b6, b7, b8, b9, b10, b11] := by rw [eb]; rfl
    have g12 : k.body.getD 12 0 = b12 := by rw [eb]; rfl
    fail "go"
    refine g_listT hu ?_
    fail "newM"
    rename_i p1 H1 n1 g1 m1 h1 s1
    fail "go"
    refine g_slL (SqL.of h1) ?_
    rw [show cutV (List.map V.int k.body) none (some 6) = [b0, b1, b2, b3, b4, b5].map V.int from (cut_hi (hi := 6) (by rw [List.length_map]; omega)).trans (by rw [← List.map_take, c6])]
    fail "newM"
    rename_i p2 H2 n2 g2 m2 h2 s2
    fail "go"
    refine ⟨by fail "sz", ?_⟩
    fail "newM"
    rename_i p3 H3 n3' g3 m3 h3 s3
    refine g_neDa (d := .list ([b0, b1, b2, b3, b4, b5].map PyData.int)) (e := .list ([83, 73, 68, 69, 1, n].map PyData.int)) (.lst (SqL.of (g3.g.same _ _ h2)) (dpAll_ints _)) (.lst (SqL.of h3) (dpAll_ints [83, 73, 68, 69, 1, n])) (la_shaped (la_lst (n := 0) la_ints)) (la_shaped (la_lst (n := 0) la_ints)) (.inl ⟨_, rfl⟩) ?_
    rw [eqv_ints]
    have h1' : H3 p1 = some (.lst (k.body.map V.int)) := by fail "hp"
    clear g1 g2 g3 h1 h2 h3 s1 s2
    fail "go"
    refine g_iteN (fun e => ?_) (fun e6 => ?_)
    · fail "go"
      refine hq _ _ s3 ?_
      rw [labelOf, if_neg (fun z => e ((li (g12 ▸ z.2.2.2.1)).mp z.2.2.2.2).2.1)]
      exact .non
    fail "go"
    refine g_slL (SqL.of h1') ?_
    rw [show cutV (List.map V.int k.body) (some 6) (some 12) = [b6, b7, b8, b9, b10, b11].map V.int from (cut_nat (lo := 6) (hi := 12) (by rw [List.length_map]; omega) (by decide)).trans (by rw [← List.map_drop, ← List.map_take, c12])]
    fail "newM"
    rename_i p4 H4 n4 g4 m4 h4 s4
    fail "go"
    refine g_max (SqL.of h4) (by simp) fun mx hm hy => ?_
    have h1' : H4 p1 = some (.lst (k.body.map V.int)) := by fail "hp"
    clear g4 h4 s3
    fail "go"
    refine g_ite (fun e => ?_) (fun emx => ?_)
    · fail "go"
      refine hq _ _ s4 ?_
      rw [labelOf, if_neg (fun z => by
        obtain ⟨q6, q7, q8, q9, qA, qB⟩ := ((li (g12 ▸ z.2.2.2.1)).mp z.2.2.2.2).2.2.1
        simp only [List.mem_cons, List.not_mem_nil, or_false] at hm
        omega)]
      exact .non
    have y6 := hy b6 (by simp); have y7 := hy b7 (by simp); have y8 := hy b8 (by simp)
    have y9 := hy b9 (by simp); have yA := hy b10 (by simp); have yB := hy b11 (by simp)
    fail "go"
    refine g_ixL (SqL.of h1') (atI_getD (j := 12) (by omega)) ?_
    rw [g12]
    fail "go"
    refine g_ite (fun e => ?_) (fun e16 => ?_)
    · fail "go"
      refine hq _ _ s4 ?_
      rw [labelOf, if_neg (fun z => by have := z.2.2.2.1; omega)]
      exact .non
    have li := li (by omega)
    have b6e : k.body.getD 6 0 = b6 := by rw [eb]; rfl
    have b7e : k.body.getD 7 0 = b7 := by rw [eb]; rfl
    have b8e : k.body.getD 8 0 = b8 := by rw [eb]; rfl
    have hme : memOf k.body = seats3 b6 b7 b8 := by rw [eb]; rfl
    obtain ⟨ms0, ms1, ms2⟩ := mem_seats (a := b6) (b := b7) (c := b8)
    have o6 := ho b6 (by rw [eb]; simp); have o7 := ho b7 (by rw [eb]; simp); have o8 := ho b8 (by rw [eb]; simp)
    have o9 := ho b9 (by rw [eb]; simp); have oA := ho b10 (by rw [eb]; simp); have oB := ho b11 (by rw [eb]; simp)
    have oC := ho b12 (by rw [eb]; simp)
    obtain ⟨q, hq6, hqs⟩ := seat_pick (l := k.body) (n := n) (by omega) n0 n3
    rw [b6e, b7e, b8e] at hqs
    fail "go"
    refine g_ixL (SqL.of h1') hq6 ?_
    fail "go"
    refine g_iteN (fun e => ?_) (fun eq1 => ?_)
    · fail "go"
      refine hq _ _ s4 ?_
      rw [labelOf, if_neg (fun z => by
        have z3 := z.2.2.1
        rw [hme] at z3
        rcases hqs with ⟨rfl, rfl⟩ | ⟨rfl, rfl⟩ | ⟨rfl, rfl⟩
        · have := ms0.mp z3; omega
        · have := ms1.mp z3; omega
        · have := ms2.mp z3; omega)]
      exact .non
    fail "go"
    refine g_ixL (SqL.of h1') (atI_getD (j := 12) (by omega)) ?_
    rw [g12]
    fail "go"
    have y16 : b12 ≤ 16 := by omega
    obtain ⟨c, rfl⟩ := Int.eq_ofNat_of_zero_le oC.1
    have rl : 13 + r.length = k.body.length := by rw [eb]; simp only [List.length_cons]; omega
    have dr : k.body.drop (13 + 3 * c) = r.drop (3 * c) := by
      rw [eb, show 13 + 3 * c = 3 * c + 1 + 1 + 1 + 1 + 1 + 1 + 1 + 1 + 1 + 1 + 1 + 1 + 1 by omega]
      simp only [List.drop_succ_cons]
    refine g_slL (SqL.of h1') ?_
    rw [show cutV (List.map V.int k.body) (some (13 + 3 * (c : Int))) none = (r.drop (3 * c)).map V.int from (by
      rw [show (13 + 3 * (c : Int)) = ((13 + 3 * c : Nat) : Int) by omega, cut_lo (by rw [List.length_map]; omega), ← List.map_drop, dr])]
    fail "newM"
    rename_i p5 H5 n5 g5 m5 h5 s5
    fail "go"
    refine g_max (SqL.of h5) (by rw [List.length_drop]; omega) fun my hm2 hy2 => ?_
    have h1' : H5 p1 = some (.lst (k.body.map V.int)) := by fail "hp"
    clear g5 h5 s4
    fail "go"
    rw [Int.toNat_natCast] at li
    refine g_ite (fun e => ?_) (fun emy => ?_)
    · fail "go"
      refine hq _ _ s5 ?_
      rw [labelOf, if_neg (fun z => by
        have := (li.mp z.2.2.2.2).2.2.2 my hm2
        omega)]
      exact .non
    have hr : ∀ x ∈ r, 0 ≤ x ∧ x < 256 := fun x hx => ho x (by rw [eb]; simp [hx])
    have rest : ∀ x ∈ r.drop (3 * c), x = 0 := fun x hx => by have := hy2 x hx; have := hr x (List.mem_of_mem_drop hx); omega
    have ok := li.mpr ⟨ep, e6, ⟨by omega, by omega, by omega, by omega, by omega, by omega⟩, rest⟩
    have mem : n ∈ memOf k.body := by
      rw [hme]
      rcases hqs with ⟨rfl, rfl⟩ | ⟨rfl, rfl⟩ | ⟨rfl, rfl⟩
      · exact ms0.mpr (by omega)
      · exact ms1.mpr (by omega)
      · exact ms2.mpr (by omega)
    rw [labelOf, if_pos ⟨e3, by omega, mem, by omega, ok⟩] at hq
    have hfk : forksOf k.body = (List.range c).map (forkOf k.body) := by unfold forksOf; rw [g12, Int.toNat_natCast]
    have bd6 : ∀ i, i < 3 → 0 ≤ k.body.getD (6 + i) 0 ∧ k.body.getD (6 + i) 0 ≤ 1 := fun i hi => by
      match i, hi with
      | 0, _ => rw [show 6 + 0 = 6 from rfl, b6e]; omega
      | 1, _ => rw [show 6 + 1 = 7 from rfl, b7e]; omega
      | 2, _ => rw [show 6 + 2 = 8 from rfl, b8e]; omega
    have b9e : k.body.getD 9 0 = b9 := by rw [eb]; rfl
    have bAe : k.body.getD 10 0 = b10 := by rw [eb]; rfl
    have bBe : k.body.getD 11 0 = b11 := by rw [eb]; rfl
    have bd9 : ∀ i, i < 3 → 0 ≤ k.body.getD (9 + i) 0 ∧ k.body.getD (9 + i) 0 ≤ 1 := fun i hi => by
      match i, hi with
      | 0, _ => rw [show 9 + 0 = 9 from rfl, b9e]; omega
      | 1, _ => rw [show 9 + 1 = 10 from rfl, bAe]; omega
      | 2, _ => rw [show 9 + 2 = 11 from rfl, bBe]; omega
    clear ok li hm hy hm2 hy2 emx emy
    fail "go"
    refine g_ixL (SqL.of h1') (atI_getD (j := 12) (by omega)) ?_
    rw [g12]
    fail "go"
    refine g_R1W (n := c) rfl (by omega) ?_
    intro D nD
    refine lc_range (lo := 0) (n := c) (fun j H' => Same H5 H' ∧ H' D = some (.lst (((List.range j).map (forkOf k.body)).map V.int))) ⟨(Gr.newM (M := []) (Same.refl H5) nD).rh, upd_same⟩ ?_ ?_
    · rintro j HX hj ⟨sX, hX⟩
      rw [Int.zero_add]
      refine ⟨rfl, ?_⟩
      have hp := sX _ _ h1'
      fail "go"
      refine g_ixL (SqL.of hp) (atI_at (j := 13 + 3 * j) (by omega) (by omega)) ?_
      fail "go"
      refine g_ixL (SqL.of hp) (atI_at (j := 14 + 3 * j) (by omega) (by omega)) ?_
      fail "go"
      refine g_ixL (SqL.of hp) (atI_at (j := 15 + 3 * j) (by omega) (by omega)) ?_
      fail "go"
      refine ⟨_, hX, by rw [List.length_map, List.length_map, List.length_range]; fail "sz", fun b o q => by rw [upd_ne (ne_of_none q nD)]; exact sX _ _ q, ?_⟩
      rw [upd_same, List.range_succ, List.map_append, List.map_append, List.map_singleton, List.map_singleton, show forkOf k.body j = _ from numOf3 _ _ _]
    rintro H6 ⟨s56, h6⟩
    rw [← hfk] at h6
    have h1' := s56 _ _ h1'
    have s6 := s5.trans s56
    have fl : (forksOf k.body).length ≤ 16 := by rw [hfk, List.length_map, List.length_range]; omega
    clear s5 s56
    fail "go"
    refine g_tupL (SqL.of h6) ?_
    fail "newM"
    rename_i p7 H7 n7 g7 m7 h7 s7
    have h1' : H7 p1 = some (.lst (k.body.map V.int)) := g7.g.same _ _ h1'
    clear g7 s6 h6
    fail "go"
    refine g_R1W (n := 3) rfl (by decide) ?_
    intro E nE
    refine lc_range (lo := 0) (n := 3) (fun j H' => Same H7 H' ∧ H' E = some (.lst ((seatsUp (k.body.getD 9 0) (k.body.getD (9 + 1) 0) (k.body.getD (9 + 2) 0) j).map V.int))) ⟨(Gr.newM (M := []) (Same.refl H7) nE).rh, by rw [upd_same]; rfl⟩ ?_ ?_
    · rintro j HX hj ⟨sX, hX⟩
      rw [Int.zero_add]
      refine ⟨rfl, ?_⟩
      have hs := seats_bit (l := k.body) (s := 9) hj bd9
      have hlen := seatsUp_len (a := k.body.getD 9 0) (b := k.body.getD (9 + 1) 0) (c := k.body.getD (9 + 2) 0) (j := j)
      have hp := sX _ _ h1'
      fail "go"
      refine g_ixL (SqL.of hp) (atI_at (j := 9 + j) (by omega) (by omega)) ?_
      fail "go"
      refine g_ite (fun e => ?_) (fun e => ?_)
      · fail "go"
        refine ⟨_, hX, by rw [List.length_map]; fail "sz", fun b o q => by rw [upd_ne (ne_of_none q nE)]; exact sX _ _ q, ?_⟩
        rw [upd_same, hs, if_pos e, List.map_append]; rfl
      · refine ⟨sX, ?_⟩
        rw [hX, hs, if_neg e, List.append_nil]
    rintro H8 ⟨s78, h8⟩
    have h1' := s78 _ _ h1'
    have h7' := s78 _ _ h7
    have s8 := s7.trans s78
    clear s7 s78
    fail "go"
    refine g_tupL (SqL.of h8) ?_
    fail "newM"
    rename_i p9 H9 n9 g9 m9 h9 s9
    have h1' : H9 p1 = some (.lst (k.body.map V.int)) := g9.g.same _ _ h1'
    have h7' := g9.g.same _ _ h7'
    clear g9 s8 h8
    fail "go"
    refine g_R1W (n := 3) rfl (by decide) ?_
    intro F nF
    refine lc_range (lo := 0) (n := 3) (fun j H' => Same H9 H' ∧ H' F = some (.lst ((seatsUp (k.body.getD 6 0) (k.body.getD (6 + 1) 0) (k.body.getD (6 + 2) 0) j).map V.int))) ⟨(Gr.newM (M := []) (Same.refl H9) nF).rh, by rw [upd_same]; rfl⟩ ?_ ?_
    · rintro j HX hj ⟨sX, hX⟩
      rw [Int.zero_add]
      refine ⟨rfl, ?_⟩
      have hs := seats_bit (l := k.body) (s := 6) hj bd6
      have hlen := seatsUp_len (a := k.body.getD 6 0) (b := k.body.getD (6 + 1) 0) (c := k.body.getD (6 + 2) 0) (j := j)
      have hp := sX _ _ h1'
      fail "go"
      refine g_ixL (SqL.of hp) (atI_at (j := 6 + j) (by omega) (by omega)) ?_
      fail "go"
      refine g_ite (fun e => ?_) (fun e => ?_)
      · fail "go"
        refine ⟨_, hX, by rw [List.length_map]; fail "sz", fun b o q => by rw [upd_ne (ne_of_none q nF)]; exact sX _ _ q, ?_⟩
        rw [upd_same, hs, if_pos e, List.map_append]; rfl
      · refine ⟨sX, ?_⟩
        rw [hX, hs, if_neg e, List.append_nil]
    rintro HA ⟨s9A, hA⟩
    have h7' := s9A _ _ h7'
    have h9' := s9A _ _ h9
    have sA := s9.trans s9A
    clear s9 s9A
    fail "go"
    refine g_tupL (SqL.of hA) ?_
    fail "newM"
    rename_i p11 H11 n11 g11 m11 h11 s11
    have h7' := g11.g.same _ _ h7'
    have h9' := g11.g.same _ _ h9'
    clear g11 sA hA
    fail "go"
    refine ⟨by fail "sz", ?_⟩
    fail "newM"
    rename_i p12 H12 n12 g12' m12 h12 s12
    refine hq _ _ s12 ?_
    exact mkLb (l := readLb k) (SqT.of h12) (SqT.of (g12'.g.same _ _ h11)) (SqT.of (g12'.g.same _ _ h9')) (SqT.of (g12'.g.same _ _ h7'))
end
def spBlocksHold (K : PySem.W.Frag) (C : Addr) : Sp := fun vs H Q _ => ∃ (R : Hp) (a b : Addr) (L : Lay) (n : Int), vs = [.ref a, .ref b] ∧ Same R H ∧ LayAt C R a L ∧ L.Ok ∧ R b = none ∧ H b = some (.lst [.int n]) ∧ ∀ H', Same R H' → Q (.bl true) H'
def BhInv (a b f t : Addr) (v w : V) (n : Int) (R : Hp) (_ : Nat) (σ : St) (H : Hp) : Prop := ∃ x7 x8 x9 : Option V, σ = [some (.ref a), some (.ref b), some (.ref f), some v, some (.int n), some (.ref t), some w, x7, x8, x9] ∧ Same R H
def BhIn (a b f t : Addr) (v w x : V) (n : Int) (R : Hp) (_ : Nat) (σ : St) (H : Hp) : Prop := ∃ x8 x9 : Option V, σ = [some (.ref a), some (.ref b), some (.ref f), some v, some (.int n), some (.ref t), some w, some x, x8, x9] ∧ Same R H
local macro_rules | `(tactic| fail "calls") => `(tactic| ((with_reducible show spTake _ _ _ _); refine ⟨_, _, _, rfl, by fail "hp", by fail "ar", by fail "ar", ?_⟩; fail "mut"))
section
variable {P : Program} {w : World} {K : PySem.W.Frag} {mg : Str → Option Value} {base : Heap}
theorem ok__law_blocks_hold (T : Txt K mg) : FnOk P w K mg base CX0 4 T.f__law_blocks_hold T.fd__law_blocks_hold ["layout", "box"] (spBlocksHold K T.C_Layout) := by
  have G__law_number := ok__law_number (P := P) (w := w) (base := base) T
  have G__law_label := ok__law_label (P := P) (w := w) (base := base) T
  have G__law_take := ok__law_take (P := P) (w := w) (base := base) T
  have G_label_block := ok_label_block (P := P) (w := w) (base := base) T
  have G__law_label_block := ok__law_label_block (P := P) (w := w) (base := base) T
  have G__law_changed := ok__law_changed (P := P) (w := w) (base := base) T
  have G_label_of := ok_label_of (P := P) (w := w) (base := base) T
  have G__law_due := ok__law_due (P := P) (w := w) (base := base) T
  refine T.F__law_blocks_hold.ok sc__law_blocks_hold (fun vs H Q E h => ?_) (fun cdv A outer s H vs Q E hr h => ?_)
  · obtain ⟨R, a, b, L, n, rfl, sR, ha, hL, Rb, hb, hq⟩ := h
    rfl
  · obtain ⟨R, a, b, L, n, rfl, sR, ha, hL, Rb, hb, hq⟩ := h
    refine ⟨_, (pss_cons (ps_set (i := 2) sc__law_blocks_hold.nd rfl (by first | exact Or.inl rfl | exact Or.inr rfl) (pe_lst (pa_cons (pe_call G__law_number (hr.mono (by decide)) rfl T.g__law_number T.F__law_number.kp T.b__law_number .nil pass0 (pa_cons (pe_lst (pa_cons (pe_ix (ixU (K := K)) (pv 1) pe_int (fun _ _ => rfl)) pa_nil)) (pa_cons pe_int pa_nil))) pa_nil)))
      (pss_cons (ps_set (i := 3) sc__law_blocks_hold.nd rfl (by first | exact Or.inl rfl | exact Or.inr rfl) (pe_call G__law_label (hr.mono (by decide)) rfl T.g__law_label T.F__law_label.kp T.b__law_label .nil pass0 (pa_cons (pv 1) pa_nil)))
      (pss_cons (ps_set (i := 4) sc__law_blocks_hold.nd rfl (by first | exact Or.inl rfl | exact Or.inr rfl) (pe_call G__law_take (hr.mono (by decide)) rfl T.g__law_take T.F__law_take.kp T.b__law_take .nil pass0 (pa_cons (pv 2) (pa_cons pe_int pa_nil))))
      (pss_cons (ps_set (i := 5) sc__law_blocks_hold.nd rfl (by first | exact Or.inl rfl | exact Or.inr rfl) (pe_call G_label_block (hr.mono (by decide)) rfl T.g_label_block T.F_label_block.kp T.b_label_block .nil pass0 (pa_cons (pv 0) (pa_cons (pv 4) (pa_cons (pv 3) pa_nil)))))
      (pss_cons (ps_if (PW.pt (pw_or (pt_not (pt_truthK (K := K) (pe_callB (callIsU (K := K)) (by rfl) T.n_isinstance (by decide +kernel) (pa_cons (pv 5) (pa_cons (pe_bltn (v := .ty "tuple") (by rfl) T.n_tuple (by decide +kernel) rfl) pa_nil))) (by intro _; rfl))) (pw_or1 (pt_cmpR (opNeU (K := K) hr.units) (pv 5) (pe_call G__law_label_block (hr.mono (by decide)) rfl T.g__law_label_block T.F__law_label_block.kp T.b__law_label_block .nil pass0 (pa_cons (pv 0) (pa_cons (pv 4) (pa_cons (pv 3) pa_nil)))) (nomark _))))) (pss_one (ps_ret pe_bl)) pss_nil)
      (pss_cons (ps_set (i := 6) sc__law_blocks_hold.nd rfl (by first | exact Or.inl rfl | exact Or.inr rfl) (pe_call G__law_changed (hr.mono (by decide)) rfl T.g__law_changed T.F__law_changed.kp T.b__law_changed .nil pass0 (pa_cons (pv 0) (pa_cons (pe_call G__law_label_block (hr.mono (by decide)) rfl T.g__law_label_block T.F__law_label_block.kp T.b__law_label_block .nil pass0 (pa_cons (pv 0) (pa_cons (pv 4) (pa_cons (pv 3) pa_nil)))) (pa_cons (pv 2) pa_nil)))))
      (pss_cons (ps_for PassesOwn.never rfl (pi_listK (K := K) (pe_lst (pa_cons (pe_call G__law_label_block (hr.mono (by decide)) rfl T.g__law_label_block T.F__law_label_block.kp T.b__law_label_block .nil pass0 (pa_cons (pv 0) (pa_cons (pv 4) (pa_cons (pv 3) pa_nil)))) (pa_cons (pv 6) (pa_cons pe_non pa_nil))))) (pg_name (i := 7) sc__law_blocks_hold.nd rfl (by first | exact Or.inl rfl | exact Or.inr rfl)) (pss_one (ps_for PassesOwn.never rfl (pi_range1 rfl T.n_range (pa_cons pe_int pa_nil)) (pg_name (i := 8) sc__law_blocks_hold.nd rfl (by first | exact Or.inl rfl | exact Or.inr rfl)) (pss_cons (ps_set (i := 9) sc__law_blocks_hold.nd rfl (by first | exact Or.inl rfl | exact Or.inr rfl) (pe_call G_label_of (hr.mono (by decide)) rfl T.g_label_of T.F_label_of.kp T.b_label_of .nil pass0 (pa_cons (pv 0) (pa_cons (pv 8) (pa_cons (pv 7) pa_nil)))))
      (pss_one (ps_if (PW.pt (pw_or (pt_cmpR (opNeU (K := K) hr.units) (pv 9) (pe_call G__law_due (hr.mono (by decide)) rfl T.g__law_due T.F__law_due.kp T.b__law_due .nil pass0 (pa_cons (pv 0) (pa_cons (pv 8) (pa_cons (pv 7) pa_nil)))) (nomark _)) (pw_or1 (PW.pt (pw_and (pt_cmpR opNotU (pv 9) pe_non (nomark _)) (pw_and1 (pt_not (pt_truthK (K := K) (pe_callB (callIsU (K := K)) (by rfl) T.n_isinstance (by decide +kernel) (pa_cons (pv 9) (pa_cons (pe_bltn (v := .ty "tuple") (by rfl) T.n_tuple (by decide +kernel) rfl) pa_nil))) (by intro _; rfl))))))))) (pss_one (ps_ret pe_bl)) pss_nil))))))
      (pss_one (ps_ret pe_bl))))))))), ?_⟩
    try dsimp only [cxOf]
    fail "go"
    refine ⟨by fail "sz", ?_⟩
    fail "newM"
    rename_i p1 H1 n1 g1 m1 h1 s1
    fail "go"
    refine ⟨p1, [n], _, rfl, SqL.of h1, by decide, ?_⟩
    fail "go"
    refine ⟨by fail "sz", ?_⟩
    fail "newM"
    rename_i f H2 n2 g2 m2 h2 s2
    generalize lawNumber [n] 2 = fn at h2
    have hb2 : H2 b = some (.lst [.int n]) := by fail "hp"
    have fb : f ≠ b := (ne_of_none (g1.g.same _ _ hb) n2).symm
    clear g1 g2 h1 s1 sR
    fail "go"
    refine ⟨R, b, n, rfl, s2, Rb, hb2, ?_⟩
    rintro v R3 H3 l g3 ⟨m3, hb3⟩ dl ol
    have hf3 : H3 f = some (.lst [.int fn]) := g3.hh _ _ (by rw [List.mem_singleton]; exact fb) h2
    have s3 := g3.rh
    have R3f : R3 f = none := g3.fr _ _ h2 m2
    have ha3 := ha.mono g3.rr
    have hq3 : ∀ H', Same R3 H' → Q (.bl true) H' := fun H' s => hq H' (g3.rr.trans s)
    clear g3 s2 ha hq h2 hb2 hb m2 Rb n2 fb hb3
    fail "go"
    rename_i H4 g4 h4 s4
    clear g4
    have f0 : 0 ≤ fn % 3 := Int.emod_nonneg _ (by decide)
    have f3 : fn % 3 < 3 := Int.emod_lt_of_pos _ (by decide)
    generalize fn % 3 = seat at f0 f3 ⊢
    have few : l.forks.length ≤ 300 := by have := ol.few; omega
    refine ⟨a, v, L, seat, l, rfl, ha3.mono s4, hL, dp_mono s4 dl, few, fun w H5 s5 dw => ?_⟩
    have dw' := dw
    obtain ⟨t, u, rfl, ht, _⟩ := dpBlk dw'
    have s05 := s4.trans s5
    fail "go"
    refine g_isi (ty_tup ht) (kit_ty (r := true) (by decide +kernel)) ⟨true, rfl, ?_⟩
    fail "go"
    refine ⟨a, v, L, seat, l, rfl, ha3.mono s05, hL, dp_mono s05 dl, few, ol.oct, fun w2 H6 s6 dw2 => ?_⟩
    have s06 := s05.trans s6
    refine g_neDa (dp_mono s6 dw) dw2 (la_shaped (la_blk _)) (la_shaped (la_blk _)) (.inl ⟨_, rfl⟩) ?_
    rw [eqv_blk, decide_eq_true rfl]
    fail "go"
    refine ⟨a, v, L, seat, l, rfl, ha3.mono s06, hL, dp_mono s06 dl, few, ol.oct, fun w3 H7 s7 dw3 => ?_⟩
    have hf7 : H7 f = some (.lst [.int (fn / 3)]) := s7 _ _ (s6 _ _ (s5 _ _ h4))
    have s07 := s06.trans s7
    have ob : OctBlk L (labelBlk L seat l) := octblk_label hL f0 f3 (by have := ol.gen; omega) ol.few
    have sW : Same R3 (wo H7 f) := same_wo s07 R3f
    have dw3' := dp_wo hf7 (only_blk _) dw3
    fail "go"
    refine ⟨wo H7 f, a, f, w3, L, labelBlk L seat l, _, rfl, wo_same, ha3.mono sW, hL, dw3', ob, rfl, wo_self, hf7, ?_⟩
    rintro w4 R8 H8 e g8 ⟨m8, hf8⟩ de oe
    have s8 : Same R3 H8 := sW.trans (g8.rr.trans g8.rh)
    have de8 := dp_mono g8.rh de
    clear g8 s05 s06 s07 dw3' sW hf7 dw dw2 dw3 s4 s5 s6 s7 h4
    fail "go"
    refine ⟨a, v, L, seat, l, rfl, ha3.mono s8, hL, dp_mono s8 dl, few, ol.oct, fun w9 H9 s9 dw9 => ?_⟩
    have s09 := s8.trans s9
    fail "go"
    refine ⟨by fail "sz", ?_⟩
    fail "newM"
    rename_i p10 H10 n10 g10 m10 h10 s10
    fail "go"
    have du : DpAll K H10 [w9, w4, .non] ([some (labelBlk L seat l), some e, none].map optD) := .cons (dp_mono g10.g.same dw9) (.cons (dp_mono (s9.trans g10.g.same) de8) (.cons .non .nil))
    have okk : ∀ k ∈ [some (labelBlk L seat l), some e, none], ∀ b, k = some b → OctBlk L b := by
      intro k hk bb eb
      subst eb
      simp only [List.mem_cons, List.not_mem_nil, or_false, Option.some.injEq, reduceCtorEq] at hk
      rcases hk with rfl | rfl
      · exact ob
      · exact oe
    generalize [some (labelBlk L seat l), some e, none] = ks at du okk
    generalize [w9, w4, V.non] = us at du h10
    have ha10 := ha3.mono s10
    have hq10 : ∀ H', Same H10 H' → Q (.bl true) H' := fun H' s => hq3 H' (s10.trans s)
    clear s8 s9 s09 g10 dw9 de8 de s10 ha3 hq3
    refine g_LsW (SqL.of h10) ?_
    refine for_list (K := K) (xs := us) (BhInv a b f t v w4 seat H10) ⟨none, none, none, rfl, Same.refl _⟩ (fun i σ HX _ ⟨_, _, _, _, sX⟩ => SqL.of (sX _ _ h10)) ?_ ?_
    · rintro i x σ H11 hi ⟨x7, x8, x9, rfl, s11⟩
      obtain ⟨d, hd, dx⟩ := dpAll_get' du hi
      rw [List.getElem?_map] at hd
      obtain ⟨k, hk, rfl⟩ := Option.map_eq_some_iff.mp hd
      have okk := okk k (List.mem_of_getElem? hk)
      fail "go"
      refine g_R1W (n := 3) rfl (by decide) ?_
      refine for_range (lo := 0) (n := 3) (BhIn a b f t v w4 x seat H10) ⟨_, _, rfl, s11⟩ ?_ ?_
      · clear s11
        rintro j σ H12 hj ⟨x8, x9, rfl, s12⟩
        rw [Int.zero_add]
        fail "go"
        refine ⟨a, x, L, _, k, rfl, ha10.mono s12, hL, dp_mono s12 dx, okk, fun w13 H13 s13 dw13 => ?_⟩
        have s013 := s12.trans s13
        fail "go"
        refine ⟨a, x, L, _, k, rfl, hL, dp_mono s013 dx, okk, by omega, by omega, fun w14 H14 s14 dw14 => ?_⟩
        have s014 := s013.trans s14
        have dw13' := dp_mono s14 dw13
        have dd := dw13'
        generalize labelOf L (j : Int) k = lb at dw13 dw14 dw13' dd
        rcases lb with _ | lb
        · obtain rfl := dp_non dd
          refine g_neDa dw13' dw14 (la_shaped (la_lbD _)) (la_shaped (la_lbD _)) (.inr rfl) ?_
          rw [eqv_same (clean_lbD _)]
          fail "go"
          exact ⟨_, _, rfl, s014⟩
        · obtain ⟨t15, _, _, _, rfl, ht15, _⟩ := dpLb dd
          refine g_neDa dw13' dw14 (la_shaped (la_lbD _)) (la_shaped (la_lbD _)) (.inl ⟨_, rfl⟩) ?_
          rw [eqv_same (clean_lbD _)]
          fail "go"
          refine g_isi (ty_tup ht15) (kit_ty (r := true) (by decide +kernel)) ⟨true, rfl, ?_⟩
          fail "go"
          exact ⟨_, _, rfl, s014⟩
      · rintro σ H12 ⟨x8, x9, rfl, s12⟩
        exact ⟨_, _, _, rfl, s12⟩
    · rintro σ H11 ⟨x7, x8, x9, rfl, s11⟩
      fail "go"
      exact hq10 _ s11
end
def LNewInv (K : PySem.W.Frag) (a : Addr) (ls : List (Option Lb)) (H0 : Hp) (i : Nat) (σ : St) (H : Hp) : Prop := ∃ (v : V) (x : Option V), σ = [some (.ref a), some v, x] ∧ H = H0 ∧ Dp K H v (lbD (newestOf (ls.take i)))
section
variable {P : Program} {w : World} {K : PySem.W.Frag} {mg : Str → Option Value} {base : Heap}
theorem ok__law_newest (T : Txt K mg) : FnOk P w K mg base CX0 1 T.f__law_newest T.fd__law_newest ["labels"] (spNewest K) := by
  refine T.F__law_newest.ok sc__law_newest (fun vs H Q E h => ?_) (fun cdv A outer s H vs Q E hr h => ?_)
  · obtain ⟨a, us, ls, rfl, ha, du, hq⟩ := h
    rfl
  · obtain ⟨a, us, ls, rfl, ha, du, hq⟩ := h
    refine ⟨_, (pss_cons (ps_set (i := 1) sc__law_newest.nd rfl (by first | exact Or.inl rfl | exact Or.inr rfl) pe_non)
      (pss_cons (ps_for PassesOwn.never rfl (pi_listK (K := K) (pv 0)) (pg_name (i := 2) sc__law_newest.nd rfl (by first | exact Or.inl rfl | exact Or.inr rfl)) (pss_one (ps_if (pt_cmpR opNotU (pv 2) pe_non (nomark _)) (pss_one (ps_if (PW.pt (pw_or (pt_cmpR opIsU (pv 1) pe_non (nomark _)) (pw_or (pt_cmpR op_gt (pe_ix (ixU (K := K)) (pv 2) pe_int (fun _ _ => rfl)) (pe_ix (ixU (K := K)) (pv 1) pe_int (fun _ _ => rfl)) (nomark _)) (pw_or1 (PW.pt (pw_and (pt_cmpR (opEqU (K := K) hr.units) (pe_ix (ixU (K := K)) (pv 2) pe_int (fun _ _ => rfl)) (pe_ix (ixU (K := K)) (pv 1) pe_int (fun _ _ => rfl)) (nomark _)) (pw_and1 (pt_cmpR op_lt (pe_callB (callLenU (K := K)) (by rfl) T.n_len (by decide +kernel) (pa_cons (pe_ix (ixU (K := K)) (pv 2) pe_int (fun _ _ => rfl)) pa_nil)) (pe_callB (callLenU (K := K)) (by rfl) T.n_len (by decide +kernel) (pa_cons (pe_ix (ixU (K := K)) (pv 1) pe_int (fun _ _ => rfl)) pa_nil)) (nomark _))))))))) (pss_one (ps_set (i := 1) sc__law_newest.nd rfl (by first | exact Or.inl rfl | exact Or.inr rfl) (pv 2))) pss_nil)) pss_nil)))
      (pss_one (ps_ret (pv 1))))), ?_⟩
    try dsimp only [cxOf]
    have r0 := Same.refl H
    have ul : us.length = ls.length := by have := dpAll_len du; simpa using this
    fail "go"
    refine g_LsW ha ?_
    refine for_list (K := K) (xs := us) (LNewInv K a ls H) ⟨_, none, rfl, rfl, .non⟩ (fun i σ H2 _ ⟨_, _, _, e, _⟩ => e ▸ ha) ?_ ?_
    · rintro i x σ H2 hi ⟨v, x0, rfl, rfl, dv⟩
      obtain ⟨d, hd, dx⟩ := dpAll_get' du hi
      rw [List.getElem?_map] at hd
      obtain ⟨b, hb, rfl⟩ := Option.map_eq_some_iff.mp hd
      have hs := newest_snoc hb
      rcases b with _ | l
      · obtain rfl := dp_non dx
        fail "go"
        exact ⟨v, _, rfl, rfl, by rw [hs]; exact dv⟩
      · obtain ⟨t, m, y, f, rfl, ht, hm, _, _⟩ := dpLb dx
        generalize newestOf (ls.take i) = best at dv hs
        rcases best with _ | o
        · obtain rfl := dp_non dv
          fail "go"
          exact ⟨_, _, rfl, rfl, by rw [hs]; exact dx⟩
        · obtain ⟨t2, m2, y2, f2, rfl, ht2, hm2, _, _⟩ := dpLb dv
          have yes : newer l (some o) = true → Dp K H2 (.ref t) (lbD (newestOf (ls.take (i + 1)))) := fun e => by rw [hs, pickLb, if_pos e]; exact dx
          have no : newer l (some o) = false → Dp K H2 (.ref t2) (lbD (newestOf (ls.take (i + 1)))) := fun e => by rw [hs, pickLb, if_neg (by rw [e]; exact Bool.false_ne_true)]; exact dv
          clear hs
          dsimp only [newer] at yes no
          fail "go"
          refine g_ite (fun e => ?_) (fun e => ?_)
          · fail "go"
            exact ⟨_, _, rfl, rfl, yes (by rw [if_neg (by omega)]; exact decide_eq_true e)⟩
          · fail "go"
            refine g_ite (fun e2 => ?_) (fun e2 => ?_)
            · rw [if_pos e2] at yes no
              fail "go"
              rw [List.length_map, List.length_map]
              refine g_ite (fun e3 => ?_) (fun e3 => ?_)
              · fail "go"
                exact ⟨_, _, rfl, rfl, yes (decide_eq_true (by omega))⟩
              · fail "go"
                exact ⟨_, _, rfl, rfl, no (decide_eq_false (by omega))⟩
            · fail "go"
              exact ⟨_, _, rfl, rfl, no (by rw [if_neg e2]; exact decide_eq_false e)⟩
    · rintro σ H2 ⟨v, x0, rfl, rfl, dv⟩
      rw [ul, List.take_length] at dv
      fail "go"
      exact hq _ dv
end
def spLaw (K : PySem.W.Frag) : Sp := fun vs H Q _ => ∃ (a : Addr) (ns : List Int), vs = [.ref a] ∧ SqL K H a (ns.map V.int) ∧ ns.length ≤ 63 ∧ ∀ H', Q (.bl true) H'
def L7Out (a p : Addr) (R : Hp) (_ : Nat) (σ : St) (H : Hp) : Prop := ∃ x2 x3 x4 x5 x6 x7 x8 : Option V, σ = [some (.ref a), some (.ref p), x2, x3, x4, x5, x6, x7, x8] ∧ Same R H
def L7In (K : PySem.W.Frag) (a p b l : Addr) (i : Int) (R0 : Hp) (j : Nat) (σ : St) (H : Hp) : Prop := ∃ (x5 x6 x7 x8 : Option V) (R : Hp) (m : Int) (us : List V) (ls : List (Option Lb)),
  σ = [some (.ref a), some (.ref p), some (.int i), some (.ref b), some (.ref l), x5, x6, x7, x8] ∧ Same R0 R ∧ Same R H ∧ R b = none ∧ H b = some (.lst [.int m]) ∧ R l = none ∧ H l = some (.lst us) ∧ DpAll K R us (ls.map lbD) ∧ ls.length ≤ j
theorem pick2V {x y : V} (c : Bool) : atI [x, y] (if c = true then 1 else 0) = some (if c = true then y else x) := by cases c <;> rfl
theorem clean_lbs : ∀ ls : List (Option Lb), cleanAll (ls.map lbD) = true
  | [] => rfl
  | l :: r => by rw [List.map_cons, cleanAll, clean_lbD, clean_lbs r]; rfl
theorem la_lbs (ls : List (Option Lb)) : LaD (.list (ls.map lbD)) 3 := la_lst fun d h => by
  obtain ⟨l, _, rfl⟩ := List.mem_map.mp h
  exact la_lbD l
local macro_rules | `(tactic| fail "calls") => `(tactic| ((with_reducible show spTake _ _ _ _); refine ⟨_, _, _, rfl, by fail "hp", by fail "ar", by fail "ar", ?_⟩; fail "mut"))
section
variable {P : Program} {w : World} {K : PySem.W.Frag} {mg : Str → Option Value} {base : Heap}
theorem ok_law (T : Txt K mg) : FnOk P w K mg base CX0 5 T.f_law T.fd_law ["script"] (spLaw K) := by
  have G__law_layout := ok__law_layout (P := P) (w := w) (base := base) T
  have G__law_number := ok__law_number (P := P) (w := w) (base := base) T
  have G_newest_label := ok_newest_label (P := P) (w := w) (base := base) T
  have G__law_blocks_hold := ok__law_blocks_hold (P := P) (w := w) (base := base) T
  have G__law_take := ok__law_take (P := P) (w := w) (base := base) T
  have G__law_newest := ok__law_newest (P := P) (w := w) (base := base) T
  refine T.F_law.ok sc_law (fun vs H Q E h => ?_) (fun cdv A outer s H vs Q E hr h => ?_)
  · obtain ⟨a, ns, rfl, hS, hlen, hq⟩ := h
    rfl
  · obtain ⟨a, ns, rfl, hS, hlen, hq⟩ := h
    refine ⟨_, (pss_cons (ps_set (i := 1) sc_law.nd rfl (by first | exact Or.inl rfl | exact Or.inr rfl) (pe_call G__law_layout (hr.mono (by decide)) rfl T.g__law_layout T.F__law_layout.kp T.b__law_layout .nil pass0 (pa_cons (pe_lst (pa_cons (pe_call G__law_number (hr.mono (by decide)) rfl T.g__law_number T.F__law_number.kp T.b__law_number .nil pass0 (pa_cons (pv 0) (pa_cons pe_int pa_nil))) pa_nil)) pa_nil)))
      (pss_cons (ps_if (PW.pt (pw_or (pt_cmpR (opNeU (K := K) hr.units) (pe_lst (pa_cons (pe_glob rfl T.g_SEATS T.r_SEATS) (pa_cons (pe_glob rfl T.g_LABELS T.r_LABELS) (pa_cons (pe_glob rfl T.g_MOST_FORKS T.r_MOST_FORKS) pa_nil)))) (pe_lst (pa_cons pe_int (pa_cons pe_int (pa_cons pe_int pa_nil)))) (nomark _)) (pw_or (pt_cmpR opNotU (pe_call G_newest_label (hr.mono (by decide)) rfl T.g_newest_label T.F_newest_label.kp T.b_newest_label .nil pass0 (pa_cons (pe_lst pa_nil) pa_nil)) pe_non (nomark _)) (pw_or1 (pt_cmpR opNotU (pe_call G_newest_label (hr.mono (by decide)) rfl T.g_newest_label T.F_newest_label.kp T.b_newest_label .nil pass0 (pa_cons (pe_lst (pa_cons pe_non (pa_cons pe_non pa_nil))) pa_nil)) pe_non (nomark _)))))) (pss_one (ps_ret pe_bl)) pss_nil)
      (pss_cons (ps_for PassesOwn.never rfl (pi_range1 rfl T.n_range (pa_cons pe_int pa_nil)) (pg_name (i := 2) sc_law.nd rfl (by first | exact Or.inl rfl | exact Or.inr rfl)) (pss_cons (ps_if (pt_not (pt_truthK (K := K) (pe_call G__law_blocks_hold (hr.mono (by decide)) rfl T.g__law_blocks_hold T.F__law_blocks_hold.kp T.b__law_blocks_hold .nil pass0 (pa_cons (pv 1) (pa_cons (pe_lst (pa_cons (pe_call G__law_number (hr.mono (by decide)) rfl T.g__law_number T.F__law_number.kp T.b__law_number .nil pass0 (pa_cons (pv 0) (pa_cons (pe_op (opAddU (K := K)) pe_int (pv 2)) pa_nil))) pa_nil)) pa_nil))) (by intro _; rfl))) (pss_one (ps_ret pe_bl)) pss_nil)
      (pss_cons (ps_set (i := 3) sc_law.nd rfl (by first | exact Or.inl rfl | exact Or.inr rfl) (pe_lst (pa_cons (pe_call G__law_number (hr.mono (by decide)) rfl T.g__law_number T.F__law_number.kp T.b__law_number .nil pass0 (pa_cons (pv 0) (pa_cons (pe_op (opAddU (K := K)) pe_int (pv 2)) pa_nil))) pa_nil)))
      (pss_cons (ps_set (i := 4) sc_law.nd rfl (by first | exact Or.inl rfl | exact Or.inr rfl) (pe_lst pa_nil))
      (pss_cons (ps_for PassesOwn.never rfl (pi_range1 rfl T.n_range (pa_cons (pe_call G__law_take (hr.mono (by decide)) rfl T.g__law_take T.F__law_take.kp T.b__law_take .nil pass0 (pa_cons (pv 3) (pa_cons pe_int pa_nil))) pa_nil)) (pg_name (i := 5) sc_law.nd rfl (by first | exact Or.inl rfl | exact Or.inr rfl)) (pss_cons (ps_set (i := 6) sc_law.nd rfl (by first | exact Or.inl rfl | exact Or.inr rfl) (pe_callTy (callTupU (K := K)) (by rfl) T.n_tuple (by decide +kernel) (pa_cons (pe_lc (own := [("seat", 8)]) (g := gName 8) (tt := _) rfl sc_law.nd (pi_range1 rfl T.n_range (pa_cons pe_int pa_nil)) (blkOk_by (N := N_law) (sc := defScope s_law) (by decide +kernel)) (fun _ _ _ _ _ => (pg_name (i := 8) sc_law.nd rfl (by first | exact Or.inl rfl | exact Or.inr rfl))) (fun _ _ _ _ _ => pts_one (pt_cmpR (opEqU (K := K) hr.units) (pe_call G__law_take (hr.mono (by decide)) rfl T.g__law_take T.F__law_take.kp T.b__law_take .nil pass0 (pa_cons (pv 3) (pa_cons pe_int pa_nil))) pe_int (nomark _))) (fun _ _ _ _ _ => (pv 8))) pa_nil)))
      (pss_one (ps_expr (pe_bm PySem.F.plainAttrs_list PySem.F.slot_list_append PySem.F.type_list_append mt_append (pv 4) (pa_cons (pe_ix (ixU (K := K)) (pe_lst (pa_cons (pe_tup (pa_cons (pe_op (opAddU (K := K)) pe_int (pe_call G__law_take (hr.mono (by decide)) rfl T.g__law_take T.F__law_take.kp T.b__law_take .nil pass0 (pa_cons (pv 3) (pa_cons pe_int pa_nil)))) (pa_cons (pv 6) (pa_cons (pv 6) (pa_cons (pe_tup (pa_cons (pv 5) pa_nil)) pa_nil))))) (pa_cons pe_non pa_nil))) (pe_callTy callIntU (by rfl) T.n_int (by decide +kernel) (pa_cons (pe_cmpR (opEqU (K := K) hr.units) (pe_call G__law_take (hr.mono (by decide)) rfl T.g__law_take T.F__law_take.kp T.b__law_take .nil pass0 (pa_cons (pv 3) (pa_cons pe_int pa_nil))) pe_int (nomark _)) pa_nil)) (fun _ _ => rfl)) pa_nil))))))
      (pss_cons (ps_set (i := 7) sc_law.nd rfl (by first | exact Or.inl rfl | exact Or.inr rfl) (pe_callTy (callListU (K := K)) (by rfl) T.n_list (by decide +kernel) (pa_cons (pv 4) pa_nil)))
      (pss_one (ps_if (PW.pt (pw_or (pt_cmpR (opNeU (K := K) hr.units) (pe_call G_newest_label (hr.mono (by decide)) rfl T.g_newest_label T.F_newest_label.kp T.b_newest_label .nil pass0 (pa_cons (pv 7) pa_nil)) (pe_call G__law_newest (hr.mono (by decide)) rfl T.g__law_newest T.F__law_newest.kp T.b__law_newest .nil pass0 (pa_cons (pv 4) pa_nil)) (nomark _)) (pw_or1 (pt_cmpR (opNeU (K := K) hr.units) (pv 7) (pv 4) (nomark _))))) (pss_one (ps_ret pe_bl)) pss_nil))))))))
      (pss_one (ps_ret pe_bl))))), ?_⟩
    try dsimp only [cxOf]
    have r0 := Same.refl H
    fail "go"
    refine ⟨_, _, _, rfl, hS, by omega, ?_⟩
    fail "go"
    refine ⟨by fail "sz", ?_⟩
    fail "newM"
    rename_i b H1 n1 g1 m1 h1 s1
    refine ⟨H, b, _, rfl, s1, m1, h1, fun p H2 L s2 hp hL => ?_⟩
    clear s1 g1 r0
    fail "go"
    refine ⟨by fail "sz", ?_⟩
    fail "newM"
    rename_i p3 H3 n3 g3 m3 h3 s3
    fail "go"
    refine ⟨by fail "sz", ?_⟩
    fail "newM"
    rename_i p4 H4 n4 g4 m4 h4 s4
    have h3' := g4.g.same _ _ h3
    refine g_neDa (d := .list [.int 3, .int 2, .int 16]) (e := .list [.int 3, .int 2, .int 16]) (.lst (SqL.of h3') (dpAll_ints [3, 2, 16])) (.lst (SqL.of h4) (dpAll_ints [3, 2, 16])) (by decide +kernel) (by decide +kernel) (.inl ⟨_, rfl⟩) ?_
    rw [show PyData.eqv (.list [.int 3, .int 2, .int 16]) (.list [.int 3, .int 2, .int 16]) = true by decide +kernel]
    fail "go"
    refine ⟨by fail "sz", ?_⟩
    fail "newM"
    rename_i p5 H5 n5 g5 m5 h5 s5
    fail "go"
    refine ⟨p5, [], [], rfl, SqL.of h5, .nil, fun v dv => ?_⟩
    obtain rfl := dp_non dv
    fail "go"
    refine ⟨by fail "sz", ?_⟩
    fail "newM"
    rename_i p6 H6 n6 g6 m6 h6 s6
    fail "go"
    refine ⟨p6, [.non, .non], [none, none], rfl, SqL.of h6, .cons .non (.cons .non .nil), fun v dv => ?_⟩
    obtain rfl := dp_non dv
    fail "go"
    have s26 : Same H2 H6 := g3.g.same.trans (g4.g.same.trans (g5.g.same.trans g6.g.same))
    have hp6 := hp.mono s26
    have hS6 := sqL_mono s6 hS
    have hOk := lays_ok L hL
    clear g3 g4 g5 g6 h3 h3' h4 h5 h6 s3 s4 s5 s6 s26 hp hS n3 n4 n5 n6 s2 hL h1 n1
    refine g_R1W (n := 16) rfl (by decide) ?_
    refine for_range (lo := 0) (n := 16) (L7Out a p H6) ⟨none, none, none, none, none, none, none, rfl, Same.refl _⟩ ?_ ?_
    · rintro i σ H7 hi ⟨x2, x3, x4, x5, x6, x7, x8, rfl, s7⟩
      rw [Int.zero_add]
      fail "go"
      refine ⟨_, _, _, rfl, sqL_mono s7 hS6, by omega, ?_⟩
      fail "go"
      refine ⟨by fail "sz", ?_⟩
      fail "newM"
      rename_i b8 H8 n8 g8 m8 h8 s8
      fail "go"
      refine ⟨H6, p, b8, L, _, rfl, s8, hp6, hOk, m8, h8, fun H9 s9 => ?_⟩
      clear g8 s8 h8 s7 n8
      fail "go"
      refine ⟨true, rfl, ?_⟩
      fail "go"
      refine ⟨_, _, _, rfl, sqL_mono s9 hS6, by omega, ?_⟩
      fail "go"
      refine ⟨by fail "sz", ?_⟩
      fail "newM"
      rename_i b H10 n10 g10 m10 h10 s10
      fail "go"
      refine ⟨by fail "sz", ?_⟩
      fail "newM"
      rename_i l H11 n11 g11 m11 h11 s11
      generalize lawNumber ns (20 + (i : Int)) = N at h10
      have hb11 := g11.g.same _ _ h10
      have hlb : l ≠ b := (ne_of_none h10 n11).symm
      clear g10 g11 h10 s9 s10 n10
      fail "go"
      rename_i H12 g12 h12 s12
      have hl12 := g12.g.hh _ _ (by rw [List.mem_singleton]; exact hlb) h11
      clear g12 h11 hb11 s11 n11
      have N0 : 0 ≤ N % 7 := Int.emod_nonneg _ (by decide)
      have N1 : N % 7 < 7 := Int.emod_lt_of_pos _ (by decide)
      refine g_R1W (n := (N % 7).toNat) (by omega) (by omega) ?_
      refine for_range (lo := 0) (n := (N % 7).toNat) (L7In K a p b l i H6) ⟨_, _, _, _, H6, _, [], [], rfl, Same.refl _, s12, m10, h12, m11, hl12, .nil, Nat.le_refl _⟩ ?_ ?_
      · clear s12 h12 hl12 m10 m11
        rintro j σ H13 hj ⟨x5, x6, x7, x8, R, m, us, ls, rfl, s0R, sR, Rb, hb, Rl, hl, du, lsl⟩
        rw [Int.zero_add]
        have ul : us.length = ls.length := by have := dpAll_len du; simpa using this
        fail "go"
        refine g_R1W (n := 3) rfl (by decide) ?_
        intro D nD
        have RD := sR.free nD
        have DbD : b ≠ D := ne_of_none hb nD
        have DlD : l ≠ D := ne_of_none hl nD
        refine lc_range (lo := 0) (n := 3) (SeatInv R (upd H13 D (.lst [])) b D) ⟨m, [], ⟨Gr.refl (Gr.newM (M := []) sR nD).rh⟩, by rw [upd_ne DbD]; exact hb, upd_same, Nat.le_refl _⟩ ?_ ?_
        · clear sR
          rintro y H2 hj ⟨m, us, g2, h2, hD, ul⟩
          have s2 := g2.g.rh
          generalize upd H13 D (.lst []) = H0 at g2 ⊢
          refine ⟨rfl, ?_⟩
          fail "go"
          rename_i H3 g3 h3 s3
          have h3D : H3 D = some (.lst (us.map V.int)) := g3.g.hh _ _ (by rw [List.mem_singleton]; exact Ne.symm DbD) hD
          have gX : Mu [b, D] R H0 H3 := ⟨g2.g.trans (g3.g.mono (by simp))⟩
          refine g_ite (fun e => ?_) (fun e => ?_)
          · fail "go"
            refine ⟨_, h3D, by rw [List.length_map]; fail "sz", _, us ++ [0 + (y : Int)], ⟨Gr.app gX.g RD h3D (by simp)⟩, by rw [upd_ne DbD]; exact h3, by rw [upd_same, List.map_append]; rfl, by rw [List.length_append, List.length_singleton]; omega⟩
          · exact ⟨_, us, gX, h3, h3D, by omega⟩
        rintro H14 ⟨m14, us14, g14, h14, hD14, ul14⟩
        have gF : Mu [b] R H13 H14 := ⟨(show Gr [b, D] R H13 R H14 from ((Gr.newM (M := []) sR nD).nil).trans g14.g).forget (by intro x hx hn; simp at hx hn; rcases hx with rfl | rfl; exact absurd rfl hn; exact nD)⟩
        have hl14 := gF.g.hh _ _ (by rw [List.mem_singleton]; exact hlb) hl
        have s14 := gF.g.rh
        clear g14 gF sR hb hl nD RD DbD DlD
        fail "go"
        refine g_tupL (SqL.of hD14) ?_
        fail "newR"
        rename_i p15 H15 R15 n15 g15 h15 s15
        have hb15 := g15.same _ _ h14
        have hl15 := g15.same _ _ hl14
        have R15b : R15 b = none := g15.fr _ _ h14 Rb
        have R15l : R15 l = none := g15.fr _ _ hl14 Rl
        have s0R15 := s0R.trans g15.rr
        have du15 := dpAll_mono g15.rr du
        clear g15 h14 hl14 Rb Rl s14 s0R du hD14
        fail "go"
        rename_i H16 g16 h16 s16
        have hl16 := g16.g.hh _ _ (by rw [List.mem_singleton]; exact hlb) hl15
        clear g16 hb15 hl15 s15
        refine ⟨by fail "sz", ?_⟩
        fail "newR"
        rename_i p17 H17 R17 n17 g17 h17 s17
        fail "go"
        refine ⟨by fail "sz", ?_⟩
        fail "newR"
        rename_i p18 H18 R18 n18 g18 h18 s18
        have gA := g17.trans g18
        have hb18 := gA.same _ _ h16
        have hl18 := gA.same _ _ hl16
        have R18b : R18 b = none := gA.fr _ _ h16 R15b
        have R18l : R18 l = none := gA.fr _ _ hl16 R15l
        have s0R18 := s0R15.trans gA.rr
        have du18 := dpAll_mono gA.rr du15
        have ml : Dp K R18 (.ref p18) (Lb.d ⟨1 + m14 % 3, us14, us14, [(j : Int)]⟩) := mkLb (SqT.of h18) (SqT.of (gA.rr _ _ h15)) (SqT.of (gA.rr _ _ h15)) (SqT.of (g18.rr _ _ h17))
        clear g17 g18 gA h16 hl16 R15b R15l s0R15 du15 s16 s17 h17 h18 h15
        fail "go"
        refine ⟨by fail "sz", ?_⟩
        fail "newM"
        rename_i p19 H19 n19 g19 m19 h19 s19
        have hb19 := g19.g.same _ _ hb18
        have hl19 := g19.g.same _ _ hl18
        have pb : p19 ≠ b := (ne_of_none hb18 n19).symm
        clear g19 hb18 hl18 s18 n19
        fail "go"
        rename_i H20 g20 h20 s20
        have hl20 := g20.g.hh _ _ (by rw [List.mem_singleton]; exact hlb) hl19
        have h19' := g20.g.hh _ _ (by rw [List.mem_singleton]; exact pb) h19
        clear g20 hb19 hl19 s19 h19
        refine g_ixL (SqL.of h19') (pick2V _) ?_
        have dv : Dp K R18 (if decide (m14 / 3 % 4 = 0) = true then V.non else V.ref p18) (lbD (if decide (m14 / 3 % 4 = 0) = true then none else some ⟨1 + m14 % 3, us14, us14, [(j : Int)]⟩)) := by
          split
          · exact .non
          · exact ml
        generalize (if decide (m14 / 3 % 4 = 0) = true then V.non else V.ref p18) = v at dv ⊢
        generalize (if decide (m14 / 3 % 4 = 0) = true then none else some (Lb.mk (1 + m14 % 3) us14 us14 [(j : Int)])) = lb at dv
        fail "go"
        rename_i H21 g21 h21 s21
        refine ⟨_, _, _, _, R18, _, us ++ [v], ls ++ [lb], rfl, s0R18, s21, R18b, g21.g.hh _ _ (by rw [List.mem_singleton]; exact hlb.symm) h20, R18l, h21, ?_, by rw [List.length_append, List.length_singleton]; omega⟩
        rw [List.map_append]
        exact dpAll_app du18 (.cons dv .nil)
      · clear s12 h12 hl12 m10 m11
        rintro σ H13 ⟨x5, x6, x7, x8, R, m, us, ls, rfl, s0R, sR, Rb, hb, Rl, hl, du, lsl⟩
        fail "go"
        refine g_listL (SqL.of hl) ?_
        fail "newM"
        rename_i q H14 n14 g14 m14 h14 s14
        have hl14 := g14.g.same _ _ hl
        have du14 := dpAll_mono s14 du
        fail "go"
        refine ⟨q, us, ls, rfl, SqL.of h14, du14, fun v dv => ?_⟩
        fail "go"
        refine ⟨l, us, ls, rfl, SqL.of hl14, du14, fun w dw => ?_⟩
        refine g_neDa dv dw (la_shaped (la_lbD _)) (la_shaped (la_lbD _)) (by rcases lbV dv with ⟨_, e⟩ | ⟨_, t, _, e⟩; exact .inr e; exact .inl ⟨t, e⟩) ?_
        rw [eqv_same (clean_lbD _)]
        fail "go"
        refine g_neDa (.lst (SqL.of h14) du14) (.lst (SqL.of hl14) du14) (la_shaped (la_lbs ls)) (la_shaped (la_lbs ls)) (.inl ⟨_, rfl⟩) ?_
        rw [eqv_same (by rw [clean]; exact clean_lbs ls)]
        fail "go"
        exact ⟨_, _, _, _, _, _, _, rfl, s0R.trans s14⟩
    · rintro σ H7 ⟨x2, x3, x4, x5, x6, x7, x8, rfl, s7⟩
      fail "go"
      exact hq _
end
theorem all_mk {l : PySem.W.OpenLaw} {w : World} {K : PySem.W.Frag} {h : Heap} {mg : Str → Option Value} {fa C_Layout f__law_take f_parts_of f_Layout___init__ f__law_layout f__law_number f_is_newer f_newest_label f__law_label f_bits_of_seats f_number_octets f_label_block f__law_label_block f__law_changed f_seats_of_bits f_number_of f_label_of f__law_due f__law_blocks_hold f__law_newest f_law : Addr} {t_MOST_SEGMENTS t_LEAST_SEGMENTS t_MOST_BLOCKS t_LEAST_BLOCKS t_HEAD_OCTETS t_SLOTS t_SEATS t_FORK_OCTETS t_DATA t_MEMBERS_AT t_COUNT_AT t_MOST_FORKS t_FORKS_AT t_LABELS : Tok} (X : K.In h) (G : h.Ns mainGlobals mg) (hfa : mg "law" = some (.ref fa))
    {od0 an0 : Option Addr} {sl0 : Array (Option Value)} {oc0 kV0 dc0 pm0 cd0 ct0 : Value}
    {od1 an1 : Option Addr} {sl1 : Array (Option Value)} {oc1 kV1 dc1 pm1 cd1 ct1 : Value}
    {od2 an2 : Option Addr} {sl2 : Array (Option Value)} {oc2 kV2 dc2 pm2 cd2 ct2 : Value}
    {od3 an3 : Option Addr} {sl3 : Array (Option Value)} {oc3 kV3 dc3 pm3 cd3 ct3 : Value}
    {od4 an4 : Option Addr} {sl4 : Array (Option Value)} {oc4 kV4 dc4 pm4 cd4 ct4 : Value}
    {od5 an5 : Option Addr} {sl5 : Array (Option Value)} {oc5 kV5 dc5 pm5 cd5 ct5 : Value}
    {od6 an6 : Option Addr} {sl6 : Array (Option Value)} {oc6 kV6 dc6 pm6 cd6 ct6 : Value}
    {od7 an7 : Option Addr} {sl7 : Array (Option Value)} {oc7 kV7 dc7 pm7 cd7 ct7 : Value}
    {od8 an8 : Option Addr} {sl8 : Array (Option Value)} {oc8 kV8 dc8 pm8 cd8 ct8 : Value}
    {od9 an9 : Option Addr} {sl9 : Array (Option Value)} {oc9 kV9 dc9 pm9 cd9 ct9 : Value}
    {od10 an10 : Option Addr} {sl10 : Array (Option Value)} {oc10 kV10 dc10 pm10 cd10 ct10 : Value}
    {od11 an11 : Option Addr} {sl11 : Array (Option Value)} {oc11 kV11 dc11 pm11 cd11 ct11 : Value}
    {od12 an12 : Option Addr} {sl12 : Array (Option Value)} {oc12 kV12 dc12 pm12 cd12 ct12 : Value}
    {od13 an13 : Option Addr} {sl13 : Array (Option Value)} {oc13 kV13 dc13 pm13 cd13 ct13 : Value}
    {od14 an14 : Option Addr} {sl14 : Array (Option Value)} {oc14 kV14 dc14 pm14 cd14 ct14 : Value}
    {od15 an15 : Option Addr} {sl15 : Array (Option Value)} {oc15 kV15 dc15 pm15 cd15 ct15 : Value}
    {od16 an16 : Option Addr} {sl16 : Array (Option Value)} {oc16 kV16 dc16 pm16 cd16 ct16 : Value}
    {od17 an17 : Option Addr} {sl17 : Array (Option Value)} {oc17 kV17 dc17 pm17 cd17 ct17 : Value}
    {od18 an18 : Option Addr} {sl18 : Array (Option Value)} {oc18 kV18 dc18 pm18 cd18 ct18 : Value}
    {od19 an19 : Option Addr} {sl19 : Array (Option Value)} {oc19 kV19 dc19 pm19 cd19 ct19 : Value}
    {c_LETTERS : Addr} {od_LETTERS : Option Addr} {n_LETTERS : Nat} {sl_LETTERS : Array (Option Value)} {t_LETTERS_0 t_LETTERS_1 t_LETTERS_2 t_LETTERS_3 : Tok}
    (a0 : PySem.W.nsIn K mainGlobals "_law_take" = some (some (.ref f__law_take)))
    (l0 : K.lookup f__law_take = some ⟨oc0, od0, .func (PySem.W.fnOf "_law_take" "_law_take" (defArgs s__law_take) (defBody s__law_take) (defScope s__law_take) .none kV0 dc0 pm0 an0 cd0 ct0), sl0⟩)
    (c0 : PySem.W.codeIn K cd0 "_law_take" = true)
    (k0 : PySem.W.keepIn K (.ref f__law_take) = true)
    (a1 : PySem.W.nsIn K mainGlobals "parts_of" = some (some (.ref f_parts_of)))
    (l1 : K.lookup f_parts_of = some ⟨oc1, od1, .func (PySem.W.fnOf "parts_of" "parts_of" (defArgs s_parts_of) (defBody s_parts_of) (defScope s_parts_of) .none kV1 dc1 pm1 an1 cd1 ct1), sl1⟩)
    (c1 : PySem.W.codeIn K cd1 "parts_of" = true)
    (k1 : PySem.W.keepIn K (.ref f_parts_of) = true)
    (a2 : PySem.W.findIn K (.ref C_Layout) "__init__" = some (some (.ref f_Layout___init__)))
    (i2 : PySem.W.isFn K (.ref f_Layout___init__) = true)
    (l2 : K.lookup f_Layout___init__ = some ⟨oc2, od2, .func (PySem.W.fnOf "__init__" "Layout.__init__" (defArgs s_Layout___init__) (defBody s_Layout___init__) (defScope s_Layout___init__) .none kV2 dc2 pm2 an2 cd2 ct2), sl2⟩)
    (c2 : PySem.W.codeIn K cd2 "Layout.__init__" = true)
    (k2 : PySem.W.keepIn K (.ref f_Layout___init__) = true)
    (a3 : PySem.W.nsIn K mainGlobals "_law_layout" = some (some (.ref f__law_layout)))
    (l3 : K.lookup f__law_layout = some ⟨oc3, od3, .func (PySem.W.fnOf "_law_layout" "_law_layout" (defArgs s__law_layout) (defBody s__law_layout) (defScope s__law_layout) .none kV3 dc3 pm3 an3 cd3 ct3), sl3⟩)
    (c3 : PySem.W.codeIn K cd3 "_law_layout" = true)
    (k3 : PySem.W.keepIn K (.ref f__law_layout) = true)
    (a4 : PySem.W.nsIn K mainGlobals "_law_number" = some (some (.ref f__law_number)))
    (l4 : K.lookup f__law_number = some ⟨oc4, od4, .func (PySem.W.fnOf "_law_number" "_law_number" (defArgs s__law_number) (defBody s__law_number) (defScope s__law_number) .none kV4 dc4 pm4 an4 cd4 ct4), sl4⟩)
    (c4 : PySem.W.codeIn K cd4 "_law_number" = true)
    (k4 : PySem.W.keepIn K (.ref f__law_number) = true)
    (a5 : PySem.W.nsIn K mainGlobals "is_newer" = some (some (.ref f_is_newer)))
    (l5 : K.lookup f_is_newer = some ⟨oc5, od5, .func (PySem.W.fnOf "is_newer" "is_newer" (defArgs s_is_newer) (defBody s_is_newer) (defScope s_is_newer) .none kV5 dc5 pm5 an5 cd5 ct5), sl5⟩)
    (c5 : PySem.W.codeIn K cd5 "is_newer" = true)
    (k5 : PySem.W.keepIn K (.ref f_is_newer) = true)
    (a6 : PySem.W.nsIn K mainGlobals "newest_label" = some (some (.ref f_newest_label)))
    (l6 : K.lookup f_newest_label = some ⟨oc6, od6, .func (PySem.W.fnOf "newest_label" "newest_label" (defArgs s_newest_label) (defBody s_newest_label) (defScope s_newest_label) .none kV6 dc6 pm6 an6 cd6 ct6), sl6⟩)
    (c6 : PySem.W.codeIn K cd6 "newest_label" = true)
    (k6 : PySem.W.keepIn K (.ref f_newest_label) = true)
    (a7 : PySem.W.nsIn K mainGlobals "_law_label" = some (some (.ref f__law_label)))
    (l7 : K.lookup f__law_label = some ⟨oc7, od7, .func (PySem.W.fnOf "_law_label" "_law_label" (defArgs s__law_label) (defBody s__law_label) (defScope s__law_label) .none kV7 dc7 pm7 an7 cd7 ct7), sl7⟩)
    (c7 : PySem.W.codeIn K cd7 "_law_label" = true)
    (k7 : PySem.W.keepIn K (.ref f__law_label) = true)
    (a8 : PySem.W.nsIn K mainGlobals "bits_of_seats" = some (some (.ref f_bits_of_seats)))
    (l8 : K.lookup f_bits_of_seats = some ⟨oc8, od8, .func (PySem.W.fnOf "bits_of_seats" "bits_of_seats" (defArgs s_bits_of_seats) (defBody s_bits_of_seats) (defScope s_bits_of_seats) .none kV8 dc8 pm8 an8 cd8 ct8), sl8⟩)
    (c8 : PySem.W.codeIn K cd8 "bits_of_seats" = true)
    (k8 : PySem.W.keepIn K (.ref f_bits_of_seats) = true)
    (a9 : PySem.W.nsIn K mainGlobals "number_octets" = some (some (.ref f_number_octets)))
    (l9 : K.lookup f_number_octets = some ⟨oc9, od9, .func (PySem.W.fnOf "number_octets" "number_octets" (defArgs s_number_octets) (defBody s_number_octets) (defScope s_number_octets) .none kV9 dc9 pm9 an9 cd9 ct9), sl9⟩)
    (c9 : PySem.W.codeIn K cd9 "number_octets" = true)
    (k9 : PySem.W.keepIn K (.ref f_number_octets) = true)
    (a10 : PySem.W.nsIn K mainGlobals "label_block" = some (some (.ref f_label_block)))
    (l10 : K.lookup f_label_block = some ⟨oc10, od10, .func (PySem.W.fnOf "label_block" "label_block" (defArgs s_label_block) (defBody s_label_block) (defScope s_label_block) .none kV10 dc10 pm10 an10 cd10 ct10), sl10⟩)
    (c10 : PySem.W.codeIn K cd10 "label_block" = true)
    (k10 : PySem.W.keepIn K (.ref f_label_block) = true)
    (a11 : PySem.W.nsIn K mainGlobals "_law_label_block" = some (some (.ref f__law_label_block)))
    (l11 : K.lookup f__law_label_block = some ⟨oc11, od11, .func (PySem.W.fnOf "_law_label_block" "_law_label_block" (defArgs s__law_label_block) (defBody s__law_label_block) (defScope s__law_label_block) .none kV11 dc11 pm11 an11 cd11 ct11), sl11⟩)
    (c11 : PySem.W.codeIn K cd11 "_law_label_block" = true)
    (k11 : PySem.W.keepIn K (.ref f__law_label_block) = true)
    (a12 : PySem.W.nsIn K mainGlobals "_law_changed" = some (some (.ref f__law_changed)))
    (l12 : K.lookup f__law_changed = some ⟨oc12, od12, .func (PySem.W.fnOf "_law_changed" "_law_changed" (defArgs s__law_changed) (defBody s__law_changed) (defScope s__law_changed) .none kV12 dc12 pm12 an12 cd12 ct12), sl12⟩)
    (c12 : PySem.W.codeIn K cd12 "_law_changed" = true)
    (k12 : PySem.W.keepIn K (.ref f__law_changed) = true)
    (a13 : PySem.W.nsIn K mainGlobals "seats_of_bits" = some (some (.ref f_seats_of_bits)))
    (l13 : K.lookup f_seats_of_bits = some ⟨oc13, od13, .func (PySem.W.fnOf "seats_of_bits" "seats_of_bits" (defArgs s_seats_of_bits) (defBody s_seats_of_bits) (defScope s_seats_of_bits) .none kV13 dc13 pm13 an13 cd13 ct13), sl13⟩)
    (c13 : PySem.W.codeIn K cd13 "seats_of_bits" = true)
    (k13 : PySem.W.keepIn K (.ref f_seats_of_bits) = true)
    (a14 : PySem.W.nsIn K mainGlobals "number_of" = some (some (.ref f_number_of)))
    (l14 : K.lookup f_number_of = some ⟨oc14, od14, .func (PySem.W.fnOf "number_of" "number_of" (defArgs s_number_of) (defBody s_number_of) (defScope s_number_of) .none kV14 dc14 pm14 an14 cd14 ct14), sl14⟩)
    (c14 : PySem.W.codeIn K cd14 "number_of" = true)
    (k14 : PySem.W.keepIn K (.ref f_number_of) = true)
    (a15 : PySem.W.nsIn K mainGlobals "label_of" = some (some (.ref f_label_of)))
    (l15 : K.lookup f_label_of = some ⟨oc15, od15, .func (PySem.W.fnOf "label_of" "label_of" (defArgs s_label_of) (defBody s_label_of) (defScope s_label_of) .none kV15 dc15 pm15 an15 cd15 ct15), sl15⟩)
    (c15 : PySem.W.codeIn K cd15 "label_of" = true)
    (k15 : PySem.W.keepIn K (.ref f_label_of) = true)
    (a16 : PySem.W.nsIn K mainGlobals "_law_due" = some (some (.ref f__law_due)))
    (l16 : K.lookup f__law_due = some ⟨oc16, od16, .func (PySem.W.fnOf "_law_due" "_law_due" (defArgs s__law_due) (defBody s__law_due) (defScope s__law_due) .none kV16 dc16 pm16 an16 cd16 ct16), sl16⟩)
    (c16 : PySem.W.codeIn K cd16 "_law_due" = true)
    (k16 : PySem.W.keepIn K (.ref f__law_due) = true)
    (a17 : PySem.W.nsIn K mainGlobals "_law_blocks_hold" = some (some (.ref f__law_blocks_hold)))
    (l17 : K.lookup f__law_blocks_hold = some ⟨oc17, od17, .func (PySem.W.fnOf "_law_blocks_hold" "_law_blocks_hold" (defArgs s__law_blocks_hold) (defBody s__law_blocks_hold) (defScope s__law_blocks_hold) .none kV17 dc17 pm17 an17 cd17 ct17), sl17⟩)
    (c17 : PySem.W.codeIn K cd17 "_law_blocks_hold" = true)
    (k17 : PySem.W.keepIn K (.ref f__law_blocks_hold) = true)
    (a18 : PySem.W.nsIn K mainGlobals "_law_newest" = some (some (.ref f__law_newest)))
    (l18 : K.lookup f__law_newest = some ⟨oc18, od18, .func (PySem.W.fnOf "_law_newest" "_law_newest" (defArgs s__law_newest) (defBody s__law_newest) (defScope s__law_newest) .none kV18 dc18 pm18 an18 cd18 ct18), sl18⟩)
    (c18 : PySem.W.codeIn K cd18 "_law_newest" = true)
    (k18 : PySem.W.keepIn K (.ref f__law_newest) = true)
    (a19 : PySem.W.nsIn K mainGlobals "law" = some (some (.ref f_law)))
    (l19 : K.lookup f_law = some ⟨oc19, od19, .func (PySem.W.fnOf "law" "law" (defArgs s_law) (defBody s_law) (defScope s_law) .none kV19 dc19 pm19 an19 cd19 ct19), sl19⟩)
    (c19 : PySem.W.codeIn K cd19 "law" = true)
    (k19 : PySem.W.keepIn K (.ref f_law) = true)
    (x_Layout : PySem.W.nsIn K mainGlobals "Layout" = some (some (.ref C_Layout)))
    (pg_Layout : PySem.W.plainGet K C_Layout Str.empty = true)
    (hd_Layout : PySem.W.hasDictIn K C_Layout = true)
    (po_Layout : PySem.W.plainOver K C_Layout = true)
    (sa_Layout : PySem.W.findIn K (.ref C_Layout) "__setattr__" = some (some (.builtin "object.__setattr__")))
    (mk_Layout : PySem.W.makesIn K C_Layout = true)
    (kc_Layout : PySem.W.keepIn K (.ref C_Layout) = true)
    (at_Layout_segments : PySem.W.findIn K (.ref C_Layout) "segments" = some none)
    (at_Layout_segment_blocks : PySem.W.findIn K (.ref C_Layout) "segment_blocks" = some none)
    (at_Layout_block_size : PySem.W.findIn K (.ref C_Layout) "block_size" = some none)
    (at_Layout_payload : PySem.W.findIn K (.ref C_Layout) "payload" = some none)
    (at_Layout_limit : PySem.W.findIn K (.ref C_Layout) "limit" = some none)
    (at_Layout_last_id : PySem.W.findIn K (.ref C_Layout) "last_id" = some none)
    (at_Layout_fan : PySem.W.findIn K (.ref C_Layout) "fan" = some none)
    (at_Layout_region_blocks : PySem.W.findIn K (.ref C_Layout) "region_blocks" = some none)
    (at_Layout_device_blocks : PySem.W.findIn K (.ref C_Layout) "device_blocks" = some none)
    (z_int : PySem.W.nsIn K mainGlobals "int" = some none)
    (z_len : PySem.W.nsIn K mainGlobals "len" = some none)
    (z_tuple : PySem.W.nsIn K mainGlobals "tuple" = some none)
    (z_range : PySem.W.nsIn K mainGlobals "range" = some none)
    (z_list : PySem.W.nsIn K mainGlobals "list" = some none)
    (z_reversed : PySem.W.nsIn K mainGlobals "reversed" = some none)
    (z_max : PySem.W.nsIn K mainGlobals "max" = some none)
    (z_isinstance : PySem.W.nsIn K mainGlobals "isinstance" = some none)
    (g_MOST_SEGMENTS : PySem.W.nsIn K mainGlobals "MOST_SEGMENTS" = some (some (.int 16 t_MOST_SEGMENTS)))
    (g_LEAST_SEGMENTS : PySem.W.nsIn K mainGlobals "LEAST_SEGMENTS" = some (some (.int 4 t_LEAST_SEGMENTS)))
    (g_MOST_BLOCKS : PySem.W.nsIn K mainGlobals "MOST_BLOCKS" = some (some (.int 32 t_MOST_BLOCKS)))
    (g_LEAST_BLOCKS : PySem.W.nsIn K mainGlobals "LEAST_BLOCKS" = some (some (.int 16 t_LEAST_BLOCKS)))
    (g_HEAD_OCTETS : PySem.W.nsIn K mainGlobals "HEAD_OCTETS" = some (some (.int 16 t_HEAD_OCTETS)))
    (g_SLOTS : PySem.W.nsIn K mainGlobals "SLOTS" = some (some (.int 3 t_SLOTS)))
    (g_SEATS : PySem.W.nsIn K mainGlobals "SEATS" = some (some (.int 3 t_SEATS)))
    (g_LETTERS : PySem.W.nsIn K mainGlobals "LETTERS" = some (some (.ref c_LETTERS)))
    (k_LETTERS : K.lookup c_LETTERS = some ⟨.type "tuple", od_LETTERS, .seq #[.int 83 t_LETTERS_0, .int 73 t_LETTERS_1, .int 68 t_LETTERS_2, .int 69 t_LETTERS_3] n_LETTERS, sl_LETTERS⟩)
    (g_FORK_OCTETS : PySem.W.nsIn K mainGlobals "FORK_OCTETS" = some (some (.int 3 t_FORK_OCTETS)))
    (g_DATA : PySem.W.nsIn K mainGlobals "DATA" = some (some (.int 3 t_DATA)))
    (g_MEMBERS_AT : PySem.W.nsIn K mainGlobals "MEMBERS_AT" = some (some (.int 6 t_MEMBERS_AT)))
    (g_COUNT_AT : PySem.W.nsIn K mainGlobals "COUNT_AT" = some (some (.int 12 t_COUNT_AT)))
    (g_MOST_FORKS : PySem.W.nsIn K mainGlobals "MOST_FORKS" = some (some (.int 16 t_MOST_FORKS)))
    (g_FORKS_AT : PySem.W.nsIn K mainGlobals "FORKS_AT" = some (some (.int 13 t_FORKS_AT)))
    (g_LABELS : PySem.W.nsIn K mainGlobals "LABELS" = some (some (.int 2 t_LABELS)))
    : ∃ fd : FuncData, (∀ (s : Shared) (v : Value), BindsTo s fd ⟨[v], []⟩ [("script", v)]) ∧ ∀ base : Heap, K.In base → base.Ns mainGlobals mg → FnOk l.prog w K mg base CX0 5 fa fd ["script"] (spLaw K) := by
  have e := hfa.symm.trans (PySem.W.mg_of X G a19)
  cases e
  have F__law_take := fun_mk (st := s__law_take) l0 c0 k0
  have b__law_take := F__law_take.binds (ps := ["box", "size"]) fun _ _ _ _ _ _ us hl => match us, hl with | [_, _], _ => rfl
  have F_parts_of := fun_mk (st := s_parts_of) l1 c1 k1
  have b_parts_of := F_parts_of.binds (ps := ["number", "size"]) fun _ _ _ _ _ _ us hl => match us, hl with | [_, _], _ => rfl
  have F_Layout___init__ := fun_mk (st := s_Layout___init__) l2 c2 k2
  have b_Layout___init__ := F_Layout___init__.binds (ps := ["self", "segments", "segment_blocks", "block_size"]) fun _ _ _ _ _ _ us hl => match us, hl with | [_, _, _, _], _ => rfl
  have F__law_layout := fun_mk (st := s__law_layout) l3 c3 k3
  have b__law_layout := F__law_layout.binds (ps := ["box"]) fun _ _ _ _ _ _ us hl => match us, hl with | [_], _ => rfl
  have F__law_number := fun_mk (st := s__law_number) l4 c4 k4
  have b__law_number := F__law_number.binds (ps := ["script", "k"]) fun _ _ _ _ _ _ us hl => match us, hl with | [_, _], _ => rfl
  have F_is_newer := fun_mk (st := s_is_newer) l5 c5 k5
  have b_is_newer := F_is_newer.binds (ps := ["label", "other"]) fun _ _ _ _ _ _ us hl => match us, hl with | [_, _], _ => rfl
  have F_newest_label := fun_mk (st := s_newest_label) l6 c6 k6
  have b_newest_label := F_newest_label.binds (ps := ["labels"]) fun _ _ _ _ _ _ us hl => match us, hl with | [_], _ => rfl
  have F__law_label := fun_mk (st := s__law_label) l7 c7 k7
  have b__law_label := F__law_label.binds (ps := ["box"]) fun _ _ _ _ _ _ us hl => match us, hl with | [_], _ => rfl
  have F_bits_of_seats := fun_mk (st := s_bits_of_seats) l8 c8 k8
  have b_bits_of_seats := F_bits_of_seats.binds (ps := ["seats"]) fun _ _ _ _ _ _ us hl => match us, hl with | [_], _ => rfl
  have F_number_octets := fun_mk (st := s_number_octets) l9 c9 k9
  have b_number_octets := F_number_octets.binds (ps := ["number", "count"]) fun _ _ _ _ _ _ us hl => match us, hl with | [_, _], _ => rfl
  have F_label_block := fun_mk (st := s_label_block) l10 c10 k10
  have b_label_block := F_label_block.binds (ps := ["layout", "seat", "label"]) fun _ _ _ _ _ _ us hl => match us, hl with | [_, _, _], _ => rfl
  have F__law_label_block := fun_mk (st := s__law_label_block) l11 c11 k11
  have b__law_label_block := F__law_label_block.binds (ps := ["layout", "seat", "label"]) fun _ _ _ _ _ _ us hl => match us, hl with | [_, _, _], _ => rfl
  have F__law_changed := fun_mk (st := s__law_changed) l12 c12 k12
  have b__law_changed := F__law_changed.binds (ps := ["layout", "block", "box"]) fun _ _ _ _ _ _ us hl => match us, hl with | [_, _, _], _ => rfl
  have F_seats_of_bits := fun_mk (st := s_seats_of_bits) l13 c13 k13
  have b_seats_of_bits := F_seats_of_bits.binds (ps := ["octets"]) fun _ _ _ _ _ _ us hl => match us, hl with | [_], _ => rfl
  have F_number_of := fun_mk (st := s_number_of) l14 c14 k14
  have b_number_of := F_number_of.binds (ps := ["octets"]) fun _ _ _ _ _ _ us hl => match us, hl with | [_], _ => rfl
  have F_label_of := fun_mk (st := s_label_of) l15 c15 k15
  have b_label_of := F_label_of.binds (ps := ["layout", "seat", "block"]) fun _ _ _ _ _ _ us hl => match us, hl with | [_, _, _], _ => rfl
  have F__law_due := fun_mk (st := s__law_due) l16 c16 k16
  have b__law_due := F__law_due.binds (ps := ["layout", "seat", "block"]) fun _ _ _ _ _ _ us hl => match us, hl with | [_, _, _], _ => rfl
  have F__law_blocks_hold := fun_mk (st := s__law_blocks_hold) l17 c17 k17
  have b__law_blocks_hold := F__law_blocks_hold.binds (ps := ["layout", "box"]) fun _ _ _ _ _ _ us hl => match us, hl with | [_, _], _ => rfl
  have F__law_newest := fun_mk (st := s__law_newest) l18 c18 k18
  have b__law_newest := F__law_newest.binds (ps := ["labels"]) fun _ _ _ _ _ _ us hl => match us, hl with | [_], _ => rfl
  have F_law := fun_mk (st := s_law) l19 c19 k19
  have b_law := F_law.binds (ps := ["script"]) fun _ _ _ _ _ _ us hl => match us, hl with | [_], _ => rfl
  exact ⟨_, fun s v => .of_eq rfl, fun base _ _ => ok_law { C_Layout := C_Layout, f__law_take := f__law_take, fd__law_take := _, F__law_take := F__law_take, b__law_take := b__law_take, g__law_take := PySem.W.mg_of X G a0, f_parts_of := f_parts_of, fd_parts_of := _, F_parts_of := F_parts_of, b_parts_of := b_parts_of, g_parts_of := PySem.W.mg_of X G a1, f_Layout___init__ := f_Layout___init__, fd_Layout___init__ := _, F_Layout___init__ := F_Layout___init__, b_Layout___init__ := b_Layout___init__, mk_Layout := ⟨mk_Layout, a2, i2, kc_Layout⟩, f__law_layout := f__law_layout, fd__law_layout := _, F__law_layout := F__law_layout, b__law_layout := b__law_layout, g__law_layout := PySem.W.mg_of X G a3, f__law_number := f__law_number, fd__law_number := _, F__law_number := F__law_number, b__law_number := b__law_number, g__law_number := PySem.W.mg_of X G a4, f_is_newer := f_is_newer, fd_is_newer := _, F_is_newer := F_is_newer, b_is_newer := b_is_newer, g_is_newer := PySem.W.mg_of X G a5, f_newest_label := f_newest_label, fd_newest_label := _, F_newest_label := F_newest_label, b_newest_label := b_newest_label, g_newest_label := PySem.W.mg_of X G a6, f__law_label := f__law_label, fd__law_label := _, F__law_label := F__law_label, b__law_label := b__law_label, g__law_label := PySem.W.mg_of X G a7, f_bits_of_seats := f_bits_of_seats, fd_bits_of_seats := _, F_bits_of_seats := F_bits_of_seats, b_bits_of_seats := b_bits_of_seats, g_bits_of_seats := PySem.W.mg_of X G a8, f_number_octets := f_number_octets, fd_number_octets := _, F_number_octets := F_number_octets, b_number_octets := b_number_octets, g_number_octets := PySem.W.mg_of X G a9, f_label_block := f_label_block, fd_label_block := _, F_label_block := F_label_block, b_label_block := b_label_block, g_label_block := PySem.W.mg_of X G a10, f__law_label_block := f__law_label_block, fd__law_label_block := _, F__law_label_block := F__law_label_block, b__law_label_block := b__law_label_block, g__law_label_block := PySem.W.mg_of X G a11, f__law_changed := f__law_changed, fd__law_changed := _, F__law_changed := F__law_changed, b__law_changed := b__law_changed, g__law_changed := PySem.W.mg_of X G a12, f_seats_of_bits := f_seats_of_bits, fd_seats_of_bits := _, F_seats_of_bits := F_seats_of_bits, b_seats_of_bits := b_seats_of_bits, g_seats_of_bits := PySem.W.mg_of X G a13, f_number_of := f_number_of, fd_number_of := _, F_number_of := F_number_of, b_number_of := b_number_of, g_number_of := PySem.W.mg_of X G a14, f_label_of := f_label_of, fd_label_of := _, F_label_of := F_label_of, b_label_of := b_label_of, g_label_of := PySem.W.mg_of X G a15, f__law_due := f__law_due, fd__law_due := _, F__law_due := F__law_due, b__law_due := b__law_due, g__law_due := PySem.W.mg_of X G a16, f__law_blocks_hold := f__law_blocks_hold, fd__law_blocks_hold := _, F__law_blocks_hold := F__law_blocks_hold, b__law_blocks_hold := b__law_blocks_hold, g__law_blocks_hold := PySem.W.mg_of X G a17, f__law_newest := f__law_newest, fd__law_newest := _, F__law_newest := F__law_newest, b__law_newest := b__law_newest, g__law_newest := PySem.W.mg_of X G a18, f_law := fa, fd_law := _, F_law := F_law, b_law := b_law, g_law := hfa, cl_Layout := ⟨pg_Layout, hd_Layout, po_Layout, sa_Layout⟩, g_Layout := PySem.W.mg_of X G x_Layout, a_Layout_segments := at_Layout_segments, a_Layout_segment_blocks := at_Layout_segment_blocks, a_Layout_block_size := at_Layout_block_size, a_Layout_payload := at_Layout_payload, a_Layout_limit := at_Layout_limit, a_Layout_last_id := at_Layout_last_id, a_Layout_fan := at_Layout_fan, a_Layout_region_blocks := at_Layout_region_blocks, a_Layout_device_blocks := at_Layout_device_blocks, n_int := PySem.W.mg_none_of X G z_int, n_len := PySem.W.mg_none_of X G z_len, n_tuple := PySem.W.mg_none_of X G z_tuple, n_range := PySem.W.mg_none_of X G z_range, n_list := PySem.W.mg_none_of X G z_list, n_reversed := PySem.W.mg_none_of X G z_reversed, n_max := PySem.W.mg_none_of X G z_max, n_isinstance := PySem.W.mg_none_of X G z_isinstance, u_MOST_SEGMENTS := _, g_MOST_SEGMENTS := PySem.W.mg_of X G g_MOST_SEGMENTS, r_MOST_SEGMENTS := ⟨_, rfl⟩, u_LEAST_SEGMENTS := _, g_LEAST_SEGMENTS := PySem.W.mg_of X G g_LEAST_SEGMENTS, r_LEAST_SEGMENTS := ⟨_, rfl⟩, u_MOST_BLOCKS := _, g_MOST_BLOCKS := PySem.W.mg_of X G g_MOST_BLOCKS, r_MOST_BLOCKS := ⟨_, rfl⟩, u_LEAST_BLOCKS := _, g_LEAST_BLOCKS := PySem.W.mg_of X G g_LEAST_BLOCKS, r_LEAST_BLOCKS := ⟨_, rfl⟩, u_HEAD_OCTETS := _, g_HEAD_OCTETS := PySem.W.mg_of X G g_HEAD_OCTETS, r_HEAD_OCTETS := ⟨_, rfl⟩, u_SLOTS := _, g_SLOTS := PySem.W.mg_of X G g_SLOTS, r_SLOTS := ⟨_, rfl⟩, u_SEATS := _, g_SEATS := PySem.W.mg_of X G g_SEATS, r_SEATS := ⟨_, rfl⟩, c_LETTERS := c_LETTERS, g_LETTERS := PySem.W.mg_of X G g_LETTERS, r_LETTERS := rfl, q_LETTERS := fun _ => .inr ⟨_, _, _, k_LETTERS, rfl, rfl, (show (4 : Nat) ≤ sizeLine by decide), .cons ⟨_, rfl⟩ (.cons ⟨_, rfl⟩ (.cons ⟨_, rfl⟩ (.cons ⟨_, rfl⟩ (.nil))))⟩, u_FORK_OCTETS := _, g_FORK_OCTETS := PySem.W.mg_of X G g_FORK_OCTETS, r_FORK_OCTETS := ⟨_, rfl⟩, u_DATA := _, g_DATA := PySem.W.mg_of X G g_DATA, r_DATA := ⟨_, rfl⟩, u_MEMBERS_AT := _, g_MEMBERS_AT := PySem.W.mg_of X G g_MEMBERS_AT, r_MEMBERS_AT := ⟨_, rfl⟩, u_COUNT_AT := _, g_COUNT_AT := PySem.W.mg_of X G g_COUNT_AT, r_COUNT_AT := ⟨_, rfl⟩, u_MOST_FORKS := _, g_MOST_FORKS := PySem.W.mg_of X G g_MOST_FORKS, r_MOST_FORKS := ⟨_, rfl⟩, u_FORKS_AT := _, g_FORKS_AT := PySem.W.mg_of X G g_FORKS_AT, r_FORKS_AT := ⟨_, rfl⟩, u_LABELS := _, g_LABELS := PySem.W.mg_of X G g_LABELS, r_LABELS := ⟨_, rfl⟩ }⟩
theorem walk {l : PySem.W.OpenLaw} {q : Program} {loose : List Str} {XP : (Str → Option Value) → Heap → Prop} {YP : World → Heap → Prop} {d : DefRec} {K : Params → PySem.W.Frag} (hn : l.most = some 63) (hdf : d.params.defaults = [])
    (hY : ∀ (w : World) (h : Heap), YP w h → (K w.params).In h)
    (F : ∀ (w : World) (mg : Str → Option Value) (fa : Addr) (h : Heap), (K w.params).In h → h.Ns mainGlobals mg → mg d.name = some (.ref fa) →
      ∃ fd : FuncData, (∀ (s : Shared) (u : Value), BindsTo s fd ⟨[u], []⟩ [("script", u)]) ∧ ∀ base : Heap, (K w.params).In base → base.Ns mainGlobals mg → FnOk l.prog w (K w.params) mg base CX0 5 fa fd ["script"] (spLaw (K w.params))) :
    PySem.W.WalkO q loose XP YP l.row.toRowW d [] (fun f vs => PySem.call f vs) :=
  L2.walk_of (n := 63) (k := 5) (x := "script") (CX := fun _ => CX0) (sp := fun w => spLaw (K w.params)) hn (by decide) hdf ⟨rfl, by decide, by decide⟩ hY F (fun _ _ a ns hl _ hS => ⟨a, ns, rfl, hS, hl, fun _ => rfl⟩) fun _ _ _ _ _ z => z
end Sk
open PySem PySem.W PyProof.Rows in
set_option maxRecDepth 100000 in
set_option maxHeartbeats 0 in
theorem PySem.Challenge.cw_sidekeep_k07_labels_tell_members_holds : PySem.Challenge.rw_sidekeep_k07_labels_tell_members.Holds := by
  w_on; o_law; k_head; (case hw => w_witness2)
  k_fill
  refine Sk.walk (l := PySem.Challenge.rw_sidekeep_k07_labels_tell_members) rfl rfl (fun w h Y => PySem.W.kIn_of Y) ?F
  case F =>
    intro w mg fa h KX G hmg
    refine' Sk.all_mk KX G hmg ?a0 ?l0 ?c0 ?k0 ?a1 ?l1 ?c1 ?k1 ?a2 ?i2 ?l2 ?c2 ?k2 ?a3 ?l3 ?c3 ?k3 ?a4 ?l4 ?c4 ?k4 ?a5 ?l5 ?c5 ?k5 ?a6 ?l6 ?c6 ?k6 ?a7 ?l7 ?c7 ?k7 ?a8 ?l8 ?c8 ?k8 ?a9 ?l9 ?c9 ?k9 ?a10 ?l10 ?c10 ?k10 ?a11 ?l11 ?c11 ?k11 ?a12 ?l12 ?c12 ?k12 ?a13 ?l13 ?c13 ?k13 ?a14 ?l14 ?c14 ?k14 ?a15 ?l15 ?c15 ?k15 ?a16 ?l16 ?c16 ?k16 ?a17 ?l17 ?c17 ?k17 ?a18 ?l18 ?c18 ?k18 ?a19 ?l19 ?c19 ?k19 ?x_Layout ?pg_Layout ?hd_Layout ?po_Layout ?sa_Layout ?mk_Layout ?kc_Layout ?at_Layout_segments ?at_Layout_segment_blocks ?at_Layout_block_size ?at_Layout_payload ?at_Layout_limit ?at_Layout_last_id ?at_Layout_fan ?at_Layout_region_blocks ?at_Layout_device_blocks ?z_int ?z_len ?z_tuple ?z_range ?z_list ?z_reversed ?z_max ?z_isinstance ?g_MOST_SEGMENTS ?g_LEAST_SEGMENTS ?g_MOST_BLOCKS ?g_LEAST_BLOCKS ?g_HEAD_OCTETS ?g_SLOTS ?g_SEATS ?g_LETTERS ?k_LETTERS ?g_FORK_OCTETS ?g_DATA ?g_MEMBERS_AT ?g_COUNT_AT ?g_MOST_FORKS ?g_FORKS_AT ?g_LABELS
    (case x_Layout => k_is)
    (case a0 => k_is)
    (case l0 => k_is)
    (case c0 => k_is)
    (case k0 => k_is)
    (case a1 => k_is)
    (case l1 => k_is)
    (case c1 => k_is)
    (case k1 => k_is)
    (case a2 => k_is)
    (case i2 => k_is)
    (case l2 => k_is)
    (case c2 => k_is)
    (case k2 => k_is)
    (case a3 => k_is)
    (case l3 => k_is)
    (case c3 => k_is)
    (case k3 => k_is)
    (case a4 => k_is)
    (case l4 => k_is)
    (case c4 => k_is)
    (case k4 => k_is)
    (case a5 => k_is)
    (case l5 => k_is)
    (case c5 => k_is)
    (case k5 => k_is)
    (case a6 => k_is)
    (case l6 => k_is)
    (case c6 => k_is)
    (case k6 => k_is)
    (case a7 => k_is)
    (case l7 => k_is)
    (case c7 => k_is)
    (case k7 => k_is)
    (case a8 => k_is)
    (case l8 => k_is)
    (case c8 => k_is)
    (case k8 => k_is)
    (case a9 => k_is)
    (case l9 => k_is)
    (case c9 => k_is)
    (case k9 => k_is)
    (case a10 => k_is)
    (case l10 => k_is)
    (case c10 => k_is)
    (case k10 => k_is)
    (case a11 => k_is)
    (case l11 => k_is)
    (case c11 => k_is)
    (case k11 => k_is)
    (case a12 => k_is)
    (case l12 => k_is)
    (case c12 => k_is)
    (case k12 => k_is)
    (case a13 => k_is)
    (case l13 => k_is)
    (case c13 => k_is)
    (case k13 => k_is)
    (case a14 => k_is)
    (case l14 => k_is)
    (case c14 => k_is)
    (case k14 => k_is)
    (case a15 => k_is)
    (case l15 => k_is)
    (case c15 => k_is)
    (case k15 => k_is)
    (case a16 => k_is)
    (case l16 => k_is)
    (case c16 => k_is)
    (case k16 => k_is)
    (case a17 => k_is)
    (case l17 => k_is)
    (case c17 => k_is)
    (case k17 => k_is)
    (case a18 => k_is)
    (case l18 => k_is)
    (case c18 => k_is)
    (case k18 => k_is)
    (case a19 => k_is)
    (case l19 => k_is)
    (case c19 => k_is)
    (case k19 => k_is)
    (case pg_Layout => k_is)
    (case hd_Layout => k_is)
    (case po_Layout => k_is)
    (case sa_Layout => k_is)
    (case mk_Layout => k_is)
    (case kc_Layout => k_is)
    (case at_Layout_segments => k_is)
    (case at_Layout_segment_blocks => k_is)
    (case at_Layout_block_size => k_is)
    (case at_Layout_payload => k_is)
    (case at_Layout_limit => k_is)
    (case at_Layout_last_id => k_is)
    (case at_Layout_fan => k_is)
    (case at_Layout_region_blocks => k_is)
    (case at_Layout_device_blocks => k_is)
    (case z_int => k_is)
    (case z_len => k_is)
    (case z_tuple => k_is)
    (case z_range => k_is)
    (case z_list => k_is)
    (case z_reversed => k_is)
    (case z_max => k_is)
    (case z_isinstance => k_is)
    (case g_MOST_SEGMENTS => k_is)
    (case g_LEAST_SEGMENTS => k_is)
    (case g_MOST_BLOCKS => k_is)
    (case g_LEAST_BLOCKS => k_is)
    (case g_HEAD_OCTETS => k_is)
    (case g_SLOTS => k_is)
    (case g_SEATS => k_is)
    (case g_LETTERS => k_is)
    (case k_LETTERS => k_is)
    (case g_FORK_OCTETS => k_is)
    (case g_DATA => k_is)
    (case g_MEMBERS_AT => k_is)
    (case g_COUNT_AT => k_is)
    (case g_MOST_FORKS => k_is)
    (case g_FORKS_AT => k_is)
    (case g_LABELS => k_is)
#print axioms PySem.Challenge.cw_sidekeep_k07_labels_tell_members_holds
