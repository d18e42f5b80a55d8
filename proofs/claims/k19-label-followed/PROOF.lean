import PyProof.Rows.All
import Wide.All
import OpenK.AllK
import Wide.FinOn
import HandS.ForMost
import HandS.Deep
import HandS.Style
import HandS.IsInst
import HandS.Rev
import HandS.Wide
import HandS.Walk
import HandS.TryOnly
import HandS.TupMul
import HandS.Defaults
import HandS.Dict
import HandS.DictComp
import HandS.ListItems
import HandS.More
import KE.KDictList
import HandS.ExcInit
import HandS.NestedK
import HandS.ExcField
import HandS.ExcInitHot
import HandS.SuiteRaise
import HandS.ExcIs
import HandS.WordsExc
import HandS.ExcOwn
import KE.KExcSuper
import KE.RegKIsAll
import HandS.TupAny
import HandS.MakeKwOnly
import KE.KStateDown
import Lean
import HandS.Base
import HandS.Call
import HandS.Ends
import HandS.More
import HandS.Words
import HandS.WordsExc
import HandS.Defaults
import HandS.Head0
import HandS.Head1
import HandS.Head2
import HandS.HeadEnd
import HandS.HeadHook1
import HandS.HeadHook2
import HandS.HeadHook3
import HandS.HeadHook4
import PySem.Challenge.RW_sidekeep_k19_the_label_that_is_followed
set_option Elab.async false
set_option maxRecDepth 100000
set_option maxHeartbeats 4000000
set_option linter.all false

namespace SkS
open PySem PySem.Spec PyProof.Rows L2 He
/-! ### the head's look at an own exception class with __init__ -/
abbrev SupV : Type := Option (Str × Str × Arguments × FuncBody × Scope × Addr × List Str × Value × Addr)
def supAt (c : Str) : Str × Option Str := (c, some "__init__")
def supW (K : PySem.W.Frag) (c : Str) : SupV := match K.lookup (fAd K (supAt c)) with
  | some ⟨_, _, .func fd, _⟩ => some (fd.name, fd.qualname, fd.params, fd.body, fd.scope, fd.globals, fd.closure.map (·.1), fd.defaults, fd.builtins)
  | _ => none
def cellOf (K : PySem.W.Frag) (c : Str) : Addr := match K.lookup (fAd K (supAt c)) with
  | some ⟨_, _, .func fd, _⟩ => (match fd.closure with
    | [(_, a)] => a
    | _ => 0)
  | _ => 0
def clB (K : PySem.W.Frag) (C : Addr) : Bool := match K.lookup C with
  | some ⟨.type t, _, .cls cd, sl⟩ => decide (t = "type") && (match cd.mro, sl.toList with
    | .ref C' :: bm, [_, _, _, _, some (.builtin n), _] => decide (C' = C) && (decide (n = "ValueError.__new__") && (!cd.hasDel && (cd.hasDict && PySem.HandSPX.refsVE bm)))
    | _, _ => false)
  | _ => false
def oexB (K : PySem.W.Frag) (C : Addr) : Bool := clB K C && (eqO (PySem.W.findIn K (.ref C) "__setattr__") (some (some (.builtin "object.__setattr__"))) && (decide (PySem.W.subIn K (.ref C) (.type "BaseException") = some true) && (decide (PySem.W.typeIn K (.ref C) = some (.type "type")) && PySem.W.keepIn K (.ref C))))
theorem clB_ok {K : PySem.W.Frag} {C : Addr} (h : clB K C = true) : ∃ nm q N bs bm sn sub ab col dd k0 k1 k2 k3 k5, K.lookup C = some (excClassObj nm q C N bs bm true sn sub ab col dd k0 k1 k2 k3 k5 "ValueError.__new__") ∧ PySem.HandSPX.refsVE bm = true := by
  unfold clB at h
  split at h
  · rename_i t dd cd sl ho
    obtain ⟨ht, h⟩ := ba h
    split at h
    · rename_i C' bm k0 k1 k2 k3 n k5 hm hs
      obtain ⟨h1, h⟩ := ba h
      obtain ⟨h2, h⟩ := ba h
      obtain ⟨h3, h⟩ := ba h
      obtain ⟨h4, h5⟩ := ba h
      obtain ⟨nm, bs, mro, ns, qn, hd, sn, sub, ab, col, del⟩ := cd
      have e1 := of_decide_eq_true h1
      have e2 := of_decide_eq_true h2
      have e0 := of_decide_eq_true ht
      have e3 : del = false := by
        have h3 : (!del) = true := h3
        cases del with
        | false => rfl
        | true => cases h3
      have e4 : hd = true := h4
      dsimp only at hm
      subst e0 e1 e2 e3 e4 hm
      have hsl : sl = #[k0, k1, k2, k3, some (.builtin "ValueError.__new__"), k5] := by
        obtain ⟨l⟩ := sl
        simp only at hs
        rw [hs]
      subst hsl
      exact ⟨nm, qn, ns, bs, bm, sn, sub, ab, col, dd, k0, k1, k2, k3, k5, ho, h5⟩
    · cases h
  · cases h
theorem oexB_ok {K : PySem.W.Frag} {C : Addr} (h : oexB K C = true) : OexC K C := by
  obtain ⟨h1, h⟩ := ba h
  obtain ⟨h2, h⟩ := ba h
  obtain ⟨h3, h⟩ := ba h
  obtain ⟨h4, h5⟩ := ba h
  exact ⟨clB_ok h1, eqO_ok h2, of_decide_eq_true h3, of_decide_eq_true h4, h5⟩
def cellB (K : PySem.W.Frag) (a C : Addr) : Bool := match K.lookup a with
  | some ⟨_, _, .cell (some (.ref b)), _⟩ => decide (b = C)
  | _ => false
theorem cellB_ok {K : PySem.W.Frag} {a C : Addr} (h : cellB K a C = true) : ∃ cl cld csl, K.lookup a = some ⟨cl, cld, .cell (some (.ref C)), csl⟩ := by
  unfold cellB at h
  split at h
  · rename_i x y b z e
    have e2 := of_decide_eq_true h
    subst e2
    exact ⟨x, y, z, e⟩
  · cases h
def fileB (K : PySem.W.Frag) (a : Addr) (file : Str) : Bool := match K.lookup a with
  | some ⟨_, _, .fields vs, _⟩ => (match vs[2]? with
    | some (Value.str x _) => file == x
    | _ => false)
  | _ => false
theorem fileB_ok {K : PySem.W.Frag} {a : Addr} {file : Str} (h : fileB K a file = true) : ∃ ccl cdd vs2 ccs x tf, K.lookup a = some ⟨ccl, cdd, .fields vs2, ccs⟩ ∧ vs2[2]? = some (.str x tf) ∧ (file == x) = true := by
  unfold fileB at h
  split at h
  · rename_i x y vs z e
    split at h
    · rename_i s t e2
      exact ⟨x, y, vs, z, s, t, e, e2, h⟩
    · cases h
  · cases h
/-- all that is asked of such a class -/
def supB (K : PySem.W.Frag) (c q file : Str) : Bool := eqO (PySem.W.findIn K (.ref (ga K c)) "__init__") (some (some (.ref (fAd K (supAt c))))) && (decide (PySem.W.typeIn K (.ref (fAd K (supAt c))) = some (.type "function")) && ((Fa.code (supAt c) q).ok K && (cellB K (cellOf K c) (ga K c) && (fileB K (codeOf K (supAt c)) file && (eqO (PySem.W.nsIn K mainGlobals "super") (some none) && ((PySem.W.clsIn K (ga K c)).isSome && (decide (PySem.W.mroIn K (ga K c) (.ref (ga K c)) = some true) && (eqO (PySem.W.nsIn K cStatics "thirdparty.any") (some none) && (eqO (PySem.W.ks_superIn K (ga K c) (ga K c) "__init__") (some (some (.builtin "ValueError.__init__"))) && (decide (PySem.W.subIn K (.ref (ga K c)) (.type "ValueError") = some true) && (oexB K (ga K c) && xfB K (ga K c))))))))))))
/-! ### the Hook -/
def frS (n : Nat) (g : Addr → Option Obj) : PySem.W.Frag := frG g (asD g n ++ [cStatics])
structure SaysS (fa : List Fa) (fn : List DefD) (ex : PySem.W.Frag → Bool) (c : Str) (v : SupV) (w : World) (h : Heap) (K : PySem.W.Frag) : Prop where
  t : SaysT fa fn [] w K
  more : ex K = true
  sup : supW K c = v
abbrev AlS : Type := AlT × Bool × SupV
def obsS (n : Nat) (fa : List Fa) (fn : List DefD) (ex : PySem.W.Frag → Bool) (c : Str) (g : Addr → Option Obj) : AlS := (obsT fa fn [] (frS n g), ex (frS n g), supW (frS n g) c)
def valS (fn : List DefD) (v : SupV) (w : World) : AlS := (valT fn [] w, true, v)
theorem saysS_of {n : Nat} {fa : List Fa} {fn : List DefD} {ex : PySem.W.Frag → Bool} {c : Str} {v : SupV} {w : World} {h : Heap} (e : obsS n fa fn ex c h.get? = valS fn v w) : SaysS fa fn ex c v w h (frS n h.get?) :=
  ⟨congrArg (fun z : AlS => z.1) e, congrArg (fun z : AlS => z.2.1) e, congrArg (fun z : AlS => z.2.2) e⟩
def hookS (n : Nat) (fa : List Fa) (fn : List DefD) (ex : PySem.W.Frag → Bool) (c : Str) (v : SupV) : PySem.W.Hook where
  α := AlS
  obs := fun s => obsS n fa fn ex c s.heap.get?
  val := fun w => valS fn v w
  says := fun w h => ∃ K : PySem.W.Frag, K.In h ∧ SaysS fa fn ex c v w h K
  of := fun _ _ e => ⟨_, frG_in, saysS_of e⟩
  keeps := fun _ _ _ ⟨K, hK, c⟩ k => ⟨K, PySem.W.Frag.In.keeps hK k, ⟨c.t, c.more, c.sup⟩⟩
theorem obsS_eq {n : Nat} {fa : List Fa} {fn : List DefD} {ex : PySem.W.Frag → Bool} {c : Str} {v : SupV} {g : Addr → Option Obj} {s : Shared} (h : ∀ a, g a = s.heap.get? a) : obsS n fa fn ex c g = (hookS n fa fn ex c v).obs s := by
  have e : g = s.heap.get? := funext h
  rw [e] <;> rfl
end SkS

namespace Sk
open PySem L2
def topS (i : Nat) : Stmt := PySem.Challenge.pw_sidekeep_k19_the_label_that_is_followed.main.body.getD i (.Pass ⟨0, 0, 0, 0⟩)
abbrev s__law_take : Stmt := (topS 68)
abbrev N__law_take : List Str := ["box", "size", "digit"]
theorem sc__law_take : FnScope N__law_take ["box", "size"] (defScope s__law_take) := ⟨rfl, rfl, rfl, by decide +kernel, rfl, by decide +kernel, by decide +kernel⟩
abbrev s_parts_of : Stmt := (topS 40)
abbrev N_parts_of : List Str := ["number", "size"]
theorem sc_parts_of : FnScope N_parts_of ["number", "size"] (defScope s_parts_of) := ⟨rfl, rfl, rfl, by decide +kernel, rfl, by decide +kernel, by decide +kernel⟩
abbrev s_Layout___init__ : Stmt := (inClass (topS 39) 0)
abbrev N_Layout___init__ : List Str := ["self", "segments", "segment_blocks", "block_size", "numbers"]
theorem sc_Layout___init__ : FnScope N_Layout___init__ ["self", "segments", "segment_blocks", "block_size"] (defScope s_Layout___init__) := ⟨rfl, rfl, rfl, by decide +kernel, rfl, by decide +kernel, by decide +kernel⟩
abbrev s__law_layout : Stmt := (topS 69)
abbrev N__law_layout : List Str := ["box", "sizes"]
theorem sc__law_layout : FnScope N__law_layout ["box"] (defScope s__law_layout) := ⟨rfl, rfl, rfl, by decide +kernel, rfl, by decide +kernel, by decide +kernel⟩
abbrev s__law_number : Stmt := (topS 67)
abbrev N__law_number : List Str := ["script", "k", "cell", "first", "second"]
theorem sc__law_number : FnScope N__law_number ["script", "k"] (defScope s__law_number) := ⟨rfl, rfl, rfl, by decide +kernel, rfl, by decide +kernel, by decide +kernel⟩
abbrev s__law_low : Stmt := (topS 70)
abbrev N__law_low : List Str := ["number", "count", "octets", "k"]
theorem sc__law_low : FnScope N__law_low ["number", "count"] (defScope s__law_low) := ⟨rfl, rfl, rfl, by decide +kernel, rfl, by decide +kernel, by decide +kernel⟩
abbrev s__law_octets : Stmt := (topS 72)
abbrev N__law_octets : List Str := ["layout", "block", "octets", "number"]
theorem sc__law_octets : FnScope N__law_octets ["layout", "block"] (defScope s__law_octets) := ⟨rfl, rfl, rfl, by decide +kernel, rfl, by decide +kernel, by decide +kernel⟩
abbrev s__law_check : Stmt := (topS 73)
abbrev N__law_check : List Str := ["layout", "address", "block", "total", "octet"]
theorem sc__law_check : FnScope N__law_check ["layout", "address", "block"] (defScope s__law_check) := ⟨rfl, rfl, rfl, by decide +kernel, rfl, by decide +kernel, by decide +kernel⟩
abbrev s__law_sealed : Stmt := (topS 74)
abbrev N__law_sealed : List Str := ["layout", "address", "block"]
theorem sc__law_sealed : FnScope N__law_sealed ["layout", "address", "block"] (defScope s__law_sealed) := ⟨rfl, rfl, rfl, by decide +kernel, rfl, by decide +kernel, by decide +kernel⟩
abbrev s__law_label_block : Stmt := (topS 75)
abbrev N__law_label_block : List Str := ["layout", "seat", "label", "octets", "fork", "other"]
theorem sc__law_label_block : FnScope N__law_label_block ["layout", "seat", "label"] (defScope s__law_label_block) := ⟨rfl, rfl, rfl, by decide +kernel, rfl, by decide +kernel, by decide +kernel⟩
abbrev s__law_label_cell : Stmt := (topS 76)
abbrev N__law_label_cell : List Str := ["layout", "seat", "label", "slot", "address"]
theorem sc__law_label_cell : FnScope N__law_label_cell ["layout", "seat", "label", "slot"] (defScope s__law_label_cell) := ⟨rfl, rfl, rfl, by decide +kernel, rfl, by decide +kernel, by decide +kernel⟩
abbrev s__law_data : Stmt := (topS 71)
abbrev N__law_data : List Str := ["layout", "box", "first", "step", "body", "k"]
theorem sc__law_data : FnScope N__law_data ["layout", "box"] (defScope s__law_data) := ⟨rfl, rfl, rfl, by decide +kernel, rfl, by decide +kernel, by decide +kernel⟩
abbrev s_Device___init__ : Stmt := (inClass (topS 7) 0)
abbrev N_Device___init__ : List Str := ["self", "layout", "blocks"]
theorem sc_Device___init__ : FnScope N_Device___init__ ["self", "layout", "blocks"] (defScope s_Device___init__) := ⟨rfl, rfl, rfl, by decide +kernel, rfl, by decide +kernel, by decide +kernel⟩
abbrev s_Side___init__ : Stmt := (inClass (topS 60) 0)
abbrev N_Side___init__ : List Str := ["self", "layout", "seat", "cells"]
theorem sc_Side___init__ : FnScope N_Side___init__ ["self", "layout", "seat", "cells"] (defScope s_Side___init__) := ⟨rfl, rfl, rfl, by decide +kernel, rfl, by decide +kernel, by decide +kernel⟩
abbrev s__law_labelled : Stmt := (topS 77)
abbrev N__law_labelled : List Str := ["layout", "seat", "box", "common", "cells", "labels", "slot", "generation", "members", "kind", "forks", "before", "place", "pair", "k", "inner", "address", "other"]
theorem sc__law_labelled : FnScope N__law_labelled ["layout", "seat", "box", "common"] (defScope s__law_labelled) := ⟨rfl, rfl, rfl, by decide +kernel, rfl, by decide +kernel, by decide +kernel⟩
abbrev s__law_best : Stmt := (topS 78)
abbrev N__law_best : List Str := ["labels", "best", "label"]
theorem sc__law_best : FnScope N__law_best ["labels"] (defScope s__law_best) := ⟨rfl, rfl, rfl, by decide +kernel, rfl, by decide +kernel, by decide +kernel⟩
abbrev s_is_newer : Stmt := (topS 29)
abbrev N_is_newer : List Str := ["label", "other"]
theorem sc_is_newer : FnScope N_is_newer ["label", "other"] (defScope s_is_newer) := ⟨rfl, rfl, rfl, by decide +kernel, rfl, by decide +kernel, by decide +kernel⟩
abbrev s_newest_label : Stmt := (topS 30)
abbrev N_newest_label : List Str := ["labels", "best", "label"]
theorem sc_newest_label : FnScope N_newest_label ["labels"] (defScope s_newest_label) := ⟨rfl, rfl, rfl, by decide +kernel, rfl, by decide +kernel, by decide +kernel⟩
abbrev s_seats_of_bits : Stmt := (topS 25)
abbrev N_seats_of_bits : List Str := ["octets", "seat"]
theorem sc_seats_of_bits : FnScope N_seats_of_bits ["octets"] (defScope s_seats_of_bits) := ⟨rfl, rfl, rfl, by decide +kernel, rfl, by decide +kernel, by decide +kernel⟩
abbrev s_number_of : Stmt := (topS 13)
abbrev N_number_of : List Str := ["octets", "total", "octet"]
theorem sc_number_of : FnScope N_number_of ["octets"] (defScope s_number_of) := ⟨rfl, rfl, rfl, by decide +kernel, rfl, by decide +kernel, by decide +kernel⟩
abbrev s_bits_of_seats : Stmt := (topS 24)
abbrev N_bits_of_seats : List Str := ["seats", "seat"]
theorem sc_bits_of_seats : FnScope N_bits_of_seats ["seats"] (defScope s_bits_of_seats) := ⟨rfl, rfl, rfl, by decide +kernel, rfl, by decide +kernel, by decide +kernel⟩
abbrev s_number_octets : Stmt := (topS 12)
abbrev N_number_octets : List Str := ["number", "count", "found", "_"]
theorem sc_number_octets : FnScope N_number_octets ["number", "count"] (defScope s_number_octets) := ⟨rfl, rfl, rfl, by decide +kernel, rfl, by decide +kernel, by decide +kernel⟩
abbrev s_label_block : Stmt := (topS 27)
abbrev N_label_block : List Str := ["layout", "seat", "label", "generation", "members", "before", "forks", "octets", "fork"]
theorem sc_label_block : FnScope N_label_block ["layout", "seat", "label"] (defScope s_label_block) := ⟨rfl, rfl, rfl, by decide +kernel, rfl, by decide +kernel, by decide +kernel⟩
abbrev s_label_of : Stmt := (topS 28)
abbrev N_label_of : List Str := ["layout", "seat", "block", "octets", "members", "before", "starts", "forks", "label", "number", "start"]
theorem sc_label_of : FnScope N_label_of ["layout", "seat", "block"] (defScope s_label_of) := ⟨rfl, rfl, rfl, by decide +kernel, rfl, by decide +kernel, by decide +kernel⟩
abbrev s_Device_read : Stmt := (inClass (topS 7) 1)
abbrev N_Device_read : List Str := ["self", "address"]
theorem sc_Device_read : FnScope N_Device_read ["self", "address"] (defScope s_Device_read) := ⟨rfl, rfl, rfl, by decide +kernel, rfl, by decide +kernel, by decide +kernel⟩
abbrev s_pairs_of : Stmt := (topS 14)
abbrev N_pairs_of : List Str := ["numbers", "found", "number"]
theorem sc_pairs_of : FnScope N_pairs_of ["numbers"] (defScope s_pairs_of) := ⟨rfl, rfl, rfl, by decide +kernel, rfl, by decide +kernel, by decide +kernel⟩
abbrev s_summary_octets : Stmt := (topS 46)
abbrev N_summary_octets : List Str := ["layout", "mark", "numbers", "action", "header"]
theorem sc_summary_octets : FnScope N_summary_octets ["layout", "mark", "numbers", "action"] (defScope s_summary_octets) := ⟨rfl, rfl, rfl, by decide +kernel, rfl, by decide +kernel, by decide +kernel⟩
abbrev s_bits_of : Stmt := (topS 45)
abbrev N_bits_of : List Str := ["used", "last_id", "octets", "number"]
theorem sc_bits_of : FnScope N_bits_of ["used", "last_id"] (defScope s_bits_of) := ⟨rfl, rfl, rfl, by decide +kernel, rfl, by decide +kernel, by decide +kernel⟩
abbrev s_body_octets : Stmt := (topS 47)
abbrev N_body_octets : List Str := ["layout", "kind", "body", "found"]
theorem sc_body_octets : FnScope N_body_octets ["layout", "kind", "body"] (defScope s_body_octets) := ⟨rfl, rfl, rfl, by decide +kernel, rfl, by decide +kernel, by decide +kernel⟩
abbrev s_block_octets : Stmt := (topS 50)
abbrev N_block_octets : List Str := ["layout", "block", "kind", "sequence", "place", "body", "spare"]
theorem sc_block_octets : FnScope N_block_octets ["layout", "block"] (defScope s_block_octets) := ⟨rfl, rfl, rfl, by decide +kernel, rfl, by decide +kernel, by decide +kernel⟩
abbrev s_check_of : Stmt := (topS 54)
abbrev N_check_of : List Str := ["layout", "address", "block", "total", "octet"]
theorem sc_check_of : FnScope N_check_of ["layout", "address", "block"] (defScope s_check_of) := ⟨rfl, rfl, rfl, by decide +kernel, rfl, by decide +kernel, by decide +kernel⟩
abbrev s_is_whole : Stmt := (topS 56)
abbrev N_is_whole : List Str := ["layout", "address", "cell"]
theorem sc_is_whole : FnScope N_is_whole ["layout", "address", "cell"] (defScope s_is_whole) := ⟨rfl, rfl, rfl, by decide +kernel, rfl, by decide +kernel, by decide +kernel⟩
abbrev s_Side_read : Stmt := (inClass (topS 60) 1)
abbrev N_Side_read : List Str := ["self", "address", "cell"]
theorem sc_Side_read : FnScope N_Side_read ["self", "address"] (defScope s_Side_read) := ⟨rfl, rfl, rfl, by decide +kernel, rfl, by decide +kernel, by decide +kernel⟩
abbrev s_Side_labels : Stmt := (inClass (topS 60) 6)
abbrev N_Side_labels : List Str := ["self", "first", "slot"]
theorem sc_Side_labels : FnScope N_Side_labels ["self"] (defScope s_Side_labels) := ⟨rfl, rfl, rfl, by decide +kernel, rfl, by decide +kernel, by decide +kernel⟩
abbrev s_Side_label : Stmt := (inClass (topS 60) 7)
abbrev N_Side_label : List Str := ["self"]
theorem sc_Side_label : FnScope N_Side_label ["self"] (defScope s_Side_label) := ⟨rfl, rfl, rfl, by decide +kernel, rfl, by decide +kernel, by decide +kernel⟩
abbrev s_label_to_follow : Stmt := (topS 64)
abbrev N_label_to_follow : List Str := ["sides", "side"]
theorem sc_label_to_follow : FnScope N_label_to_follow ["sides"] (defScope s_label_to_follow) := ⟨rfl, rfl, rfl, by decide +kernel, rfl, by decide +kernel, by decide +kernel⟩
abbrev s_Side_settled : Stmt := (inClass (topS 60) 11)
abbrev N_Side_settled : List Str := ["self", "cells", "address"]
theorem sc_Side_settled : FnScope N_Side_settled ["self"] (defScope s_Side_settled) := ⟨rfl, rfl, rfl, by decide +kernel, rfl, by decide +kernel, by decide +kernel⟩
abbrev s_is_next : Stmt := (topS 31)
abbrev N_is_next : List Str := ["label", "own"]
theorem sc_is_next : FnScope N_is_next ["label", "own"] (defScope s_is_next) := ⟨rfl, rfl, rfl, by decide +kernel, rfl, by decide +kernel, by decide +kernel⟩
abbrev s_is_current : Stmt := (topS 62)
abbrev N_is_current : List Str := ["side", "label", "own"]
theorem sc_is_current : FnScope N_is_current ["side", "label"] (defScope s_is_current) := ⟨rfl, rfl, rfl, by decide +kernel, rfl, by decide +kernel, by decide +kernel⟩
abbrev s_Degraded___init__ : Stmt := (inClass (topS 5) 0)
abbrev N_Degraded___init__ : List Str := ["self", "missing", "__class__"]
theorem sc_Degraded___init__ : NdefX.NScope N_Degraded___init__ ["self", "missing"] ["__class__"] (defScope s_Degraded___init__) := NdefX.nscope_by (by decide +kernel)
abbrev s_fork_of : Stmt := (topS 26)
abbrev N_fork_of : List Str := ["generation", "seat"]
theorem sc_fork_of : FnScope N_fork_of ["generation", "seat"] (defScope s_fork_of) := ⟨rfl, rfl, rfl, by decide +kernel, rfl, by decide +kernel, by decide +kernel⟩
abbrev s_first_whole : Stmt := (topS 63)
abbrev N_first_whole : List Str := ["sides", "address", "side", "block"]
theorem sc_first_whole : FnScope N_first_whole ["sides", "address"] (defScope s_first_whole) := ⟨rfl, rfl, rfl, by decide +kernel, rfl, by decide +kernel, by decide +kernel⟩
abbrev s_Mirror___init__ : Stmt := (inClass (topS 58) 0)
abbrev N_Mirror___init__ : List Str := ["self", "layout", "sides", "generation", "forks"]
theorem sc_Mirror___init__ : FnScope N_Mirror___init__ ["self", "layout", "sides", "generation", "forks"] (defScope s_Mirror___init__) := ⟨rfl, rfl, rfl, by decide +kernel, rfl, by decide +kernel, by decide +kernel⟩
abbrev s_Mirror_cut_after : Stmt := (inClass (topS 58) 6)
abbrev N_Mirror_cut_after : List Str := ["self", "count"]
theorem sc_Mirror_cut_after : FnScope N_Mirror_cut_after ["self", "count"] (defScope s_Mirror_cut_after) := ⟨rfl, rfl, rfl, by decide +kernel, rfl, by decide +kernel, by decide +kernel⟩
abbrev s_sealed : Stmt := (topS 55)
abbrev N_sealed : List Str := ["layout", "address", "block"]
theorem sc_sealed : FnScope N_sealed ["layout", "address", "block"] (defScope s_sealed) := ⟨rfl, rfl, rfl, by decide +kernel, rfl, by decide +kernel, by decide +kernel⟩
abbrev s_Device_cut_after : Stmt := (inClass (topS 7) 4)
abbrev N_Device_cut_after : List Str := ["self", "count"]
theorem sc_Device_cut_after : FnScope N_Device_cut_after ["self", "count"] (defScope s_Device_cut_after) := ⟨rfl, rfl, rfl, by decide +kernel, rfl, by decide +kernel, by decide +kernel⟩
abbrev s_Mirror_count_command : Stmt := (inClass (topS 58) 5)
abbrev N_Mirror_count_command : List Str := ["self", "side"]
theorem sc_Mirror_count_command : FnScope N_Mirror_count_command ["self"] (defScope s_Mirror_count_command) := ⟨rfl, rfl, rfl, by decide +kernel, rfl, by decide +kernel, by decide +kernel⟩
abbrev s_Device__count_command : Stmt := (inClass (topS 7) 12)
abbrev N_Device__count_command : List Str := ["self"]
theorem sc_Device__count_command : FnScope N_Device__count_command ["self"] (defScope s_Device__count_command) := ⟨rfl, rfl, rfl, by decide +kernel, rfl, by decide +kernel, by decide +kernel⟩
abbrev s_Device_write : Stmt := (inClass (topS 7) 2)
abbrev N_Device_write : List Str := ["self", "address", "block"]
theorem sc_Device_write : FnScope N_Device_write ["self", "address", "block"] (defScope s_Device_write) := ⟨rfl, rfl, rfl, by decide +kernel, rfl, by decide +kernel, by decide +kernel⟩
abbrev s_Side_write : Stmt := (inClass (topS 60) 3)
abbrev N_Side_write : List Str := ["self", "address", "block"]
theorem sc_Side_write : FnScope N_Side_write ["self", "address", "block"] (defScope s_Side_write) := ⟨rfl, rfl, rfl, by decide +kernel, rfl, by decide +kernel, by decide +kernel⟩
abbrev s_Device_barrier : Stmt := (inClass (topS 7) 3)
abbrev N_Device_barrier : List Str := ["self", "address", "block"]
theorem sc_Device_barrier : FnScope N_Device_barrier ["self"] (defScope s_Device_barrier) := ⟨rfl, rfl, rfl, by decide +kernel, rfl, by decide +kernel, by decide +kernel⟩
abbrev s_Side_barrier : Stmt := (inClass (topS 60) 4)
abbrev N_Side_barrier : List Str := ["self"]
theorem sc_Side_barrier : FnScope N_Side_barrier ["self"] (defScope s_Side_barrier) := ⟨rfl, rfl, rfl, by decide +kernel, rfl, by decide +kernel, by decide +kernel⟩
abbrev s_Mirror_copy_to : Stmt := (inClass (topS 58) 17)
abbrev N_Mirror_copy_to : List Str := ["self", "side", "content", "address", "block"]
theorem sc_Mirror_copy_to : FnScope N_Mirror_copy_to ["self", "side", "content"] (defScope s_Mirror_copy_to) := ⟨rfl, rfl, rfl, by decide +kernel, rfl, by decide +kernel, by decide +kernel⟩
abbrev s_Mirror_members : Stmt := (inClass (topS 58) 1)
abbrev N_Mirror_members : List Str := ["self"]
theorem sc_Mirror_members : FnScope N_Mirror_members ["self"] (defScope s_Mirror_members) := ⟨rfl, rfl, rfl, by decide +kernel, rfl, by decide +kernel, by decide +kernel⟩
abbrev s_Side_write_label : Stmt := (inClass (topS 60) 8)
abbrev N_Side_write_label : List Str := ["self", "label", "found", "slot"]
theorem sc_Side_write_label : FnScope N_Side_write_label ["self", "label"] (defScope s_Side_write_label) := ⟨rfl, rfl, rfl, by decide +kernel, rfl, by decide +kernel, by decide +kernel⟩
abbrev s_Mirror_write_labels : Stmt := (inClass (topS 58) 13)
abbrev N_Mirror_write_labels : List Str := ["self", "sides", "label", "side"]
theorem sc_Mirror_write_labels : FnScope N_Mirror_write_labels ["self", "sides", "label"] (defScope s_Mirror_write_labels) := ⟨rfl, rfl, rfl, by decide +kernel, rfl, by decide +kernel, by decide +kernel⟩
abbrev s_Mirror_relabel : Stmt := (inClass (topS 58) 14)
abbrev N_Mirror_relabel : List Str := ["self", "before", "label", "seat"]
theorem sc_Mirror_relabel : FnScope N_Mirror_relabel ["self", "before"] (defScope s_Mirror_relabel) := ⟨rfl, rfl, rfl, by decide +kernel, rfl, by decide +kernel, by decide +kernel⟩
abbrev s_Mirror_clear_labels : Stmt := (inClass (topS 58) 16)
abbrev N_Mirror_clear_labels : List Str := ["self", "side", "slot"]
theorem sc_Mirror_clear_labels : FnScope N_Mirror_clear_labels ["self", "side"] (defScope s_Mirror_clear_labels) := ⟨rfl, rfl, rfl, by decide +kernel, rfl, by decide +kernel, by decide +kernel⟩
abbrev s_Mirror_read : Stmt := (inClass (topS 58) 2)
abbrev N_Mirror_read : List Str := ["self", "address", "seat", "block"]
theorem sc_Mirror_read : FnScope N_Mirror_read ["self", "address"] (defScope s_Mirror_read) := ⟨rfl, rfl, rfl, by decide +kernel, rfl, by decide +kernel, by decide +kernel⟩
abbrev s_Mirror_content : Stmt := (inClass (topS 58) 18)
abbrev N_Mirror_content : List Str := ["self", "address"]
theorem sc_Mirror_content : FnScope N_Mirror_content ["self"] (defScope s_Mirror_content) := ⟨rfl, rfl, rfl, by decide +kernel, rfl, by decide +kernel, by decide +kernel⟩
abbrev s_Mirror_join : Stmt := (inClass (topS 58) 19)
abbrev N_Mirror_join : List Str := ["self", "side", "stale", "members", "label", "seat"]
theorem sc_Mirror_join : FnScope N_Mirror_join ["self", "side", "stale"] (defScope s_Mirror_join) := ⟨rfl, rfl, rfl, by decide +kernel, rfl, by decide +kernel, by decide +kernel⟩
abbrev s_assemble : Stmt := (topS 65)
abbrev N_assemble : List Str := ["seats", "force", "cut", "side", "sides", "label", "current", "there", "missing", "leader", "forks", "content", "mirror", "address", "seat"]
theorem sc_assemble : FnScope N_assemble ["seats", "force", "cut"] (defScope s_assemble) := ⟨rfl, rfl, rfl, by decide +kernel, rfl, by decide +kernel, by decide +kernel⟩
abbrev s__law_fault : Stmt := (topS 80)
abbrev N__law_fault : List Str := ["seats", "force", "e"]
theorem sc__law_fault : FnScope N__law_fault ["seats", "force"] (defScope s__law_fault) := ⟨rfl, rfl, rfl, by decide +kernel, rfl, by decide +kernel, by decide +kernel⟩
abbrev s__law_current : Stmt := (topS 79)
abbrev N__law_current : List Str := ["row", "label", "own"]
theorem sc__law_current : FnScope N__law_current ["row", "label"] (defScope s__law_current) := ⟨rfl, rfl, rfl, by decide +kernel, rfl, by decide +kernel, by decide +kernel⟩
abbrev s_Device_pending : Stmt := (inClass (topS 7) 6)
abbrev N_Device_pending : List Str := ["self"]
theorem sc_Device_pending : FnScope N_Device_pending ["self"] (defScope s_Device_pending) := ⟨rfl, rfl, rfl, by decide +kernel, rfl, by decide +kernel, by decide +kernel⟩
abbrev s_Side_pending : Stmt := (inClass (topS 60) 5)
abbrev N_Side_pending : List Str := ["self"]
theorem sc_Side_pending : FnScope N_Side_pending ["self"] (defScope s_Side_pending) := ⟨rfl, rfl, rfl, by decide +kernel, rfl, by decide +kernel, by decide +kernel⟩
abbrev s_Mirror_pending : Stmt := (inClass (topS 58) 8)
abbrev N_Mirror_pending : List Str := ["self", "seat"]
theorem sc_Mirror_pending : FnScope N_Mirror_pending ["self"] (defScope s_Mirror_pending) := ⟨rfl, rfl, rfl, by decide +kernel, rfl, by decide +kernel, by decide +kernel⟩
abbrev s_Mirror_was_cut : Stmt := (inClass (topS 58) 7)
abbrev N_Mirror_was_cut : List Str := ["self"]
theorem sc_Mirror_was_cut : FnScope N_Mirror_was_cut ["self"] (defScope s_Mirror_was_cut) := ⟨rfl, rfl, rfl, by decide +kernel, rfl, by decide +kernel, by decide +kernel⟩
abbrev s__law_made : Stmt := (topS 81)
abbrev N__law_made : List Str := ["layout", "mirror", "rows", "label", "forks", "members", "generation", "seat", "told", "row"]
theorem sc__law_made : FnScope N__law_made ["layout", "mirror", "rows", "label", "forks"] (defScope s__law_made) := ⟨rfl, rfl, rfl, by decide +kernel, rfl, by decide +kernel, by decide +kernel⟩
abbrev s_Device_sure_blocks : Stmt := (inClass (topS 7) 7)
abbrev N_Device_sure_blocks : List Str := ["self"]
theorem sc_Device_sure_blocks : FnScope N_Device_sure_blocks ["self"] (defScope s_Device_sure_blocks) := ⟨rfl, rfl, rfl, by decide +kernel, rfl, by decide +kernel, by decide +kernel⟩
abbrev s_law : Stmt := (topS 82)
abbrev N_law : List Str := ["script", "layout", "seats", "rows", "common", "seat", "box", "row", "label", "passed", "there", "current", "missing", "told", "forks"]
theorem sc_law : FnScope N_law ["script"] (defScope s_law) := ⟨rfl, rfl, rfl, by decide +kernel, rfl, by decide +kernel, by decide +kernel⟩
end Sk
namespace SkH
open PySem PySem.Spec PyProof.Rows L2
abbrev R : PySem.W.OpenRow := PySem.W.OpenLaw.row PySem.Challenge.rw_sidekeep_k19_the_label_that_is_followed
def d0 : He.DefD := ⟨("_law_take", none), "_law_take", "_law_take", defArgs Sk.s__law_take, defBody Sk.s__law_take, defScope Sk.s__law_take, [], []⟩
def d1 : He.DefD := ⟨("parts_of", none), "parts_of", "parts_of", defArgs Sk.s_parts_of, defBody Sk.s_parts_of, defScope Sk.s_parts_of, [], []⟩
def d2 : He.DefD := ⟨("Layout", some "__init__"), "__init__", "Layout.__init__", defArgs Sk.s_Layout___init__, defBody Sk.s_Layout___init__, defScope Sk.s_Layout___init__, [], []⟩
def d3 : He.DefD := ⟨("_law_layout", none), "_law_layout", "_law_layout", defArgs Sk.s__law_layout, defBody Sk.s__law_layout, defScope Sk.s__law_layout, [], []⟩
def d4 : He.DefD := ⟨("_law_number", none), "_law_number", "_law_number", defArgs Sk.s__law_number, defBody Sk.s__law_number, defScope Sk.s__law_number, [], []⟩
def d5 : He.DefD := ⟨("_law_low", none), "_law_low", "_law_low", defArgs Sk.s__law_low, defBody Sk.s__law_low, defScope Sk.s__law_low, [], []⟩
def d6 : He.DefD := ⟨("_law_octets", none), "_law_octets", "_law_octets", defArgs Sk.s__law_octets, defBody Sk.s__law_octets, defScope Sk.s__law_octets, [], []⟩
def d7 : He.DefD := ⟨("_law_check", none), "_law_check", "_law_check", defArgs Sk.s__law_check, defBody Sk.s__law_check, defScope Sk.s__law_check, [], []⟩
def d8 : He.DefD := ⟨("_law_sealed", none), "_law_sealed", "_law_sealed", defArgs Sk.s__law_sealed, defBody Sk.s__law_sealed, defScope Sk.s__law_sealed, [], []⟩
def d9 : He.DefD := ⟨("_law_label_block", none), "_law_label_block", "_law_label_block", defArgs Sk.s__law_label_block, defBody Sk.s__law_label_block, defScope Sk.s__law_label_block, [], []⟩
def d10 : He.DefD := ⟨("_law_label_cell", none), "_law_label_cell", "_law_label_cell", defArgs Sk.s__law_label_cell, defBody Sk.s__law_label_cell, defScope Sk.s__law_label_cell, [], []⟩
def d11 : He.DefD := ⟨("_law_data", none), "_law_data", "_law_data", defArgs Sk.s__law_data, defBody Sk.s__law_data, defScope Sk.s__law_data, [], []⟩
def d12 : He.DefD := ⟨("Device", some "__init__"), "__init__", "Device.__init__", defArgs Sk.s_Device___init__, defBody Sk.s_Device___init__, defScope Sk.s_Device___init__, [.non], []⟩
def d13 : He.DefD := ⟨("Side", some "__init__"), "__init__", "Side.__init__", defArgs Sk.s_Side___init__, defBody Sk.s_Side___init__, defScope Sk.s_Side___init__, [.non], []⟩
def d14 : He.DefD := ⟨("_law_labelled", none), "_law_labelled", "_law_labelled", defArgs Sk.s__law_labelled, defBody Sk.s__law_labelled, defScope Sk.s__law_labelled, [], []⟩
def d15 : He.DefD := ⟨("_law_best", none), "_law_best", "_law_best", defArgs Sk.s__law_best, defBody Sk.s__law_best, defScope Sk.s__law_best, [], []⟩
def d16 : He.DefD := ⟨("is_newer", none), "is_newer", "is_newer", defArgs Sk.s_is_newer, defBody Sk.s_is_newer, defScope Sk.s_is_newer, [], []⟩
def d17 : He.DefD := ⟨("newest_label", none), "newest_label", "newest_label", defArgs Sk.s_newest_label, defBody Sk.s_newest_label, defScope Sk.s_newest_label, [], []⟩
def d18 : He.DefD := ⟨("seats_of_bits", none), "seats_of_bits", "seats_of_bits", defArgs Sk.s_seats_of_bits, defBody Sk.s_seats_of_bits, defScope Sk.s_seats_of_bits, [], []⟩
def d19 : He.DefD := ⟨("number_of", none), "number_of", "number_of", defArgs Sk.s_number_of, defBody Sk.s_number_of, defScope Sk.s_number_of, [], []⟩
def d20 : He.DefD := ⟨("bits_of_seats", none), "bits_of_seats", "bits_of_seats", defArgs Sk.s_bits_of_seats, defBody Sk.s_bits_of_seats, defScope Sk.s_bits_of_seats, [], []⟩
def d21 : He.DefD := ⟨("number_octets", none), "number_octets", "number_octets", defArgs Sk.s_number_octets, defBody Sk.s_number_octets, defScope Sk.s_number_octets, [], []⟩
def d22 : He.DefD := ⟨("label_block", none), "label_block", "label_block", defArgs Sk.s_label_block, defBody Sk.s_label_block, defScope Sk.s_label_block, [], []⟩
def d23 : He.DefD := ⟨("label_of", none), "label_of", "label_of", defArgs Sk.s_label_of, defBody Sk.s_label_of, defScope Sk.s_label_of, [], []⟩
def d24 : He.DefD := ⟨("Device", some "read"), "read", "Device.read", defArgs Sk.s_Device_read, defBody Sk.s_Device_read, defScope Sk.s_Device_read, [], []⟩
def d25 : He.DefD := ⟨("pairs_of", none), "pairs_of", "pairs_of", defArgs Sk.s_pairs_of, defBody Sk.s_pairs_of, defScope Sk.s_pairs_of, [], []⟩
def d26 : He.DefD := ⟨("summary_octets", none), "summary_octets", "summary_octets", defArgs Sk.s_summary_octets, defBody Sk.s_summary_octets, defScope Sk.s_summary_octets, [], []⟩
def d27 : He.DefD := ⟨("bits_of", none), "bits_of", "bits_of", defArgs Sk.s_bits_of, defBody Sk.s_bits_of, defScope Sk.s_bits_of, [], []⟩
def d28 : He.DefD := ⟨("body_octets", none), "body_octets", "body_octets", defArgs Sk.s_body_octets, defBody Sk.s_body_octets, defScope Sk.s_body_octets, [], []⟩
def d29 : He.DefD := ⟨("block_octets", none), "block_octets", "block_octets", defArgs Sk.s_block_octets, defBody Sk.s_block_octets, defScope Sk.s_block_octets, [], []⟩
def d30 : He.DefD := ⟨("check_of", none), "check_of", "check_of", defArgs Sk.s_check_of, defBody Sk.s_check_of, defScope Sk.s_check_of, [], []⟩
def d31 : He.DefD := ⟨("is_whole", none), "is_whole", "is_whole", defArgs Sk.s_is_whole, defBody Sk.s_is_whole, defScope Sk.s_is_whole, [], []⟩
def d32 : He.DefD := ⟨("Side", some "read"), "read", "Side.read", defArgs Sk.s_Side_read, defBody Sk.s_Side_read, defScope Sk.s_Side_read, [], []⟩
def d33 : He.DefD := ⟨("Side", some "labels"), "labels", "Side.labels", defArgs Sk.s_Side_labels, defBody Sk.s_Side_labels, defScope Sk.s_Side_labels, [], []⟩
def d34 : He.DefD := ⟨("Side", some "label"), "label", "Side.label", defArgs Sk.s_Side_label, defBody Sk.s_Side_label, defScope Sk.s_Side_label, [], []⟩
def d35 : He.DefD := ⟨("label_to_follow", none), "label_to_follow", "label_to_follow", defArgs Sk.s_label_to_follow, defBody Sk.s_label_to_follow, defScope Sk.s_label_to_follow, [], []⟩
def d36 : He.DefD := ⟨("Side", some "settled"), "settled", "Side.settled", defArgs Sk.s_Side_settled, defBody Sk.s_Side_settled, defScope Sk.s_Side_settled, [], []⟩
def d37 : He.DefD := ⟨("is_next", none), "is_next", "is_next", defArgs Sk.s_is_next, defBody Sk.s_is_next, defScope Sk.s_is_next, [], []⟩
def d38 : He.DefD := ⟨("is_current", none), "is_current", "is_current", defArgs Sk.s_is_current, defBody Sk.s_is_current, defScope Sk.s_is_current, [], []⟩
def d39 : He.DefD := ⟨("fork_of", none), "fork_of", "fork_of", defArgs Sk.s_fork_of, defBody Sk.s_fork_of, defScope Sk.s_fork_of, [], []⟩
def d40 : He.DefD := ⟨("first_whole", none), "first_whole", "first_whole", defArgs Sk.s_first_whole, defBody Sk.s_first_whole, defScope Sk.s_first_whole, [], []⟩
def d41 : He.DefD := ⟨("Mirror", some "__init__"), "__init__", "Mirror.__init__", defArgs Sk.s_Mirror___init__, defBody Sk.s_Mirror___init__, defScope Sk.s_Mirror___init__, [.adr (He.dflAt ("Mirror", some "__init__") 0)], []⟩
def d42 : He.DefD := ⟨("Mirror", some "cut_after"), "cut_after", "Mirror.cut_after", defArgs Sk.s_Mirror_cut_after, defBody Sk.s_Mirror_cut_after, defScope Sk.s_Mirror_cut_after, [], []⟩
def d43 : He.DefD := ⟨("sealed", none), "sealed", "sealed", defArgs Sk.s_sealed, defBody Sk.s_sealed, defScope Sk.s_sealed, [], []⟩
def d44 : He.DefD := ⟨("Device", some "cut_after"), "cut_after", "Device.cut_after", defArgs Sk.s_Device_cut_after, defBody Sk.s_Device_cut_after, defScope Sk.s_Device_cut_after, [], []⟩
def d45 : He.DefD := ⟨("Mirror", some "count_command"), "count_command", "Mirror.count_command", defArgs Sk.s_Mirror_count_command, defBody Sk.s_Mirror_count_command, defScope Sk.s_Mirror_count_command, [], []⟩
def d46 : He.DefD := ⟨("Device", some "_count_command"), "_count_command", "Device._count_command", defArgs Sk.s_Device__count_command, defBody Sk.s_Device__count_command, defScope Sk.s_Device__count_command, [], []⟩
def d47 : He.DefD := ⟨("Device", some "write"), "write", "Device.write", defArgs Sk.s_Device_write, defBody Sk.s_Device_write, defScope Sk.s_Device_write, [], []⟩
def d48 : He.DefD := ⟨("Side", some "write"), "write", "Side.write", defArgs Sk.s_Side_write, defBody Sk.s_Side_write, defScope Sk.s_Side_write, [], []⟩
def d49 : He.DefD := ⟨("Device", some "barrier"), "barrier", "Device.barrier", defArgs Sk.s_Device_barrier, defBody Sk.s_Device_barrier, defScope Sk.s_Device_barrier, [], []⟩
def d50 : He.DefD := ⟨("Side", some "barrier"), "barrier", "Side.barrier", defArgs Sk.s_Side_barrier, defBody Sk.s_Side_barrier, defScope Sk.s_Side_barrier, [], []⟩
def d51 : He.DefD := ⟨("Mirror", some "copy_to"), "copy_to", "Mirror.copy_to", defArgs Sk.s_Mirror_copy_to, defBody Sk.s_Mirror_copy_to, defScope Sk.s_Mirror_copy_to, [], []⟩
def d52 : He.DefD := ⟨("Mirror", some "members"), "members", "Mirror.members", defArgs Sk.s_Mirror_members, defBody Sk.s_Mirror_members, defScope Sk.s_Mirror_members, [], []⟩
def d53 : He.DefD := ⟨("Side", some "write_label"), "write_label", "Side.write_label", defArgs Sk.s_Side_write_label, defBody Sk.s_Side_write_label, defScope Sk.s_Side_write_label, [], []⟩
def d54 : He.DefD := ⟨("Mirror", some "write_labels"), "write_labels", "Mirror.write_labels", defArgs Sk.s_Mirror_write_labels, defBody Sk.s_Mirror_write_labels, defScope Sk.s_Mirror_write_labels, [], []⟩
def d55 : He.DefD := ⟨("Mirror", some "relabel"), "relabel", "Mirror.relabel", defArgs Sk.s_Mirror_relabel, defBody Sk.s_Mirror_relabel, defScope Sk.s_Mirror_relabel, [], []⟩
def d56 : He.DefD := ⟨("Mirror", some "clear_labels"), "clear_labels", "Mirror.clear_labels", defArgs Sk.s_Mirror_clear_labels, defBody Sk.s_Mirror_clear_labels, defScope Sk.s_Mirror_clear_labels, [], []⟩
def d57 : He.DefD := ⟨("Mirror", some "read"), "read", "Mirror.read", defArgs Sk.s_Mirror_read, defBody Sk.s_Mirror_read, defScope Sk.s_Mirror_read, [], []⟩
def d58 : He.DefD := ⟨("Mirror", some "content"), "content", "Mirror.content", defArgs Sk.s_Mirror_content, defBody Sk.s_Mirror_content, defScope Sk.s_Mirror_content, [], []⟩
def d59 : He.DefD := ⟨("Mirror", some "join"), "join", "Mirror.join", defArgs Sk.s_Mirror_join, defBody Sk.s_Mirror_join, defScope Sk.s_Mirror_join, [], []⟩
def d60 : He.DefD := ⟨("assemble", none), "assemble", "assemble", defArgs Sk.s_assemble, defBody Sk.s_assemble, defScope Sk.s_assemble, [], [("force", .bl false), ("cut", .non)]⟩
def d61 : He.DefD := ⟨("_law_fault", none), "_law_fault", "_law_fault", defArgs Sk.s__law_fault, defBody Sk.s__law_fault, defScope Sk.s__law_fault, [], []⟩
def d62 : He.DefD := ⟨("_law_current", none), "_law_current", "_law_current", defArgs Sk.s__law_current, defBody Sk.s__law_current, defScope Sk.s__law_current, [], []⟩
def d63 : He.DefD := ⟨("Device", some "pending"), "pending", "Device.pending", defArgs Sk.s_Device_pending, defBody Sk.s_Device_pending, defScope Sk.s_Device_pending, [], []⟩
def d64 : He.DefD := ⟨("Side", some "pending"), "pending", "Side.pending", defArgs Sk.s_Side_pending, defBody Sk.s_Side_pending, defScope Sk.s_Side_pending, [], []⟩
def d65 : He.DefD := ⟨("Mirror", some "pending"), "pending", "Mirror.pending", defArgs Sk.s_Mirror_pending, defBody Sk.s_Mirror_pending, defScope Sk.s_Mirror_pending, [], []⟩
def d66 : He.DefD := ⟨("Mirror", some "was_cut"), "was_cut", "Mirror.was_cut", defArgs Sk.s_Mirror_was_cut, defBody Sk.s_Mirror_was_cut, defScope Sk.s_Mirror_was_cut, [], []⟩
def d67 : He.DefD := ⟨("_law_made", none), "_law_made", "_law_made", defArgs Sk.s__law_made, defBody Sk.s__law_made, defScope Sk.s__law_made, [], []⟩
def d68 : He.DefD := ⟨("Device", some "sure_blocks"), "sure_blocks", "Device.sure_blocks", defArgs Sk.s_Device_sure_blocks, defBody Sk.s_Device_sure_blocks, defScope Sk.s_Device_sure_blocks, [], []⟩
def d69 : He.DefD := ⟨("law", none), "law", "law", defArgs Sk.s_law, defBody Sk.s_law, defScope Sk.s_law, [], []⟩
def fn : List He.DefD := [d0, d1, d2, d3, d4, d5, d6, d7, d8, d9, d10, d11, d12, d13, d14, d15, d16, d17, d18, d19, d20, d21, d22, d23, d24, d25, d26, d27, d28, d29, d30, d31, d32, d33, d34, d35, d36, d37, d38, d39, d40, d41, d42, d43, d44, d45, d46, d47, d48, d49, d50, d51, d52, d53, d54, d55, d56, d57, d58, d59, d60, d61, d62, d63, d64, d65, d66, d67, d68, d69]
def fa : List He.Fa := [.glo "_law_take", .glo "parts_of", .mkr "Layout", .glo "_law_layout", .glo "_law_number", .glo "_law_low", .glo "_law_octets", .glo "_law_check", .glo "_law_sealed", .glo "_law_label_block", .glo "_law_label_cell", .glo "_law_data", .mkr "Device", .mkr "Side", .glo "_law_labelled", .glo "_law_best", .glo "is_newer", .glo "newest_label", .glo "seats_of_bits", .glo "number_of", .glo "bits_of_seats", .glo "number_octets", .glo "label_block", .glo "label_of", .meth "Device" "read", .glo "pairs_of", .glo "summary_octets", .glo "bits_of", .glo "body_octets", .glo "block_octets", .glo "check_of", .glo "is_whole", .meth "Side" "read", .meth "Side" "labels", .meth "Side" "label", .glo "label_to_follow", .meth "Side" "settled", .glo "is_next", .glo "is_current", .glo "fork_of", .glo "first_whole", .mkr "Mirror", .meth "Mirror" "cut_after", .glo "sealed", .meth "Device" "cut_after", .meth "Mirror" "count_command", .meth "Device" "_count_command", .meth "Device" "write", .meth "Side" "write", .meth "Device" "barrier", .meth "Side" "barrier", .meth "Mirror" "copy_to", .meth "Mirror" "members", .meth "Side" "write_label", .meth "Mirror" "write_labels", .meth "Mirror" "relabel", .meth "Mirror" "clear_labels", .meth "Mirror" "read", .meth "Mirror" "content", .meth "Mirror" "join", .glo "assemble", .glo "_law_fault", .glo "_law_current", .meth "Device" "pending", .meth "Side" "pending", .meth "Mirror" "pending", .meth "Mirror" "was_cut", .glo "_law_made", .meth "Device" "sure_blocks", .glo "law", .glo "Layout", .glo "Device", .glo "Side", .glo "Mirror", .glo "Degraded", .glo "NoMirror", .glo "SegmentError", .cls "Layout", .cls "Device", .cls "Side", .cls "Mirror", .exc "NoMirror", .exm "NoMirror" "SegmentError" true, .exm "Degraded" "SegmentError" true, .noat "Layout" "segments", .noat "Layout" "segment_blocks", .noat "Layout" "block_size", .noat "Layout" "payload", .noat "Layout" "limit", .noat "Layout" "last_id", .noat "Layout" "fan", .noat "Layout" "region_blocks", .noat "Layout" "device_blocks", .noat "Device" "layout", .noat "Device" "sure", .noat "Device" "seen", .noat "Device" "waiting", .noat "Device" "fuse", .noat "Device" "dark", .noat "Side" "layout", .noat "Side" "seat", .noat "Side" "device", .noat "Degraded" "missing", .noat "Mirror" "layout", .noat "Mirror" "sides", .noat "Mirror" "guests", .noat "Mirror" "generation", .noat "Mirror" "forks", .noat "Mirror" "fuse", .noat "Mirror" "dark", .free "int", .free "len", .free "range", .free "list", .free "tuple", .free "reversed", .free "enumerate", .free "sorted", .free "isinstance", .free "sum", .int "MOST_SEGMENTS" 16, .int "LEAST_SEGMENTS" 4, .int "MOST_BLOCKS" 32, .int "LEAST_BLOCKS" 16, .int "HEAD_OCTETS" 16, .int "SLOTS" 3, .int "LABELS" 2, .int "SEATS" 3, .glo "LETTERS_labels", .int "FORK_OCTETS" 3, .int "DATA" 3, .int "MEMBERS_AT" 6, .int "COUNT_AT" 12, .int "MOST_FORKS" 16, .int "FORKS_AT" 13, .glo "LETTERS_bodies", .int "HEADER" 16, .glo "BITS", .int "COMMIT" 1, .int "MOVE" 2, .int "SPARE" 16, .int "FACTOR" 257, .int "PRIME" 4294967291]
def ex (K : PySem.W.Frag) : Bool := (He.tupB K "LETTERS_labels" [.int 83, .int 73, .int 68, .int 69] && (He.tupB K "LETTERS_bodies" [.int 83, .int 71, .int 70, .int 83] && (He.tupB K "BITS" [.int 1, .int 2, .int 4, .int 8, .int 16, .int 32, .int 64, .int 128] && (He.eqO (PySem.W.findIn K (.ref (He.ga K "NoMirror")) "__getattribute__") (some (some (.builtin "BaseException.__getattribute__"))) && (He.eqO (PySem.W.findIn K (.ref (He.ga K "NoMirror")) "__getattr__") (some none) && (decide (PySem.W.subIn K (.ref (He.ga K "NoMirror")) (.type "BaseException") = some true) && (PySem.W.hasDictIn K (He.ga K "NoMirror") && (He.eqO (PySem.W.findIn K (.ref (He.ga K "NoMirror")) "__class__") (some (some (.builtin "object.__class__"))) && (He.eqO (PySem.W.specialIn K (.builtin "object.__class__") "__get__") (some (some (.builtin "getset_descriptor.__get__"))) && (decide (PySem.W.takesIn K (.builtin "object.__class__") = some true) && (decide (PySem.W.mroIn K (He.ga K "NoMirror") (.type "object") = some true) && (decide (PySem.W.kitOne K (.ref (He.ga K "NoMirror")) (.ref (He.ga K "Degraded")) = some false) && (decide (PySem.W.kitOne K (.ref (He.ga K "NoMirror")) (.ref (He.ga K "NoMirror")) = some true) && (PySem.W.isIn K (.ref (He.ga K "Degraded")) (He.ga K "Degraded") && SkS.supB K "Degraded" "Degraded.__init__" SkH.R.prog.main.file))))))))))))))
def sv : SkS.SupV := some ("__init__", "Degraded.__init__", defArgs Sk.s_Degraded___init__, .stmts (defBody Sk.s_Degraded___init__), defScope Sk.s_Degraded___init__, mainGlobals, ["__class__"], .none, builtinsNs)
abbrev hk : PySem.W.Hook := SkS.hookS 4 fa fn ex "Degraded" sv
def ob (s : PySem.W.SharedT) : SkS.AlS := SkS.obsS 4 fa fn ex "Degraded" (HandSHeadRun.getT s)
theorem ob_eq (s : PySem.W.SharedT) : ob s = hk.obs s.abs := SkS.obsS_eq (HandSHeadRun.getT_eq s)
def nm0 : List Str := ["_wall", "SegmentError", "InvalidFormat", "NoMirror", "Degraded", "Device", "COMMIT", "MOVE", "DATA", "number_octets", "number_of", "pairs_of", "LETTERS_labels", "SEATS", "LABELS", "MEMBERS_AT", "COUNT_AT", "FORKS_AT", "FORK_OCTETS", "MOST_FORKS", "bits_of_seats", "seats_of_bits", "fork_of", "label_block", "label_of", "is_newer", "newest_label", "is_next", "LEAST_SEGMENTS", "MOST_SEGMENTS"]
def nm1 : List Str := ["LEAST_BLOCKS", "MOST_BLOCKS", "HEAD_OCTETS", "SLOTS", "Layout", "parts_of", "LETTERS_bodies", "HEADER", "BITS", "bits_of", "summary_octets", "body_octets", "SPARE", "block_octets", "PRIME", "FACTOR", "check_of", "sealed", "is_whole", "Mirror", "Side", "is_current", "first_whole", "label_to_follow", "assemble", "_law_number", "_law_take", "_law_layout", "_law_low", "_law_data"]
def nm2 : List Str := ["_law_octets", "_law_check", "_law_sealed", "_law_label_block", "_law_label_cell", "_law_labelled", "_law_best", "_law_current", "_law_fault", "_law_made"]
def nms : List Str := nm0 ++ (nm1 ++ (nm2))
set_option maxHeartbeats 0 in
theorem run (w : World) : HandSHeadRun.RunEq R (PySem.W.view R.prog [82]) hk ob 8000 nms w := by
  intro os
  kernel_rfl
open PySem.W PySem.Calls in
set_option maxHeartbeats 0 in
theorem top (F : ∀ (w : World) (mg : Str → Option Value) (fa0 : Addr) (h : Heap) (K : PySem.W.Frag), K.In h → h.Ns mainGlobals mg → mg ("law" : Str) = some (.ref fa0) → SkS.SaysS SkH.fa SkH.fn SkH.ex "Degraded" SkH.sv w h K →
    ∃ (fd : FuncData) (sp : Sp), (∀ (s : Shared) (v : Value), BindsTo s fd ⟨[v], []⟩ [("script", v)]) ∧
      (∀ (H : Hp) (a : Addr) (ns : List Int), ns.length ≤ 63 → Only H → SqL K H a (ns.map V.int) → sp [.ref a] H (fun v _ => v = .bl true) fun _ _ _ => False) ∧
      ∀ base : Heap, K.In base → base.Ns mainGlobals mg → FnOk (PySem.Challenge.rw_sidekeep_k19_the_label_that_is_followed).prog w K mg base CX0 14 fa0 fd ["script"] sp) : PySem.Challenge.rw_sidekeep_k19_the_label_that_is_followed.Holds := by
  w_on; o_law
  refine HandSHeadRun.head_any (r := OpenLaw.row PySem.Challenge.rw_sidekeep_k19_the_label_that_is_followed) (q := view (OpenLaw.row PySem.Challenge.rw_sidekeep_k19_the_label_that_is_followed).prog [82]) (H := SkH.hk) (ob := SkH.ob) (M := 8000) (loose := SkH.nms) (d := HandSHeadRun.topDef (OpenLaw.row PySem.Challenge.rw_sidekeep_k19_the_label_that_is_followed).prog 82) (kwd := []) SkH.ob_eq
    (by kernel_rfl) (fun s => by kernel_rfl) SkH.run (by kernel_rfl) (by kernel_rfl) (by kernel_rfl) (by rfl) (by first | assumption | decide +kernel) (by decide +kernel) ⟨rfl, rfl, rfl, rfl, rfl, by decide +kernel⟩ ?hw ?hc
  case hw => w_witness2
  case hc =>
    refine L2.walk_ofE (l := PySem.Challenge.rw_sidekeep_k19_the_label_that_is_followed) (n := 63) (k := 14) (x := "script") (CX := L2.CX0) rfl (by decide) (by kernel_rfl) ⟨rfl, by decide, by decide⟩ ?F (fun _ _ _ _ z => z)
    intro w mg fa h Y G hmg0
    obtain ⟨K, KX, c⟩ := Y
    have hmg : mg ("law" : PySem.Str) = some (.ref fa) := by
      have e : (HandSHeadRun.topDef (OpenLaw.row PySem.Challenge.rw_sidekeep_k19_the_label_that_is_followed).prog 82).name = ("law" : PySem.Str) := by kernel_rfl
      rw [← e]
      exact hmg0
    obtain ⟨fd, sp, h1, h2, h3⟩ := F w mg fa h K KX G hmg c
    exact ⟨K, fd, sp, KX, h1, h2, h3⟩
end SkH
namespace Sk
open PySem L2

/-! ### rules by values, joined over the kinds -/
section
variable {X : Cx}
def rAddU (K : PySem.W.Frag) : R2 := fun x y H Q => match x, y with
  | .int i, .int j => Q (.int (i + j)) H
  | .str i, .str j => i.length + j.length ≤ sizeLine ∧ Q (.str (i ++ j)) H
  | x, y => rCat x y H Q ∨ rCatT K x y H Q
theorem opAddU0 : OpR X (binaryOp .Add) (rAddU X.K) := by
  intro pins s σ H x y v u Q I rx ry h
  unfold rAddU at h
  split at h
  · exact op_add pins s σ H _ _ v u Q I rx ry ⟨_, _, rfl, rfl, h⟩
  · exact op_add_str pins s σ H _ _ v u Q I rx ry ⟨_, _, rfl, rfl, h.1, h.2⟩
  · rcases h with h | h
    · exact op_cat pins s σ H _ _ v u Q I rx ry h
    · exact op_catT pins s σ H _ _ v u Q I rx ry h
theorem opAddU {K : PySem.W.Frag} (hK : X.K = K := by rfl) : OpR X (binaryOp .Add) (rAddU K) := hK ▸ opAddU0
def rSubU : R2 := fun x y H Q => match x, y with
  | .int i, .int j => Q (.int (i - j)) H
  | _, _ => False
theorem opSubU : OpR X (binaryOp .Sub) rSubU := by
  intro pins s σ H x y v u Q I rx ry h
  unfold rSubU at h
  split at h
  · exact op_sub pins s σ H _ _ v u Q I rx ry ⟨_, _, rfl, rfl, h⟩
  · exact h.elim
def rMulU : R2 := fun x y H Q => match x, y with
  | .int i, .int j => CMul i j ∧ Q (.int (i * j)) H
  | x, y => rRep x y H Q
theorem opMultU : OpR X (binaryOp .Mult) rMulU := by
  intro pins s σ H x y v u Q I rx ry h
  unfold rMulU at h
  split at h
  · exact op_mul pins s σ H _ _ v u Q I rx ry ⟨_, _, rfl, rfl, h.1, h.2⟩
  · exact op_rep pins s σ H _ _ v u Q I rx ry h
def rModU : R2 := fun x y H Q => match x, y with
  | .int i, .int j => 0 < j ∧ Q (.int (i % j)) H
  | _, _ => False
theorem opModU : OpR X (binaryOp .Mod) rModU := by
  intro pins s σ H x y v u Q I rx ry h
  unfold rModU at h
  split at h
  · exact op_mod pins s σ H _ _ v u Q I rx ry ⟨_, _, rfl, rfl, h.1, h.2⟩
  · exact h.elim
def rDivU : R2 := fun x y H Q => match x, y with
  | .int i, .int j => (CDiv i j ∨ CDivW i j) ∧ Q (.int (i / j)) H
  | _, _ => False
theorem opFloorDivU : OpR X (binaryOp .FloorDiv) rDivU := by
  intro pins s σ H x y v u Q I rx ry h
  unfold rDivU at h
  split at h
  · obtain ⟨c | c, q⟩ := h
    · exact op_fdiv pins s σ H _ _ v u Q I rx ry ⟨_, _, rfl, rfl, c, q⟩
    · exact op_fdivW pins s σ H _ _ v u Q I rx ry ⟨_, _, rfl, rfl, c, q⟩
  · exact h.elim
def rPowU : R2 := fun x y H Q => match x, y with
  | .int i, .int j => CPow i j ∧ Q (.int (i ^ j.toNat)) H
  | _, _ => False
theorem opPowU : OpR X (binaryOp .Pow) rPowU := by
  intro pins s σ H x y v u Q I rx ry h
  unfold rPowU at h
  split at h
  · exact op_pow pins s σ H _ _ v u Q I rx ry ⟨_, _, rfl, rfl, h.1, h.2⟩
  · exact h.elim
/-- == of scalars, or of data at any depth -/
def rEqU (K : PySem.W.Frag) : R2 := fun x y H Q => match x, y with
  | .int i, .int j => Q (.bl (decide (i = j))) H
  | .str i, .str j => Q (.bl (decide (i = j))) H
  | .bl i, .bl j => Q (.bl (decide (i = j))) H
  | x, y => rEqD K x y H Q
theorem opEqU0 (hu : X.A.units + 64 < cLine) : OpR X (compareOp .Eq) (rEqU X.K) := by
  intro pins s σ H x y v u Q I rx ry h
  unfold rEqU at h
  split at h
  · exact op_eq pins s σ H _ _ v u Q I rx ry ⟨rfl, by simpa using h⟩
  · exact op_eq pins s σ H _ _ v u Q I rx ry ⟨rfl, by simpa using h⟩
  · exact op_eq pins s σ H _ _ v u Q I rx ry ⟨rfl, by simpa using h⟩
  · exact op_eqD hu pins s σ H _ _ v u Q I rx ry h
theorem opEqU {K : PySem.W.Frag} (hu : X.A.units + 64 < cLine) (hK : X.K = K := by rfl) : OpR X (compareOp .Eq) (rEqU K) := hK ▸ opEqU0 hu
def rNeU (K : PySem.W.Frag) : R2 := fun x y H Q => match x, y with
  | .int i, .int j => Q (.bl (!decide (i = j))) H
  | .str i, .str j => Q (.bl (!decide (i = j))) H
  | .bl i, .bl j => Q (.bl (!decide (i = j))) H
  | x, y => rNeD K x y H Q
theorem opNeU0 (hu : X.A.units + 64 < cLine) : OpR X (compareOp .NotEq) (rNeU X.K) := by
  intro pins s σ H x y v u Q I rx ry h
  unfold rNeU at h
  split at h
  · exact op_ne pins s σ H _ _ v u Q I rx ry ⟨rfl, by simpa using h⟩
  · exact op_ne pins s σ H _ _ v u Q I rx ry ⟨rfl, by simpa using h⟩
  · exact op_ne pins s σ H _ _ v u Q I rx ry ⟨rfl, by simpa using h⟩
  · exact op_neD hu pins s σ H _ _ v u Q I rx ry h
theorem opNeU {K : PySem.W.Frag} (hu : X.A.units + 64 < cLine) (hK : X.K = K := by rfl) : OpR X (compareOp .NotEq) (rNeU K) := hK ▸ opNeU0 hu
def rIsU : R2 := fun x y H Q => match y with
  | .non => Q (.bl (decide (x = .non))) H
  | .bl b => ∃ a, x = .bl a ∧ Q (.bl (decide (a = b))) H
  | _ => False
theorem opIsU : OpR X (compareOp .Is) rIsU := by
  intro pins s σ H x y v u Q I rx ry h
  unfold rIsU at h
  split at h
  · exact op_isN pins s σ H _ _ v u Q I rx ry ⟨rfl, h⟩
  · obtain ⟨a, rfl, q⟩ := h; exact op_isBl pins s σ H _ _ v u Q I rx ry ⟨_, _, rfl, rfl, q⟩
  · exact h.elim
def rNotU : R2 := fun x y H Q => match y with
  | .non => Q (.bl (!decide (x = .non))) H
  | .bl b => ∃ a, x = .bl a ∧ Q (.bl (!decide (a = b))) H
  | _ => False
theorem opNotU : OpR X (compareOp .IsNot) rNotU := by
  intro pins s σ H x y v u Q I rx ry h
  unfold rNotU at h
  split at h
  · exact op_notN pins s σ H _ _ v u Q I rx ry ⟨rfl, h⟩
  · obtain ⟨a, rfl, q⟩ := h; exact op_notBl pins s σ H _ _ v u Q I rx ry ⟨_, _, rfl, rfl, q⟩
  · exact h.elim
theorem opInF0 : OpR X (compareOp .In) (rIn X.K false) := op_in_seq
theorem opInF {K : PySem.W.Frag} (hK : X.K = K := by rfl) : OpR X (compareOp .In) (rIn K false) := hK ▸ opInF0
theorem opNinF0 : OpR X (compareOp .NotIn) (rIn X.K true) := op_notIn_seq
theorem opNinF {K : PySem.W.Frag} (hK : X.K = K := by rfl) : OpR X (compareOp .NotIn) (rIn K true) := hK ▸ opNinF0
theorem ps_never {st : Stmt} : PS X st (fun _ _ _ => False) := ⟨fun _ _ _ _ _ _ h => h.elim⟩
theorem pe_never {e : Expr} : PE X e (fun _ _ _ => False) := ⟨fun _ _ _ _ _ _ h => h.elim⟩
theorem hu65 {A : Around} {k : Nat} (hr : Room k A) : A.units + 65 < cLine := by have := hr.un; omega
theorem opInU0 (hu : X.A.units + 65 < cLine) : OpR X (compareOp .In) (rInD X.K) := op_inD hu
theorem opInU {K : PySem.W.Frag} (hu : X.A.units + 65 < cLine) (hK : X.K = K := by rfl) : OpR X (compareOp .In) (rInD K) := hK ▸ opInU0 hu
theorem opNinU0 (hu : X.A.units + 65 < cLine) : OpR X (compareOp .NotIn) (rNotInD X.K) := op_notInD hu
theorem opNinU {K : PySem.W.Frag} (hu : X.A.units + 65 < cLine) (hK : X.K = K := by rfl) : OpR X (compareOp .NotIn) (rNotInD K) := hK ▸ opNinU0 hu
theorem ixU0 : IxR X (rIx X.K) := ix_seq
theorem ixU {K : PySem.W.Frag} (hK : X.K = K := by rfl) : IxR X (rIx K) := hK ▸ ixU0
theorem callMaxU {K : PySem.W.Frag} (hc : X.calm = true) (hK : X.K = K := by rfl) : CallR X (.builtin "max") (rMax K) := hK ▸ cr_max hc
theorem pi_revK {K : PySem.W.Frag} {tg e : Expr} {te : TE} {p pos : Pos} (hg : Gl X "reversed") (hm : X.mg "reversed" = none) (he : PE X e te) (hs : starEach [e] X.env = (false, eval e X.env) :: starEach [] X.env := by rfl) (hK : X.K = K := by rfl) :
    PI X tg (.Call (.Name "reversed" p) [e] [] pos) (RT.iRevA K te) := hK ▸ RT.pi_revA hg hm he hs
def rSlU (K : PySem.W.Frag) : V → Option Int → Option Int → Hp → VK → Prop := fun x lo hi H Q => rSlL K x lo hi H Q ∨ rSlT K x lo hi H Q
theorem slU0 : SlR X (rSlU X.K) := sl_list.or sl_tup
theorem slU {K : PySem.W.Frag} (hK : X.K = K := by rfl) : SlR X (rSlU K) := hK ▸ slU0
def rLenU (K : PySem.W.Frag) : List V → Hp → VK → Prop := fun xs H Q => ∃ x n, xs = [x] ∧ LenV K x H n ∧ Q (.int n) H
theorem callLenU0 : CallR X (.builtin "len") (rLenU X.K) := call_len
theorem callLenU {K : PySem.W.Frag} (hK : X.K = K := by rfl) : CallR X (.builtin "len") (rLenU K) := hK ▸ callLenU0
def rListU (K : PySem.W.Frag) : List V → Hp → VK → Prop := fun xs H Q => ∃ p ys, xs = [.ref p] ∧ (SqL K H p ys ∨ SqT K H p ys) ∧ ∀ l, H l = none → Q (.ref l) (upd H l (.lst ys))
theorem callListU0 : CallR X (.type "list") (rListU X.K) := call_list_of
theorem callListU {K : PySem.W.Frag} (hK : X.K = K := by rfl) : CallR X (.type "list") (rListU K) := hK ▸ callListU0
def rTupU (K : PySem.W.Frag) : List V → Hp → VK → Prop := fun xs H Q => ∃ p ys, xs = [.ref p] ∧ ((SqL K H p ys ∧ ∀ l, H l = none → Q (.ref l) (upd H l (.tup ys))) ∨ (SqT K H p ys ∧ Q (.ref p) H))
theorem callTupU0 : CallR X (.type "tuple") (rTupU X.K) := call_tuple_of
theorem callTupU {K : PySem.W.Frag} (hK : X.K = K := by rfl) : CallR X (.type "tuple") (rTupU K) := hK ▸ callTupU0
def rInt1 : List V → Hp → VK → Prop := fun xs H Q => (∃ i, xs = [.int i] ∧ Q (.int i) H) ∨ ∃ k, xs = [.bl k] ∧ Q (.int (if k then 1 else 0)) H
theorem callIntU : CallR X (.type "int") rInt1 := call_int1
/-! the layer's rules with the written part K named (a comprehension's block has it by computing) -/
variable {e : Expr} {es : List Expr} {te : TE} {t : TA} {pos : Pos} {tg : Expr} {K : PySem.W.Frag}
theorem pe_fldK {f : Str} (he : PE X e te) (hb : attributeBase e f X.env (eval e X.env) = eval e X.env) (hK : X.K = K := by rfl) : PE X (.Attribute e f pos) (tFld K te f) := hK ▸ pe_fld he hb
def tTruK (K : PySem.W.Frag) (ta : TE) : TT := fun σ H Q => ta σ H fun x H' => ∃ k, TruV K x H' k ∧ Q k H'
theorem pt_truthK (ha : PE X e te) (he : ∀ whole, isTrue e X.env whole = (do let v ← whole; standAt e.pos; holding [v] (truthy v))) (hK : X.K = K := by rfl) : PT X e (tTruK K te) := hK ▸ pt_truth ha he
theorem pi_listK (hl : PE X e te) (hK : X.K = K := by rfl) : PI X tg e (iList K te) := hK ▸ pi_list hl
theorem pi_tupK (hl : PE X e te) (hK : X.K = K := by rfl) : PI X tg e (iTup K te) := hK ▸ pi_tup hl
theorem pg_tupK {k : Nat} {t : TGs} {n : Nat} (hc : X.calm = true) (h : PGs X es t)
    (hn : (assignEach es X.env).length = n := by rfl) (hst : (assignEach es X.env).findIdx? (·.1) = none := by rfl) (hK : X.K = K := by rfl) : PG X (.Tuple es k pos) (gTup K n t) := hK ▸ pg_tup hc h hn hst
end

/-! ### steps of a reading -/
section
variable {K : PySem.W.Frag} {σ : St} {H H1 : Hp} {Q : VK} {QB : Bool → Hp → Prop} {QA : List V → Hp → Prop} {D : Ends} {i : Nat} {v x y : V} {te ta tb : TE} {t u : TS} {c cd : TT} {tr : TA} {E : XK} {A B : Prop}
theorem g_var (h : σ[i]? = some (some v)) (q : Q v H) : tVar i σ H Q := ⟨v, h, q⟩
theorem g_c (q : Q v H) : tC v σ H Q := q
theorem g_op {r : R2} (q : ta σ H fun x H1 => tb σ H1 fun y H2 => r x y H2 Q) : tOp r ta tb σ H Q := q
theorem g_un {r : V → Hp → VK → Prop} (q : ta σ H fun x H1 => r x H1 Q) : tUn r ta σ H Q := q
theorem g_neg {n : Int} (q : Q (.int (-n)) H) : rU (fun i => .int (-i)) (.int n) H Q := ⟨n, rfl, q⟩
theorem g_add {a b : Int} (q : Q (.int (a + b)) H) : rAddU K (.int a) (.int b) H Q := q
theorem g_sub {a b : Int} (q : Q (.int (a - b)) H) : rSubU (.int a) (.int b) H Q := q
theorem g_mul {a b : Int} (h : CMul a b) (q : Q (.int (a * b)) H) : rMulU (.int a) (.int b) H Q := ⟨h, q⟩
theorem g_mod {a b : Int} (h : 0 < b) (q : Q (.int (a % b)) H) : rModU (.int a) (.int b) H Q := ⟨h, q⟩
theorem g_div {a b : Int} (h : CDiv a b ∨ CDivW a b) (q : Q (.int (a / b)) H) : rDivU (.int a) (.int b) H Q := ⟨h, q⟩
theorem g_pow {a b : Int} (h : CPow a b) (q : Q (.int (a ^ b.toNat)) H) : rPowU (.int a) (.int b) H Q := ⟨h, q⟩
theorem g_cmp {g : Int → Int → V} {a b : Int} (q : Q (g a b) H) : rI0 g (.int a) (.int b) H Q := ⟨a, b, rfl, rfl, q⟩
theorem g_eqI {a b : Int} (q : Q (.bl (decide (a = b))) H) : rEqU K (.int a) (.int b) H Q := q
theorem g_eqS {a b : Str} (q : Q (.bl (decide (a = b))) H) : rEqU K (.str a) (.str b) H Q := q
theorem g_eqB {a b : Bool} (q : Q (.bl (decide (a = b))) H) : rEqU K (.bl a) (.bl b) H Q := q
theorem g_neI {a b : Int} (q : Q (.bl (!decide (a = b))) H) : rNeU K (.int a) (.int b) H Q := q
theorem g_neS {a b : Str} (q : Q (.bl (!decide (a = b))) H) : rNeU K (.str a) (.str b) H Q := q
theorem g_isN (q : Q (.bl (decide (x = .non))) H) : rIsU x .non H Q := q
theorem g_notN (q : Q (.bl (!decide (x = .non))) H) : rNotU x .non H Q := q
theorem g_isB {a b : Bool} (q : Q (.bl (decide (a = b))) H) : rIsU (.bl a) (.bl b) H Q := ⟨a, rfl, q⟩
theorem g_notB {a b : Bool} (q : Q (.bl (!decide (a = b))) H) : rNotU (.bl a) (.bl b) H Q := ⟨a, rfl, q⟩
theorem g_rep {p : Addr} {xs : List V} {k : Int} (h : H p = some (.lst xs)) (h1 : -(2 ^ 63) ≤ k) (h2 : k < 2 ^ 63) (z : xs.length * k.toNat ≤ sizeLine) (q : ∀ p, H p = none → Q (.ref p) (upd H p (.lst (List.replicate k.toNat xs).flatten))) : rMulU (.ref p) (.int k) H Q := ⟨p, k, xs, rfl, rfl, h, h1, h2, z, q⟩
theorem g_cat {a b : Addr} {xs zs : List V} (h : H a = some (.lst xs)) (g : H b = some (.lst zs)) (z : xs.length + zs.length ≤ sizeLine) (q : ∀ p, H p = none → Q (.ref p) (upd H p (.lst (xs ++ zs)))) : rAddU K (.ref a) (.ref b) H Q := .inl ⟨a, b, xs, zs, rfl, rfl, h, g, z, q⟩
theorem g_ninF {p : Addr} {xs : List V} (h : SqL K H p xs ∨ SqT K H p xs) (f : flatV x = true) (fs : xs.all flatV = true) (q : Q (.bl (!inV x xs)) H) : rIn K true x (.ref p) H Q := ⟨p, xs, rfl, h, f, fs, q⟩
theorem g_inF {p : Addr} {xs : List V} (h : SqL K H p xs ∨ SqT K H p xs) (f : flatV x = true) (fs : xs.all flatV = true) (q : Q (.bl (inV x xs)) H) : rIn K false x (.ref p) H Q := ⟨p, xs, rfl, h, f, fs, q⟩
theorem g_tupL {p : Addr} {xs : List V} (h : SqL K H p xs) (q : ∀ l, H l = none → Q (.ref l) (upd H l (.tup xs))) : rTupU K [.ref p] H Q := ⟨p, xs, rfl, .inl ⟨h, q⟩⟩
theorem g_listT {p : Addr} {ys : List V} (h : SqT K H p ys) (q : ∀ l, H l = none → Q (.ref l) (upd H l (.lst ys))) : rListU K [.ref p] H Q := ⟨p, ys, rfl, .inr h, q⟩
theorem g_ixL {p : Addr} {xs : List V} {j : Int} (h : SqL K H p xs) (e : atI xs j = some v) (q : Q v H) : rIx K (.ref p) (.int j) H Q := .inl ⟨p, xs, j, v, rfl, rfl, h, e, q⟩
theorem g_ixT {p : Addr} {xs : List V} {j : Int} (h : SqT K H p xs) (e : atI xs j = some v) (q : Q v H) : rIx K (.ref p) (.int j) H Q := .inr (.inl ⟨p, xs, j, v, rfl, rfl, h, e, q⟩)
theorem g_lenL {p : Addr} {xs : List V} (h : SqL K H p xs) (q : Q (.int (xs.length : Int)) H) : rLenU K [.ref p] H Q := ⟨_, _, rfl, .inl ⟨xs, h, rfl⟩, q⟩
theorem g_lenT {p : Addr} {xs : List V} (h : SqT K H p xs) (q : Q (.int (xs.length : Int)) H) : rLenU K [.ref p] H Q := ⟨_, _, rfl, .inr ⟨xs, h, rfl⟩, q⟩
theorem g_int {n : Int} (q : Q (.int n) H) : rInt1 [.int n] H Q := .inl ⟨n, rfl, q⟩
theorem g_intB {k : Bool} (q : Q (.int (if k then 1 else 0)) H) : rInt1 [.bl k] H Q := .inr ⟨k, rfl, q⟩
theorem g_setL {p : Addr} {xs : List V} {k : Int} {j : Nat} {QH : Hp → Prop} (h : H p = some (.lst xs)) (e : ixN xs.length k = some j) (q : QH (upd H p (.lst (xs.set j v)))) : rSetL (.ref p) (.int k) v H QH := ⟨p, xs, k, j, rfl, rfl, h, e, q⟩
theorem g_nil (q : QA [] H) : tNil σ H QA := q
theorem g_cons (q : te σ H fun x H1 => tr σ H1 fun xs H2 => QA (x :: xs) H2) : tCons te tr σ H QA := q
theorem g_cb {r : List V → Hp → VK → Prop} (q : tr σ H fun vs H1 => r vs H1 Q) : tCB r tr σ H Q := q
theorem g_tup (q : tr σ H fun xs H1 => xs.length ≤ sizeLine ∧ ∀ p, H1 p = none → Q (.ref p) (upd H1 p (.tup xs))) : tTup tr σ H Q := q
theorem g_lst (q : tr σ H fun xs H1 => xs.length ≤ sizeLine ∧ ∀ p, H1 p = none → Q (.ref p) (upd H1 p (.lst xs))) : tLst tr σ H Q := q
theorem g_test (q : te σ H fun x H' => ∃ k, x = .bl k ∧ QB k H') : tTest te σ H QB := q
theorem g_tB (q : te σ H fun x H' => ∃ k, x = .bl k ∧ QB k H') : tB te σ H QB := q
theorem g_bl {k : Bool} {P : Bool → Prop} (q : P k) : ∃ k', V.bl k = .bl k' ∧ P k' := ⟨k, rfl, q⟩
theorem g_not (q : c σ H fun b H1 => QB (!b) H1) : tNot c σ H QB := q
theorem g_and (q : c σ H fun b H1 => if b = true then cd σ H1 QB else QB false H1) : tAnd c cd σ H QB := q
theorem g_or (q : c σ H fun b H1 => if b = true then QB true H1 else cd σ H1 QB) : tOr c cd σ H QB := q
theorem g_if (q : c σ H fun b H1 => if b = true then t D σ H1 else u D σ H1) : tIfS c t u D σ H := q
theorem g_andV {ta tb : TE} (q : ta σ H fun x H1 => ∃ c, x = .bl c ∧ if c = true then tb σ H1 Q else Q (.bl false) H1) : tAndV ta tb σ H Q := q
theorem g_orV {ta tb : TE} (q : ta σ H fun x H1 => ∃ c, x = .bl c ∧ if c = true then Q (.bl true) H1 else tb σ H1 Q) : tOrV ta tb σ H Q := q
theorem g_notV {ta : TE} (q : ta σ H fun x H1 => ∃ c, x = .bl c ∧ Q (.bl (!c)) H1) : tNotV ta σ H Q := q
theorem g_ife (q : c σ H fun b H1 => if b = true then ta σ H1 Q else tb σ H1 Q) : tIf c ta tb σ H Q := q
theorem g_ite {p : Prop} [Decidable p] (h1 : p → A) (h2 : ¬ p → B) : if decide p = true then A else B := by
  by_cases h : p
  · rw [if_pos (decide_eq_true h)]; exact h1 h
  · rw [if_neg (by simp [h])]; exact h2 h
theorem g_iteN {p : Prop} [Decidable p] (h1 : ¬ p → A) (h2 : p → B) : if (!decide p) = true then A else B := by
  by_cases h : p
  · rw [if_neg (by simp [h])]; exact h2 h
  · rw [if_pos (by simp [h])]; exact h1 h
theorem g_iteB {b : Bool} (h1 : b = true → A) (h2 : b = false → B) : if b = true then A else B := by
  cases b
  · rw [if_neg Bool.false_ne_true]; exact h2 rfl
  · rw [if_pos rfl]; exact h1 rfl
theorem g_iteT {b : Bool} (h : b = true) (q : A) : if b = true then A else B := by rw [if_pos h]; exact q
theorem g_iteF {b : Bool} (h : b = false) (q : B) : if b = true then A else B := by rw [if_neg (by rw [h]; exact Bool.false_ne_true)]; exact q
theorem g_seq (q : t { D with nx := u D } σ H) : tSeq t u D σ H := q
theorem g_next (q : D.nx σ H) : tNext D σ H := q
theorem g_ret (q : te σ H D.rt) : tRet te D σ H := q
theorem g_retN (q : D.rt .non H) : tRetN D σ H := q
theorem g_drop (q : te σ H fun _ H1 => D.nx σ H1) : tDrop te D σ H := q
theorem g_asg (q : te σ H fun x H1 => D.nx (σ.set i (some x)) H1) : tAsg te (gName i) D σ H := q
theorem g_asgS {to ti : TE} {ts : TSet} (q : te σ H fun x H1 => to σ H1 fun o H2 => ti σ H2 fun k H3 => ts o k x H3 fun H4 => D.nx σ H4) : tAsg te (gSub to ti ts) D σ H := q
theorem g_seqA (q : te σ H fun x H1 => u D (σ.set i (some x)) H1) : tSeq (tAsg te (gName i)) u D σ H := q
theorem g_seqS {to ti : TE} {ts : TSet} (q : te σ H fun x H1 => to σ H1 fun o H2 => ti σ H2 fun k H3 => ts o k x H3 fun H4 => u D σ H4) : tSeq (tAsg te (gSub to ti ts)) u D σ H := q
theorem g_seqD (q : te σ H fun _ H1 => u D σ H1) : tSeq (tDrop te) u D σ H := q
theorem g_seqI {w : TS} (q : c σ H fun b H1 => if b = true then t { D with nx := w D } σ H1 else u { D with nx := w D } σ H1) : tSeq (tIfS c t u) w D σ H := q
theorem g_joinI {p : Prop} [Decidable p] {v0 : V} (Rv : V → Prop) (h0 : σ[i]? = some (some v0)) (ht : p → ∀ Q : VK, (∀ x, Rv x → Q x H) → te σ H Q) (hf : ¬ p → Rv v0) (rest : ∀ x, Rv x → u D (σ.set i (some x)) H) :
    if decide p = true then tAsg te (gName i) { D with nx := u D } σ H else tNext { D with nx := u D } σ H := by
  refine g_ite (fun h => ht h _ fun x r => rest x r) (fun h => ?_)
  have e : σ.set i (some v0) = σ := by
    apply List.ext_getElem? 
    intro j
    by_cases hj : i = j
    · subst hj
      rw [h0]
      have hl : i < σ.length := (List.getElem?_eq_some_iff.mp h0).1
      simp [hl]
    · rw [List.getElem?_set_ne hj]
  have := rest v0 (hf h)
  rw [e] at this
  exact this
theorem g_truth (q : te σ H fun x H' => ∃ k, TruV K x H' k ∧ QB k H') : tTruK K te σ H QB := q
theorem g_call {sp : Sp} {dvs : List V} (q : tr σ H fun vs H1 => sp (vs ++ dvs) H1 Q E) : tCall sp dvs E tr σ H Q := q
/-- o.f, by values -/
def FldW (K : PySem.W.Frag) (x : V) (f : Str) (H : Hp) (Q : VK) : Prop := ∃ a C dx fs v, x = .ref a ∧ H a = some (.ins C dx fs) ∧ Cls K C ∧ NoAttr K C f ∧ fs.lookup f = some v ∧ Q v H
theorem g_fld {f : Str} (q : te σ H fun x H1 => FldW K x f H1 Q) : tFld K te f σ H Q := q
theorem g_fldW {a C dx : Addr} {fs : List (Str × V)} {f : Str} (h : H a = some (.ins C dx fs)) (c : Cls K C) (n : NoAttr K C f) (l : fs.lookup f = some v) (q : Q v H) : FldW K (.ref a) f H Q := ⟨a, C, dx, fs, v, rfl, h, c, n, l, q⟩
/-- o.f = y, by values -/
def SetW (K : PySem.W.Frag) (x y : V) (f : Str) (H : Hp) (QH : Hp → Prop) : Prop := ∃ a C dx fs, x = .ref a ∧ H a = some (.ins C dx fs) ∧ Cls K C ∧ NoAttr K C f ∧ fs.length < 1000 ∧ QH (upd H a (.ins C dx (putF f y fs)))
theorem g_sfld {f : Str} (q : ta σ H fun y H1 => te σ H1 fun x H2 => SetW K x y f H2 fun H3 => D.nx σ H3) : sFld K te ta f D σ H := q
theorem g_seqF {f : Str} (q : ta σ H fun y H1 => te σ H1 fun x H2 => SetW K x y f H2 fun H3 => u D σ H3) : tSeq (sFld K te ta f) u D σ H := q
theorem g_setW {a C dx : Addr} {fs : List (Str × V)} {f : Str} {QH : Hp → Prop} (h : H a = some (.ins C dx fs)) (c : Cls K C) (n : NoAttr K C f) (z : fs.length < 1000) (q : QH (upd H a (.ins C dx (putF f y fs)))) : SetW K (.ref a) y f H QH := ⟨a, C, dx, fs, rfl, h, c, n, z, q⟩
/-- a method of a list, of another built-in type -/
theorem g_bm {ty : String} {r : V → List V → Hp → VK → Prop} (q : te σ H fun x H1 => tyV K ty x H1 ∧ tr σ H1 fun xs H2 => r x xs H2 Q) : tBM K ty r te tr σ H Q := q
theorem g_bm0 {ty : String} {r : V → List V → Hp → VK → Prop} (q : te σ H fun x H1 => tyV K ty x H1 ∧ r x [] H1 Q) : tBM0 K ty r te σ H Q := q
theorem g_tyL {p : Addr} {xs : List V} {P : Prop} (h : H p = some (.lst xs)) (q : P) : tyV K "list" (.ref p) H ∧ P := ⟨.inl ⟨rfl, _, SqL.of h⟩, q⟩
theorem g_app {p : Addr} {xs : List V} (h : H p = some (.lst xs)) (z : xs.length < sizeLine) (q : Q .non (upd H p (.lst (xs ++ [v])))) : rAppend (.ref p) [v] H Q := ⟨p, xs, v, rfl, rfl, h, z, q⟩
def MW (C : Addr) (m : Str) (x : V) (H : Hp) (P : Prop) : Prop := ∃ a dx fs, x = .ref a ∧ H a = some (.ins C dx fs) ∧ fs.lookup m = none ∧ P
theorem g_meth {C : Addr} {m : Str} {sp : Sp} {dvs : List V} (q : te σ H fun x H1 => MW C m x H1 (tr σ H1 fun vs H2 => sp (x :: (vs ++ dvs)) H2 Q E)) : tMeth C m sp dvs E te tr σ H Q := q
theorem g_MW {C a dx : Addr} {fs : List (Str × V)} {m : Str} {P : Prop} (h : H a = some (.ins C dx fs)) (l : fs.lookup m = none) (q : P) : MW C m (.ref a) H P := ⟨a, dx, fs, rfl, h, l, q⟩
/-- C(..) -/
theorem g_make {C : Addr} {sp : Sp} {dvs : List V} (q : tr σ H fun vs H1 => ∀ x dx, H1 x = none → H1 dx = none → dx ≠ x →
  sp (.ref x :: (vs ++ dvs)) (upd (upd H1 dx (.own x)) x (.ins C dx [])) (fun v H2 => v = .non ∧ Q (.ref x) H2) E) : tMake C sp dvs E tr σ H Q := q
theorem g_sl {r : V → Option Int → Option Int → Hp → VK → Prop} {tl th : TO} (q : te σ H fun x H1 => tl σ H1 fun l H2 => th σ H2 fun u H3 => r x l u H3 Q) : tSl r te tl th σ H Q := q
def PartW (x : V) (H : Hp) (Q : Option Int → Hp → Prop) : Prop := ∃ i, x = .int i ∧ Q (some i) H
theorem g_part {QO : Option Int → Hp → Prop} (q : te σ H fun x H1 => PartW x H1 QO) : tPart te σ H QO := q
theorem g_partW {QO : Option Int → Hp → Prop} {n : Int} (q : QO (some n) H) : PartW (.int n) H QO := ⟨n, rfl, q⟩
theorem g_noPart {QO : Option Int → Hp → Prop} (q : QO none H) : tNoPart σ H QO := q
theorem g_slL {p : Addr} {xs : List V} {lo hi : Option Int} (h : SqL K H p xs) (q : ∀ p, H p = none → Q (.ref p) (upd H p (.lst (cutV xs lo hi)))) : rSlU K (.ref p) lo hi H Q := .inl ⟨p, xs, rfl, h, q⟩
/-! loops: what is walked, then the loop's own question -/
def ForW (J : It) (g : TG) (tb : TS) (D : Ends) (σ : St) (H1 : Hp) : Prop := ∃ W : Nat → Nat → St → Hp → Prop, (∃ m, W 0 m σ H1) ∧ ∀ i m σ H, W i m σ H →
  (J.stop i H ∧ D.nx σ H) ∨ (J.go i H ∧ ∃ N : St → Hp → Prop, (∀ σ' H', N σ' H' → ∃ m', m' < m ∧ W (i + 1) m' σ' H') ∧ ∀ x H', J.yld i H x H' → g x σ H' fun σ2 H2 => tb { D with nx := N, ct := N, bk := D.nx } σ2 H2)
theorem g_for {wi : TI} {g : TG} {tb : TS} (q : wi σ H fun J H1 => ForW J g tb D σ H1) : tFor wi g tb D σ H := q
theorem g_seqFor {wi : TI} {g : TG} {tb : TS} (q : wi σ H fun J H1 => ForW J g tb { D with nx := u D } σ H1) : tSeq (tFor wi g tb) u D σ H := q
def LcW (J : It) (g : TG) (tt : TT) (te : TE) (vs : List Nat) (σ : St) (Q : VK) (H1 : Hp) : Prop := ∀ D, H1 D = none → ∃ W : Nat → Nat → Hp → Prop, (∃ m, W 0 m (upd H1 D (.lst []))) ∧ ∀ i m H, W i m H →
  (J.stop i H ∧ Q (.ref D) H) ∨ (J.go i H ∧ ∃ Nx : Hp → Prop, (∀ H', Nx H' → ∃ m', m' < m ∧ W (i + 1) m' H') ∧ ∀ x H', J.yld i H x H' → g x (wipe σ vs) H' fun σ2 H2 => wipe σ2 vs = wipe σ vs ∧ tt σ2 H2 fun b H3 =>
    if b = true then te σ2 H3 fun y H4 => ∃ acc, H4 D = some (.lst acc) ∧ acc.length < sizeLine ∧ Nx (upd H4 D (.lst (acc ++ [y]))) else Nx H3)
theorem g_lc {wi : TI} {g : TG} {tt : TT} {vs : List Nat} (q : wi σ H fun J H1 => LcW J g tt te vs σ Q H1) : tLc wi g tt te vs σ H Q := q
def LsW (K : PySem.W.Frag) (x : V) (H : Hp) (R : It → Hp → Prop) : Prop := ∃ a, x = .ref a ∧ (∃ xs, SqL K H a xs) ∧ R (Itl K a) H
theorem g_iList {R : It → Hp → Prop} (q : te σ H fun x H1 => LsW K x H1 R) : iList K te σ H R := q
theorem g_LsW {R : It → Hp → Prop} {a : Addr} {xs : List V} (h : SqL K H a xs) (q : R (Itl K a) H) : LsW K (.ref a) H R := ⟨a, rfl, ⟨xs, h⟩, q⟩
def R1W (vs : List V) (H : Hp) (R : It → Hp → Prop) : Prop := ∃ j : Int, vs = [.int j] ∧ -(2 ^ 62) ≤ j ∧ j < 2 ^ 62 ∧ R (Itr 0 j.toNat) H
theorem g_iR1 {R : It → Hp → Prop} (q : tr σ H fun vs H1 => R1W vs H1 R) : iRng1 tr σ H R := q
theorem g_R1W {R : It → Hp → Prop} {n : Nat} {j : Int} (e : j = (n : Int)) (h : n ≤ 100000) (q : R (Itr 0 n) H) : R1W [.int j] H R := by subst e; exact ⟨n, rfl, by omega, by omega, q⟩
def R2W (vs : List V) (H : Hp) (R : It → Hp → Prop) : Prop := ∃ i j : Int, vs = [.int i, .int j] ∧ (-(2 ^ 62) ≤ i ∧ i < 2 ^ 62 ∧ -(2 ^ 62) ≤ j ∧ j < 2 ^ 62) ∧ R (Itr i (j - i).toNat) H
theorem g_iR2 {R : It → Hp → Prop} (q : tr σ H fun vs H1 => R2W vs H1 R) : iRng2 tr σ H R := q
def RvW (K : PySem.W.Frag) (v : V) (H : Hp) (R : It → Hp → Prop) : Prop := ∃ (a : Addr) (xs : List V), v = .ref a ∧ ((SqL K H a xs ∧ R (Itv K a xs.length) H) ∨ (SqT K H a xs ∧ R (RT.ItvT K a xs.length) H))
theorem g_iRev {te : TE} {R : It → Hp → Prop} (q : te σ H fun v H1 => RvW K v H1 R) : RT.iRevA K te σ H R := q
theorem g_ext {l b : Addr} {xs zs : List V} (h : H l = some (.lst xs)) (g : H b = some (.lst zs)) (z : xs.length + zs.length ≤ sizeLine) (q : Q .non (upd H l (.lst (xs ++ zs)))) : rExtend (.ref l) [.ref b] H Q := ⟨l, b, xs, zs, rfl, rfl, h, g, z, q⟩
theorem g_slT {p : Addr} {xs : List V} {lo hi : Option Int} (h : SqT K H p xs) (w : ¬ (HT.sIx xs.length 0 lo = 0 ∧ HT.sIx xs.length xs.length hi = xs.length)) (q : ∀ p, H p = none → Q (.ref p) (upd H p (.tup (cutV xs lo hi)))) : rSlU K (.ref p) lo hi H Q := .inr ⟨p, xs, rfl, h, w, q⟩
theorem g_max {a : Addr} {ns : List Int} (h : SqL K H a (ns.map V.int)) (z : 0 < ns.length) (q : ∀ m, m ∈ ns → (∀ y, y ∈ ns → y ≤ m) → Q (.int m) H) : rMax K [.ref a] H Q := ⟨a, ns, rfl, h, z, q⟩
theorem inV_ints (i : Int) : ∀ l : List Int, inV (.int i) (l.map V.int) = decide (i ∈ l)
  | [] => by simp [inV]
  | n :: r => by
    have h := inV_ints i r
    unfold inV at h ⊢
    rw [List.map_cons, List.any_cons, h]
    rw [show eqV (.int n) (.int i) = decide (i = n) by rw [eqV, Bool.eq_iff_iff, beq_iff_eq, decide_eq_true_iff]; exact eq_comm]
    by_cases e : i = n <;> by_cases f : i ∈ r <;> simp [e, f]
theorem flat_ints (l : List Int) : (l.map V.int).all flatV = true := by
  induction l with
  | nil => rfl
  | cons n r ih => rw [List.map_cons, List.all_cons, ih]; rfl
theorem g_gName {QG : St → Hp → Prop} (q : QG (σ.set i (some v)) H) : gName i v σ H QG := q
end
end Sk

namespace Sk
open PySem L2
/-! ### what is read for ever (R) within what is tracked (H) -/
structure Gr (M : List Addr) (R H R' H' : Hp) : Prop where
  rr : Same R R'
  rh : Same R' H'
  hh : ∀ a o, a ∉ M → H a = some o → H' a = some o
  fr : ∀ b o, H b = some o → R b = none → R' b = none
  th : ∀ b o, H b = some o → ∃ o', H' b = some o'
section
variable {M : List Addr} {R H R1 H1 R2 H2 : Hp} {p : Addr} {o : HO} {Q : VK} {K : PySem.W.Frag}
theorem Gr.refl (h : Same R H) : Gr M R H R H := ⟨Same.refl _, h, fun _ _ _ e => e, fun _ _ _ e => e, fun _ o e => ⟨o, e⟩⟩
theorem Gr.trans (a : Gr M R H R1 H1) (b : Gr M R1 H1 R2 H2) : Gr M R H R2 H2 :=
  ⟨a.rr.trans b.rr, b.rh, fun c o m e => b.hh c o m (a.hh c o m e), fun c o e n => let ⟨o', e'⟩ := a.th c o e; b.fr c o' e' (a.fr c o e n), fun c o e => let ⟨o', e'⟩ := a.th c o e; b.th c o' e'⟩
theorem Gr.mono {M' : List Addr} (a : Gr M R H R1 H1) (h : ∀ x ∈ M, x ∈ M') : Gr M' R H R1 H1 := ⟨a.rr, a.rh, fun c o m e => a.hh c o (fun z => m (h _ z)) e, a.fr, a.th⟩
theorem Gr.nil (a : Gr [] R H R1 H1) : Gr M R H R1 H1 := a.mono fun _ z => nomatch z
theorem Gr.same (a : Gr [] R H R1 H1) : Same H H1 := fun b o e => a.hh b o (by simp) e
theorem Gr.free (a : Gr M R H R1 H1) (h : H1 p = none) : H p = none := by
  cases e : H p with
  | none => rfl
  | some o => obtain ⟨o', e'⟩ := a.th p o e; rw [h] at e'; cases e'
/-- an object that changes is behind all changes still one that is not read for ever -/
theorem Gr.mut (h : Same R H) (n : R p = none) (e : H p = some o) {o' : HO} : Gr [p] R H R (upd H p o') := by
  refine ⟨Same.refl _, fun b u q => ?_, fun b u m q => ?_, fun _ _ _ q => q, fun b u q => ?_⟩
  · rw [upd_ne (ne_of_none q n)]; exact h b u q
  · rw [upd_ne (by simpa using m)]; exact q
  · by_cases hb : b = p
    · subst hb; exact ⟨o', upd_same⟩
    · exact ⟨u, by rw [upd_ne hb]; exact q⟩
theorem Same.free' (h : Same R H) (n : H p = none) : R p = none := h.free n
theorem Gr.newR (h : Same R H) (n : H p = none) : Gr M R H (upd R p o) (upd H p o) := by
  refine ⟨fun b u q => ?_, fun b u q => ?_, fun b u _ q => ?_, fun b u q m => ?_, fun b u q => ⟨u, ?_⟩⟩
  · rw [upd_ne (ne_of_none q (h.free n))]; exact q
  · by_cases hb : b = p
    · subst hb; rw [upd_same] at q ⊢; exact q
    · rw [upd_ne hb] at q ⊢; exact h b u q
  · rw [upd_ne (ne_of_none q n)]; exact q
  · rw [upd_ne (ne_of_none q n)]; exact m
  · rw [upd_ne (ne_of_none q n)]; exact q
theorem Gr.newM (h : Same R H) (n : H p = none) : Gr M R H R (upd H p o) := by
  refine ⟨Same.refl _, fun b u q => ?_, fun b u _ q => ?_, fun _ _ _ m => m, fun b u q => ⟨u, ?_⟩⟩
  · rw [upd_ne (ne_of_none (h b u q) n)]; exact h b u q
  · rw [upd_ne (ne_of_none q n)]; exact q
  · rw [upd_ne (ne_of_none q n)]; exact q
/-- not tracked (a word of its own, so that a search finds the heap) -/
def Free (H : Hp) (p : Addr) : Prop := H p = none
theorem Free.ne {a b : Addr} {o : HO} (n : Free H b) (h : H a = some o) : a ≠ b := ne_of_none h n
theorem Gr.frI (a : Gr M R H R1 H1) {b : Addr} {o : HO} (h : H b = some o) (n : R b = none) : R1 b = none := a.fr b o h n
theorem newR_ex {H1 : Hp} (h : Same R H) (n : H p = none) (q : upd H p o = H1) : ∃ R1, Free H p ∧ Gr [] R H R1 H1 ∧ R1 p = some o ∧ Same R1 H1 := by
  subst q
  exact ⟨upd R p o, n, .newR h n, upd_same, (Gr.newR (M := []) h n).rh⟩
/-- the same, R unchanged (kept apart so that a search along R does not run in a circle) -/
structure Mu (M : List Addr) (R H H1 : Hp) : Prop where
  g : Gr M R H R H1
theorem newM_ex {H1 : Hp} (h : Same R H) (n : H p = none) (q : upd H p o = H1) : Free H p ∧ Mu [] R H H1 ∧ R p = none ∧ H1 p = some o ∧ Same R H1 := by
  subst q
  exact ⟨n, ⟨.newM h n⟩, h.free n, upd_same, (Gr.newM (M := []) h n).rh⟩
theorem mut_ex {H1 : Hp} {o' : HO} (h : Same R H) (n : R p = none) (e : H p = some o) (q : upd H p o' = H1) : Mu [p] R H H1 ∧ H1 p = some o' ∧ Same R H1 := by
  subst q
  exact ⟨⟨.mut h n e⟩, upd_same, (Gr.mut h n e).rh⟩
theorem allocR (h : Same R H) (k : ∀ p R' H', Gr [] R H R' H' → R' p = some o → H p = none → Q (.ref p) H') : ∀ p, H p = none → Q (.ref p) (upd H p o) :=
  fun p n => k p (upd R p o) _ (.newR h n) upd_same n
theorem allocM (h : Same R H) (k : ∀ p H', Gr [] R H R H' → H p = none → R p = none → H' p = some o → Q (.ref p) H') : ∀ p, H p = none → Q (.ref p) (upd H p o) :=
  fun p n => k p _ (.newM h n) n (h.free n) upd_same
theorem Same.rd {H H' : Hp} (e : Same H H') {a : Addr} {u : HO} (h : Rd H a u) : Rd H' a u := by
  rcases h with h | ⟨o, h⟩
  · exact .inl (e _ _ h)
  · exact .inr ⟨o, e _ _ h⟩
theorem sqT_mono {H H' : Hp} {a : Addr} {xs : List V} (e : Same H H') (h : SqT K H a xs) : SqT K H' a xs := by
  rcases h with h | h
  · exact .inl (Same.rd e h)
  · exact .inr h
theorem sqL_mono {H H' : Hp} {a : Addr} {xs : List V} (e : Same H H') (h : SqL K H a xs) : SqL K H' a xs := e.seq h
mutual
theorem dp_mono {H H' : Hp} (e : Same H H') : ∀ {d : PyData} {v : V}, Dp K H v d → Dp K H' v d
  | .none, _, h => by cases h; exact .non
  | .bool b, _, h => by cases h; exact .bl b
  | .int i, _, h => by cases h; exact .int i
  | .str x, _, h => by cases h; exact .str x
  | .list ds, _, h => by cases h with | lst a b => exact .lst (sqL_mono e a) (dpAll_mono e b)
  | .tuple ds, _, h => by cases h with | tup a b => exact .tup (sqT_mono e a) (dpAll_mono e b)
  | .dict _, _, h => by cases h
theorem dpAll_mono {H H' : Hp} (e : Same H H') : ∀ {ds : List PyData} {vs : List V}, DpAll K H vs ds → DpAll K H' vs ds
  | [], _, h => by cases h; exact .nil
  | d :: ds, _, h => by cases h with | cons a b => exact .cons (dp_mono e a) (dpAll_mono e b)
end
theorem dpAll_len : ∀ {ds : List PyData} {vs : List V}, DpAll K H vs ds → vs.length = ds.length
  | [], _, h => by cases h; rfl
  | d :: ds, _, h => by cases h with | cons a b => simp [dpAll_len b]
theorem dpAll_get : ∀ {ds : List PyData} {vs : List V} {i : Nat} {d : PyData}, DpAll K H vs ds → ds[i]? = some d → ∃ v, vs[i]? = some v ∧ Dp K H v d
  | [], _, _, _, _, e => by simp at e
  | d :: ds, _, 0, d', h, e => by cases h with | cons a b => simp at e; subst e; exact ⟨_, rfl, a⟩
  | d :: ds, _, i + 1, d', h, e => by
    cases h with
    | cons a b =>
      obtain ⟨v, q, r⟩ := dpAll_get (i := i) b (by simpa using e)
      exact ⟨v, by simpa using q, r⟩
theorem dpAll_get' : ∀ {ds : List PyData} {vs : List V} {i : Nat} {v : V}, DpAll K H vs ds → vs[i]? = some v → ∃ d, ds[i]? = some d ∧ Dp K H v d
  | [], _, _, _, h, e => by cases h; simp at e
  | d :: ds, _, 0, v', h, e => by cases h with | cons a b => simp at e; subst e; exact ⟨_, rfl, a⟩
  | d :: ds, _, i + 1, v', h, e => by
    cases h with
    | cons a b =>
      obtain ⟨v, q, r⟩ := dpAll_get' (i := i) b (by simpa using e)
      exact ⟨v, by simpa using q, r⟩
theorem dpAll_app : ∀ {ds es : List PyData} {vs us : List V}, DpAll K H vs ds → DpAll K H us es → DpAll K H (vs ++ us) (ds ++ es)
  | [], _, _, _, h, g => by cases h; exact g
  | d :: ds, _, _, _, h, g => by cases h with | cons a b => exact .cons a (dpAll_app b g)
theorem dpAll_take : ∀ {ds : List PyData} {vs : List V} (n : Nat), DpAll K H vs ds → DpAll K H (vs.take n) (ds.take n)
  | _, _, 0, _ => by simpa using DpAll.nil
  | [], _, n + 1, h => by cases h; simpa using DpAll.nil
  | d :: ds, _, n + 1, h => by cases h with | cons a b => simpa using DpAll.cons a (dpAll_take n b)
theorem dpAll_drop : ∀ {ds : List PyData} {vs : List V} (n : Nat), DpAll K H vs ds → DpAll K H (vs.drop n) (ds.drop n)
  | _, _, 0, h => by simpa using h
  | [], _, n + 1, h => by cases h; simpa using DpAll.nil
  | d :: ds, _, n + 1, h => by cases h with | cons a b => simpa using dpAll_drop n b
theorem dpAll_set : ∀ {ds : List PyData} {vs : List V} (i : Nat) {v : V} {d : PyData}, DpAll K H vs ds → Dp K H v d → DpAll K H (vs.set i v) (ds.set i d)
  | [], _, i, _, _, h, _ => by cases h; simpa using DpAll.nil
  | d :: ds, _, 0, _, _, h, g => by cases h with | cons a b => simpa using DpAll.cons g b
  | d :: ds, _, i + 1, _, _, h, g => by cases h with | cons a b => simpa using DpAll.cons a (dpAll_set i b g)
theorem dpAll_ints : ∀ (ns : List Int), DpAll K H (ns.map V.int) (ns.map PyData.int)
  | [] => .nil
  | n :: ns => .cons (.int n) (dpAll_ints ns)
theorem dpAll_cut {ds : List PyData} {vs : List V} (h : DpAll K H vs ds) (lo hi : Option Int) :
    DpAll K H (cutV vs lo hi) ((ds.drop (HT.sIx ds.length 0 lo)).take (HT.sIx ds.length ds.length hi - HT.sIx ds.length 0 lo)) := by
  unfold cutV
  rw [dpAll_len h]
  exact dpAll_take _ (dpAll_drop _ h)
theorem dp_list {v : V} {ds : List PyData} (h : Dp K H v (.list ds)) : ∃ a vs, v = .ref a ∧ SqL K H a vs ∧ DpAll K H vs ds := by
  cases h with | lst a b => exact ⟨_, _, rfl, a, b⟩
theorem dp_tup {v : V} {ds : List PyData} (h : Dp K H v (.tuple ds)) : ∃ a vs, v = .ref a ∧ SqT K H a vs ∧ DpAll K H vs ds := by
  cases h with | tup a b => exact ⟨_, _, rfl, a, b⟩
theorem dp_int {v : V} {i : Int} (h : Dp K H v (.int i)) : v = .int i := by cases h; rfl
theorem dp_str {v : V} {i : Str} (h : Dp K H v (.str i)) : v = .str i := by cases h; rfl
theorem dp_non {v : V} (h : Dp K H v .none) : v = .non := by cases h; rfl
end
/-! ### equal data -/
mutual
/-- no bools, no dicts -/
def clean : PyData → Bool
  | .none | .int _ | .str _ => true
  | .bool _ | .dict _ => false
  | .list xs | .tuple xs => cleanAll xs
def cleanAll : List PyData → Bool
  | [] => true
  | x :: xs => clean x && cleanAll xs
end
mutual
theorem eqv_iff : ∀ {d e : PyData}, clean d = true → clean e = true → (PyData.eqv d e = true ↔ d = e)
  | .none, e, _, he => by cases e <;> simp_all [PyData.eqv, clean]
  | .int i, e, _, he => by cases e <;> simp_all [PyData.eqv, clean]
  | .str i, e, _, he => by cases e <;> simp_all [PyData.eqv, clean]
  | .bool i, e, hd, _ => by simp [clean] at hd
  | .dict i, e, hd, _ => by simp [clean] at hd
  | .list xs, e, hd, he => by
    cases e with
    | list ys => rw [PyData.eqv, eqvAll_iff (by simpa [clean] using hd) (by simpa [clean] using he)]; simp
    | _ => simp_all [PyData.eqv, clean]
  | .tuple xs, e, hd, he => by
    cases e with
    | tuple ys => rw [PyData.eqv, eqvAll_iff (by simpa [clean] using hd) (by simpa [clean] using he)]; simp
    | _ => simp_all [PyData.eqv, clean]
theorem eqvAll_iff : ∀ {ds es : List PyData}, cleanAll ds = true → cleanAll es = true → (PyData.eqvAll ds es = true ↔ ds = es)
  | [], [], _, _ => by simp [PyData.eqvAll]
  | [], e :: es, _, _ => by simp [PyData.eqvAll]
  | d :: ds, [], _, _ => by simp [PyData.eqvAll]
  | d :: ds, e :: es, hd, he => by
    have hd' : clean d = true ∧ cleanAll ds = true := by simpa [cleanAll] using hd
    have he' : clean e = true ∧ cleanAll es = true := by simpa [cleanAll] using he
    rw [PyData.eqvAll, Bool.and_eq_true, eqv_iff hd'.1 he'.1, eqvAll_iff hd'.2 he'.2]; simp
end
/-! ### enumerate -/
theorem for_enum {K : PySem.W.Frag} {a : Addr} {xs : List V} {g : TG} {tb : TS} {D : Ends} {σ : St} {H : Hp} (Pv : Nat → St → Hp → Prop) (h0 : Pv 0 σ H) (hl : ∀ i σ H, i ≤ xs.length → Pv i σ H → SqL K H a xs)
    (hs : ∀ i x T σ H, xs[i]? = some x → Pv i σ H → H T = none → g (.ref T) σ (upd H T (.tup [.int ((i : Nat) : Int), x])) fun σ2 H2 => tb { D with nx := Pv (i + 1), ct := Pv (i + 1), bk := D.nx } σ2 H2) (hd : ∀ σ H, Pv xs.length σ H → D.nx σ H) :
    ∃ W : Nat → Nat → St → Hp → Prop, (∃ m, W 0 m σ H) ∧ ∀ i m σ H, W i m σ H →
      ((Ite K a).stop i H ∧ D.nx σ H) ∨ ((Ite K a).go i H ∧ ∃ N : St → Hp → Prop, (∀ σ' H', N σ' H' → ∃ m', m' < m ∧ W (i + 1) m' σ' H') ∧ ∀ x H', (Ite K a).yld i H x H' → g x σ H' fun σ2 H2 => tb { D with nx := N, ct := N, bk := D.nx } σ2 H2) := by
  refine ⟨fun i m σ H => m = xs.length - i ∧ i ≤ xs.length ∧ Pv i σ H, ⟨xs.length, by simp, Nat.zero_le _, h0⟩, ?_⟩
  rintro i m σ H ⟨rfl, hi, p⟩
  have q := hl i σ H hi p
  by_cases hlt : i < xs.length
  · refine .inr ⟨⟨xs, xs[i], q, by simp [hlt]⟩, Pv (i + 1), fun σ' H' p' => ⟨xs.length - (i + 1), by omega, rfl, hlt, p'⟩, fun x H' y => ?_⟩
    obtain ⟨T, x, rfl, hT, rfl, y⟩ := y
    exact hs i x T σ _ (y xs q) p hT
  · have e : i = xs.length := by omega
    subst e
    exact .inl ⟨⟨xs, q, Nat.le_refl _⟩, hd σ H p⟩
theorem shaped_list {ds : List PyData} (h : ∀ d ∈ ds, d.canLay0 = true ∧ d.depth ≤ 60) : PySem.SeqAt.shaped (.list ds) = true := by
  have h1 : ∀ (l : List PyData), (∀ d ∈ l, d.canLay0 = true ∧ d.depth ≤ 60) → PyData.canLayAll0 l = true ∧ PyData.depthAll l ≤ 60 := by
    intro l
    induction l with
    | nil => intro _; exact ⟨by simp [PyData.canLayAll0], by simp [PyData.depthAll]⟩
    | cons d r ih =>
      intro h
      obtain ⟨a, b⟩ := ih fun d m => h d (List.mem_cons_of_mem _ m)
      obtain ⟨c, e⟩ := h d List.mem_cons_self
      exact ⟨by rw [PyData.canLayAll0, c, a]; rfl, by rw [PyData.depthAll]; omega⟩
  obtain ⟨a, b⟩ := h1 ds h
  unfold PySem.SeqAt.shaped
  rw [PyData.canLay0, a, Bool.true_and, decide_eq_true_eq, PyData.depth]
  omega
def EnW (K : PySem.W.Frag) (vs : List V) (H : Hp) (R : It → Hp → Prop) : Prop := ∃ a xs, vs = [.ref a] ∧ SqL K H a xs ∧ R (Ite K a) H
theorem g_iEnum {K : PySem.W.Frag} {σ : St} {H : Hp} {tr : TA} {R : It → Hp → Prop} (q : tr σ H fun vs H1 => EnW K vs H1 R) : iEnum K tr σ H R := q
theorem g_EnW {K : PySem.W.Frag} {H : Hp} {R : It → Hp → Prop} {a : Addr} {xs : List V} (h : SqL K H a xs) (q : R (Ite K a) H) : EnW K [.ref a] H R := ⟨a, xs, rfl, h, q⟩
theorem dpAll_cons {K : PySem.W.Frag} {H : Hp} {us : List V} {d : PyData} {ds : List PyData} (h : DpAll K H us (d :: ds)) : ∃ v vs, us = v :: vs ∧ Dp K H v d ∧ DpAll K H vs ds := by cases h with | cons a b => exact ⟨_, _, rfl, a, b⟩
theorem dpAll_nil {K : PySem.W.Frag} {H : Hp} {us : List V} (h : DpAll K H us []) : us = [] := by cases h; rfl
theorem dpT1 {K : PySem.W.Frag} {H : Hp} {v : V} {d : PyData} (h : Dp K H v (.tuple [d])) : ∃ a x, v = .ref a ∧ SqT K H a [x] ∧ Dp K H x d := by
  obtain ⟨a, us, rfl, hs, hu⟩ := dp_tup h
  obtain ⟨x, us, rfl, hx, hu⟩ := dpAll_cons hu
  obtain rfl := dpAll_nil hu
  exact ⟨a, x, rfl, hs, hx⟩
theorem dpT2 {K : PySem.W.Frag} {H : Hp} {v : V} {d e : PyData} (h : Dp K H v (.tuple [d, e])) : ∃ a x y, v = .ref a ∧ SqT K H a [x, y] ∧ Dp K H x d ∧ Dp K H y e := by
  obtain ⟨a, us, rfl, hs, hu⟩ := dp_tup h
  obtain ⟨x, us, rfl, hx, hu⟩ := dpAll_cons hu
  obtain ⟨y, us, rfl, hy, hu⟩ := dpAll_cons hu
  obtain rfl := dpAll_nil hu
  exact ⟨a, x, y, rfl, hs, hx, hy⟩
theorem dpT3 {K : PySem.W.Frag} {H : Hp} {v : V} {d e f : PyData} (h : Dp K H v (.tuple [d, e, f])) : ∃ a x y z, v = .ref a ∧ SqT K H a [x, y, z] ∧ Dp K H x d ∧ Dp K H y e ∧ Dp K H z f := by
  obtain ⟨a, us, rfl, hs, hu⟩ := dp_tup h
  obtain ⟨x, us, rfl, hx, hu⟩ := dpAll_cons hu
  obtain ⟨y, us, rfl, hy, hu⟩ := dpAll_cons hu
  obtain ⟨z, us, rfl, hz, hu⟩ := dpAll_cons hu
  obtain rfl := dpAll_nil hu
  exact ⟨a, x, y, z, rfl, hs, hx, hy, hz⟩
/-! ### isinstance -/
theorem callIsU {X : Cx} {K : PySem.W.Frag} (hK : X.K = K := by rfl) : CallR X (.builtin "isinstance") (rIsi K) := hK ▸ call_isi
theorem ty_tup {K : PySem.W.Frag} {H : Hp} {a : Addr} {xs : List V} (h : SqT K H a xs) : TyX K H (.ref a) (.type "tuple") := by
  rcases h with (h | ⟨o, h⟩) | ⟨o, its, n, hk, hc, _⟩
  · exact .base (.tup h)
  · exact .fTuple h
  · exact .kTuple hk hc
theorem ty_lst {K : PySem.W.Frag} {H : Hp} {a : Addr} {xs : List V} (h : SqL K H a xs) : TyX K H (.ref a) (.type "list") := by
  rcases h with (h | ⟨o, h⟩) | ⟨o, its, n, hk, hc, _⟩
  · exact .base (.lst h)
  · exact .base (.frz h)
  · exact .kList hk hc
theorem g_isi {K : PySem.W.Frag} {H : Hp} {Q : VK} {x : V} {n : String} {t : Value} {b : Bool} (ty : TyX K H x t) (e : PySem.W.kitOne K t (.type n) = some b) (q : Q (.bl b) H) : rIsi K [x, .ty n] H Q := ⟨x, .ty n, t, _, b, rfl, .ty n, ty, e, q⟩
theorem g_yes {σ : St} {H : Hp} {QB : Bool → Hp → Prop} (q : QB true H) : tYes σ H QB := q
theorem g_listL {K : PySem.W.Frag} {H : Hp} {Q : VK} {p : Addr} {ys : List V} (h : SqL K H p ys) (q : ∀ l, H l = none → Q (.ref l) (upd H l (.lst ys))) : rListU K [.ref p] H Q := ⟨p, ys, rfl, .inl h, q⟩
theorem g_seqIP {w t u : TS} {c : TT} {D : Ends} {σ : St} {H : Hp} (P : St → Hp → Prop) (hw : ∀ σ H, P σ H → w D σ H) (q : (∀ σ H, P σ H → w D σ H) → c σ H fun b H1 => if b = true then t { D with nx := w D } σ H1 else u { D with nx := w D } σ H1) : tSeq (tIfS c t u) w D σ H := q hw
theorem Mu.ofSame {M : List Addr} {R H H' : Hp} (h : Same R H) (s : Same H H') : Mu M R H H' := ⟨⟨Same.refl _, h.trans s, fun a o _ e => s a o e, fun _ _ _ m => m, fun a o e => ⟨o, s a o e⟩⟩⟩
/-- what a call leaves, as newM tells it -/
theorem keep_ex {R H H' : Hp} (h : Same R H) (s : Same H H') : Mu [] R H H' ∧ Same R H' := ⟨.ofSame h s, h.trans s⟩
theorem fresh_ex {R H : Hp} {p : Addr} (h : Same R H) (n : H p = none) : Free H p ∧ R p = none := ⟨n, h.free n⟩
/-! ### loops over tuples; unpacking -/
section
variable {K : PySem.W.Frag} {σ : St} {H : Hp} {te : TE} {u : TS} {D : Ends}
def TsW (K : PySem.W.Frag) (x : V) (H : Hp) (R : It → Hp → Prop) : Prop := ∃ a, x = .ref a ∧ (∃ xs, SqT K H a xs) ∧ R (Itt K a) H
theorem g_iTup {R : It → Hp → Prop} (q : te σ H fun x H1 => TsW K x H1 R) : iTup K te σ H R := q
theorem g_TsW {R : It → Hp → Prop} {a : Addr} {xs : List V} (h : SqT K H a xs) (q : R (Itt K a) H) : TsW K (.ref a) H R := ⟨a, rfl, ⟨xs, h⟩, q⟩
theorem g_asgT {n : Nat} {ts : TGs} (q : te σ H fun x H1 => gTup K n ts x σ H1 D.nx) : tAsg te (gTup K n ts) D σ H := q
theorem g_seqT {n : Nat} {ts : TGs} (q : te σ H fun x H1 => gTup K n ts x σ H1 fun σ2 H2 => u D σ2 H2) : tSeq (tAsg te (gTup K n ts)) u D σ H := q
theorem g_gTup {n : Nat} {ts : TGs} {a : Addr} {xs : List V} {QG : St → Hp → Prop} (h : SqT K H a xs) (e : xs.length = n) (q : ts xs σ H QG) : gTup K n ts (.ref a) σ H QG := ⟨a, xs, rfl, h, e, q⟩
theorem g_gCons {t : TG} {ts : TGs} {v : V} {r : List V} {QG : St → Hp → Prop} (q : t v σ H fun σ' H' => ts r σ' H' QG) : gCons t ts (v :: r) σ H QG := ⟨v, r, rfl, q⟩
theorem g_gNil {QG : St → Hp → Prop} (q : QG σ H) : gNil [] σ H QG := ⟨rfl, q⟩
end
/-- what stands behind an if, told once (N: kept closed so that a walk stops there) -/
theorem g_seqIN {w t u : TS} {c : TT} {D : Ends} {σ : St} {H : Hp} (P : St → Hp → Prop) (hw : ∀ σ H, P σ H → w D σ H) (q : ∀ N : St → Hp → Prop, (∀ σ H, P σ H → N σ H) → c σ H fun b H1 => if b = true then t { D with nx := N } σ H1 else u { D with nx := N } σ H1) : tSeq (tIfS c t u) w D σ H := q _ hw
/-- the same of any first statement -/
theorem g_seqN {w t : TS} {D : Ends} {σ : St} {H : Hp} (P : St → Hp → Prop) (hw : ∀ σ H, P σ H → w D σ H) (q : ∀ N : St → Hp → Prop, (∀ σ H, P σ H → N σ H) → t { D with nx := N } σ H) : tSeq t w D σ H := q _ hw
theorem rep_one (c : Int) (k : Nat) : (List.replicate k [V.int c]).flatten = (List.replicate k c).map V.int := by
  induction k with
  | zero => rfl
  | succ k ih => rw [List.replicate_succ, List.flatten_cons, ih]; rfl
theorem g_repZ {H : Hp} {Q : VK} {p : Addr} {c k : Int} (h : H p = some (.lst [.int c])) (h1 : -100000 ≤ k) (h2 : k ≤ 100000) (q : ∀ p, H p = none → Q (.ref p) (upd H p (.lst ((List.replicate k.toNat c).map V.int)))) : rMulU (.ref p) (.int k) H Q :=
  g_rep h (by omega) (by omega) (by have z : sizeLine = 16777216 := sizeLine_eq; rw [z]; simp; omega) (by rw [rep_one]; exact q)
theorem g_catI {K : PySem.W.Frag} {H : Hp} {Q : VK} {a b : Addr} {l m : List Int} (h : H a = some (.lst (l.map V.int))) (g : H b = some (.lst (m.map V.int))) (z : l.length + m.length ≤ 100000) (q : ∀ p, H p = none → Q (.ref p) (upd H p (.lst ((l ++ m).map V.int)))) : rAddU K (.ref a) (.ref b) H Q :=
  g_cat h g (by have z' : sizeLine = 16777216 := sizeLine_eq; rw [z']; simp; omega) (by rw [← List.map_append]; exact q)
theorem call_ex {R H H' : Hp} {p : Addr} (h : Same R H) (s : Same H H') (n : H p = none) : Free H p ∧ Mu [] R H H' ∧ R p = none ∧ Same R H' := ⟨n, .ofSame h s, h.free n, h.trans s⟩
theorem made_same {H : Hp} {x dx C : Addr} (h1 : H x = none) (h2 : H dx = none) : Same H (upd (upd H dx (.own x)) x (.ins C dx [])) := fun b o e => by
  rw [upd_ne (ne_of_none e h1), upd_ne (ne_of_none e h2)]; exact e
/-- what is changed and was not there may be left out -/
theorem Gr.forget {M M' : List Addr} {R H R1 H1 : Hp} (a : Gr M' R H R1 H1) (h : ∀ x ∈ M', x ∉ M → H x = none) : Gr M R H R1 H1 := ⟨a.rr, a.rh, fun c o m e => a.hh c o (fun z => by rw [h c z m] at e; cases e) e, a.fr, a.th⟩
/-! ### all that is there but the list at b is read for ever -/
def wo (H : Hp) (b : Addr) : Hp := fun a => if a = b then none else H a
theorem wo_self {H : Hp} {b : Addr} : wo H b b = none := if_pos rfl
theorem wo_same {H : Hp} {b : Addr} : Same (wo H b) H := fun a o e => by unfold wo at e; split at e; cases e; exact e
theorem same_wo {R H : Hp} {b : Addr} (h : Same R H) (n : R b = none) : Same R (wo H b) := fun a o e => by
  unfold wo
  rw [if_neg (fun z => by rw [z, n] at e; cases e)]
  exact h _ _ e
theorem rd_wo {H : Hp} {a b : Addr} {l xs : List V} (hb : H b = some (.lst l)) (h : Rd H a (.tup xs)) : Rd (wo H b) a (.tup xs) := by
  have : a ≠ b := by
    rintro rfl
    rcases h with h | ⟨o, h⟩ <;> rw [hb] at h <;> cases h
  unfold Rd wo
  rw [if_neg this]
  exact h
theorem sqT_wo {K : PySem.W.Frag} {H : Hp} {a b : Addr} {l xs : List V} (hb : H b = some (.lst l)) (h : SqT K H a xs) : SqT K (wo H b) a xs := by
  rcases h with h | h
  · exact .inl (rd_wo hb h)
  · exact .inr h
mutual
def tupOnly : PyData → Bool
  | .none | .bool _ | .int _ | .str _ => true
  | .tuple ds => tupOnlyAll ds
  | .list _ | .dict _ => false
def tupOnlyAll : List PyData → Bool
  | [] => true
  | d :: ds => tupOnly d && tupOnlyAll ds
end
mutual
theorem dp_wo {K : PySem.W.Frag} {H : Hp} {b : Addr} {l : List V} (hb : H b = some (.lst l)) : ∀ {d : PyData} {v : V}, tupOnly d = true → Dp K H v d → Dp K (wo H b) v d
  | .none, _, _, h => by cases h; exact .non
  | .bool b, _, _, h => by cases h; exact .bl b
  | .int i, _, _, h => by cases h; exact .int i
  | .str x, _, _, h => by cases h; exact .str x
  | .tuple ds, _, t, h => by cases h with | tup p q => exact .tup (sqT_wo hb p) (dpAll_wo hb (by simpa [tupOnly] using t) q)
  | .list _, _, t, _ => by simp [tupOnly] at t
  | .dict _, _, t, _ => by simp [tupOnly] at t
theorem dpAll_wo {K : PySem.W.Frag} {H : Hp} {b : Addr} {l : List V} (hb : H b = some (.lst l)) : ∀ {ds : List PyData} {vs : List V}, tupOnlyAll ds = true → DpAll K H vs ds → DpAll K (wo H b) vs ds
  | [], _, _, h => by cases h; exact .nil
  | d :: ds, _, t, h => by
    have t' : tupOnly d = true ∧ tupOnlyAll ds = true := by simpa [tupOnlyAll] using t
    cases h with | cons p q => exact .cons (dp_wo hb t'.1 p) (dpAll_wo hb t'.2 q)
end
theorem tupOnly_ints : ∀ l : List Int, tupOnlyAll (l.map PyData.int) = true
  | [] => by simp [tupOnlyAll]
  | _ :: r => by simp [tupOnlyAll, tupOnly, tupOnly_ints r]
/-! ### what can be compared -/
def LaD (d : PyData) (n : Nat) : Prop := d.canLay0 = true ∧ d.depth ≤ n
theorem laAll {n : Nat} : ∀ (l : List PyData), (∀ d ∈ l, LaD d n) → PyData.canLayAll0 l = true ∧ PyData.depthAll l ≤ n
  | [], _ => ⟨by simp [PyData.canLayAll0], by simp [PyData.depthAll]⟩
  | d :: r, h => by
    obtain ⟨a, b⟩ := laAll r fun d m => h d (List.mem_cons_of_mem _ m)
    obtain ⟨c, e⟩ := h d List.mem_cons_self
    exact ⟨by rw [PyData.canLayAll0, c, a]; rfl, by rw [PyData.depthAll]; omega⟩
theorem la_int {i : Int} {n : Nat} : LaD (.int i) n := ⟨by simp [PyData.canLay0], by simp [PyData.depth]⟩
theorem la_non {n : Nat} : LaD .none n := ⟨by simp [PyData.canLay0], by simp [PyData.depth]⟩
theorem la_bl {i : Bool} {n : Nat} : LaD (.bool i) n := ⟨by simp [PyData.canLay0], by simp [PyData.depth]⟩
theorem la_lst {l : List PyData} {n : Nat} (h : ∀ d ∈ l, LaD d n) : LaD (.list l) (n + 1) := ⟨by rw [PyData.canLay0]; exact (laAll l h).1, by rw [PyData.depth]; have := (laAll l h).2; omega⟩
theorem la_tup {l : List PyData} {n : Nat} (h : ∀ d ∈ l, LaD d n) : LaD (.tuple l) (n + 1) := ⟨by rw [PyData.canLay0]; exact (laAll l h).1, by rw [PyData.depth]; have := (laAll l h).2; omega⟩
theorem la_ints {l : List Int} {n : Nat} : ∀ d ∈ l.map PyData.int, LaD d n := fun d h => by obtain ⟨i, _, rfl⟩ := List.mem_map.mp h; exact la_int
theorem la_up {d : PyData} {n m : Nat} (h : LaD d n) (z : n ≤ m) : LaD d m := ⟨h.1, Nat.le_trans h.2 z⟩
theorem la_non' {n : Nat} : ∀ d ∈ ([] : List PyData), LaD d n := fun _ h => nomatch h
theorem la_cons {d : PyData} {r : List PyData} {n : Nat} (a : LaD d n) (b : ∀ d ∈ r, LaD d n) : ∀ e ∈ d :: r, LaD e n := fun e h => by
  rcases List.mem_cons.mp h with rfl | h
  · exact a
  · exact b e h
theorem la_shaped {d : PyData} {n : Nat} (h : LaD d n) (z : n ≤ 60 := by decide) : PySem.SeqAt.shaped d = true := by
  unfold PySem.SeqAt.shaped
  rw [h.1, Bool.true_and, decide_eq_true_eq]
  have := h.2
  omega
theorem clean_ints : ∀ l : List Int, cleanAll (l.map PyData.int) = true
  | [] => rfl
  | _ :: r => by rw [List.map_cons, cleanAll, clean, clean_ints r]; rfl
theorem eqv_same {d : PyData} (h : clean d = true) : PyData.eqv d d = true := (eqv_iff h h).mpr rfl
theorem eqv_dec {d e : PyData} (h : clean d = true) (g : clean e = true) {b : Bool} (x : b = true ↔ d = e) : PyData.eqv d e = b := by
  have := eqv_iff h g
  cases b <;> simp_all
theorem eqv_bls : ∀ l m : List Bool, PyData.eqvAll (l.map PyData.bool) (m.map PyData.bool) = decide (l = m)
  | [], [] => by simp [PyData.eqvAll]
  | [], _ :: _ => by simp [PyData.eqvAll]
  | _ :: _, [] => by simp [PyData.eqvAll]
  | a :: r, b :: t => by
    simp only [List.map_cons, PyData.eqvAll, PyData.eqv, eqv_bls r t]
    by_cases h : a = b <;> by_cases h' : r = t <;> simp [h, h']
theorem g_neDa {K : PySem.W.Frag} {H : Hp} {Q : VK} {v w : V} {d e : PyData} (hv : Dp K H v d) (hw : Dp K H w e) (hd : PySem.SeqAt.shaped d = true) (he : PySem.SeqAt.shaped e = true) (hn : (∃ a, v = .ref a) ∨ v = .non) (q : Q (.bl (!PyData.eqv d e)) H) : rNeU K v w H Q := by
  have : rNeD K v w H Q := ⟨d, e, hv, hw, hd, he, q⟩
  rcases hn with ⟨a, rfl⟩ | rfl <;> exact this
theorem g_eqDa {K : PySem.W.Frag} {H : Hp} {Q : VK} {v w : V} {d e : PyData} (hv : Dp K H v d) (hw : Dp K H w e) (hd : PySem.SeqAt.shaped d = true) (he : PySem.SeqAt.shaped e = true) (hn : (∃ a, v = .ref a) ∨ v = .non) (q : Q (.bl (PyData.eqv d e)) H) : rEqU K v w H Q := by
  have : rEqD K v w H Q := ⟨d, e, hv, hw, hd, he, q⟩
  rcases hn with ⟨a, rfl⟩ | rfl <;> exact this
/-! ### slices of rows of ints -/
theorem cut_nat {xs : List V} {lo hi : Nat} (g : hi ≤ xs.length) (h : lo ≤ hi) : cutV xs (some (lo : Int)) (some (hi : Int)) = (xs.drop lo).take (hi - lo) := by
  unfold cutV; rw [HT.sIx_nat, HT.sIx_nat, Nat.min_eq_left (by omega), Nat.min_eq_left (by omega)]
theorem cut_hi {xs : List V} {hi : Nat} (g : hi ≤ xs.length) : cutV xs none (some (hi : Int)) = xs.take hi := by
  unfold cutV; rw [HT.sIx_nat, HT.sIx_none, Nat.min_eq_left g]; rfl
theorem cut_lo {xs : List V} {lo : Nat} (g : lo ≤ xs.length) : cutV xs (some (lo : Int)) none = xs.drop lo := by
  unfold cutV; rw [HT.sIx_nat, HT.sIx_none, Nat.min_eq_left g, ← List.length_drop, List.take_length]
theorem atI_getD {l : List Int} {j : Nat} (h : j < l.length) : atI (l.map V.int) (j : Int) = some (.int (l.getD j 0)) :=
  atI_nat (by rw [List.getElem?_map, List.getElem?_eq_getElem h, List.getD_eq_getElem?_getD, List.getElem?_eq_getElem h]; rfl)
theorem take3 {l : List Int} {j : Nat} (h : j + 3 ≤ l.length) : (l.drop j).take 3 = [l.getD j 0, l.getD (j + 1) 0, l.getD (j + 2) 0] := by
  have g : ∀ i (hi : i < l.length), l[i] = l.getD i 0 := fun i hi => by
    rw [List.getD_eq_getElem?_getD, List.getElem?_eq_getElem hi]; rfl
  have e : l.drop j = l[j] :: l[j + 1] :: l[j + 2] :: l.drop (j + 3) := by
    rw [List.drop_eq_getElem_cons (show j < l.length by omega), List.drop_eq_getElem_cons (show j + 1 < l.length by omega), List.drop_eq_getElem_cons (show j + 1 + 1 < l.length by omega)]
  rw [e, ← g, ← g, ← g]
  rfl
theorem g_slT3 {K : PySem.W.Frag} {H : Hp} {Q : VK} {u : Addr} {l : List Int} {j : Nat} {lo hi : Int} (h : SqT K H u (l.map V.int)) (j0 : 0 < j) (z : j + 3 ≤ l.length) (e1 : lo = (j : Int)) (e2 : hi = (j : Int) + 3)
    (q : ∀ p, H p = none → Q (.ref p) (upd H p (.tup [.int (l.getD j 0), .int (l.getD (j + 1) 0), .int (l.getD (j + 2) 0)]))) : rSlU K (.ref u) (some lo) (some hi) H Q := by
  subst e1
  obtain rfl : hi = ((j + 3 : Nat) : Int) := by omega
  refine g_slT h ?_ ?_
  · rw [HT.sIx_nat, List.length_map]; omega
  · rw [cut_nat (by rw [List.length_map]; omega) (by omega), show j + 3 - j = 3 by omega, ← List.map_drop, ← List.map_take, take3 z]
    exact q
/-- a list stays where another object, which is no list, is written -/
theorem sqL_ins {K : PySem.W.Frag} {R H H1 : Hp} {c x C dx : Addr} {us : List V} {fs : List (Str × V)} (hc : SqL K H c us) (hx : H x = some (.ins C dx fs)) (g : Gr [x] R H R H1) : SqL K H1 c us := by
  rcases hc with hc | hc
  · have cx : c ≠ x := by
      rintro rfl
      rcases hc with hc | ⟨o, hc⟩ <;> rw [hx] at hc <;> cases hc
    rcases hc with hc | ⟨o, hc⟩
    · exact .inl (.inl (g.hh _ _ (by simpa using cx) hc))
    · exact .inl (.inr ⟨o, g.hh _ _ (by simpa using cx) hc⟩)
  · exact .inr hc
/-- a call has returned something fresh, which is read for ever from now on -/
theorem retR {R H H' : Hp} {p : Addr} {o : HO} (h : Same R H) (s : Same H H') (n : H p = none) (e : H' p = some o) : Gr [] R H (upd R p o) H' := by
  have Rn : R p = none := h.free n
  refine ⟨fun b u q => by rw [upd_ne (ne_of_none q Rn)]; exact q, fun b u q => ?_, fun b u _ q => s _ _ q, fun b u q z => by rw [upd_ne (ne_of_none q n)]; exact z, fun b u q => ⟨u, s _ _ q⟩⟩
  by_cases hb : b = p
  · subst hb; rw [upd_same] at q; cases q; exact e
  · rw [upd_ne hb] at q; exact s _ _ (h _ _ q)
/-- slices of a row of ints that is a list -/
theorem g_slLI {K : PySem.W.Frag} {H : Hp} {Q : VK} {u : Addr} {l : List Int} {lo hi : Int} {i j : Nat} (h : SqL K H u (l.map V.int)) (e1 : lo = (i : Int)) (e2 : hi = (j : Int)) (ij : i ≤ j) (z : j ≤ l.length)
    (q : ∀ p, H p = none → Q (.ref p) (upd H p (.lst (((l.drop i).take (j - i)).map V.int)))) : rSlU K (.ref u) (some lo) (some hi) H Q := by
  subst e1 e2
  refine g_slL h ?_
  rw [cut_nat (by rw [List.length_map]; omega) ij, ← List.map_drop, ← List.map_take]
  exact q
theorem g_slLlo {K : PySem.W.Frag} {H : Hp} {Q : VK} {u : Addr} {l : List Int} {lo : Int} {i : Nat} (h : SqL K H u (l.map V.int)) (e1 : lo = (i : Int)) (z : i ≤ l.length)
    (q : ∀ p, H p = none → Q (.ref p) (upd H p (.lst ((l.drop i).map V.int)))) : rSlU K (.ref u) (some lo) none H Q := by
  subst e1
  refine g_slL h ?_
  rw [cut_lo (by rw [List.length_map]; omega), ← List.map_drop]
  exact q
theorem g_slLhi {K : PySem.W.Frag} {H : Hp} {Q : VK} {u : Addr} {l : List Int} {hi : Int} {j : Nat} (h : SqL K H u (l.map V.int)) (e2 : hi = (j : Int)) (z : j ≤ l.length)
    (q : ∀ p, H p = none → Q (.ref p) (upd H p (.lst ((l.take j).map V.int)))) : rSlU K (.ref u) none (some hi) H Q := by
  subst e2
  refine g_slL h ?_
  rw [cut_hi (by rw [List.length_map]; omega), ← List.map_take]
  exact q
end Sk

namespace Sk
open PySem L2
/-! ### layouts, blocks, cells: the plain side -/
def partsOf (n z : Int) : Int := (n + z - 1) / z
def lows : Int → Nat → List Int
  | _, 0 => []
  | n, k + 1 => n % 256 :: lows (n / 256) k
@[simp] theorem lows_len : ∀ (n : Int) (k : Nat), (lows n k).length = k
  | _, 0 => rfl
  | n, k + 1 => by rw [lows, List.length_cons, lows_len]
def lowsRest : Int → Nat → Int
  | n, 0 => n
  | n, k + 1 => lowsRest (n / 256) k
theorem lows_succ : ∀ (n : Int) (k : Nat), lows n (k + 1) = lows n k ++ [lowsRest n k % 256]
  | n, 0 => rfl
  | n, k + 1 => by rw [lows, lows_succ (n / 256) k, lows, List.cons_append, lowsRest]
theorem lowsRest_succ : ∀ (n : Int) (k : Nat), lowsRest n (k + 1) = lowsRest n k / 256
  | n, 0 => rfl
  | n, k + 1 => by rw [lowsRest, lowsRest_succ (n / 256) k, lowsRest]
def pairs : List Int → List Int
  | [] => []
  | n :: r => n % 256 :: n / 256 :: pairs r
@[simp] theorem pairs_len : ∀ l : List Int, (pairs l).length = 2 * l.length
  | [] => rfl
  | n :: r => by rw [pairs, List.length_cons, List.length_cons, pairs_len, List.length_cons]; omega
theorem pairs_snoc (n : Int) : ∀ l : List Int, pairs (l ++ [n]) = pairs l ++ [n % 256, n / 256]
  | [] => rfl
  | m :: r => by rw [List.cons_append, pairs, pairs_snoc n r, pairs, List.cons_append, List.cons_append]
theorem map_get {ns : List Int} {i : Nat} {x : V} (h : (ns.map V.int)[i]? = some x) : ∃ n, ns[i]? = some n ∧ x = .int n := by
  rw [List.getElem?_map] at h
  obtain ⟨n, hn, rfl⟩ := Option.map_eq_some_iff.mp h
  exact ⟨n, hn, rfl⟩
theorem take_snoc {ns : List Int} {i : Nat} {n : Int} (h : ns[i]? = some n) : ns.take (i + 1) = ns.take i ++ [n] := by
  rw [List.take_add_one, h]; rfl
structure Lay where
  seg : Int
  blk : Int
  oct : Int
def Lay.payload (L : Lay) : Int := L.blk - 1
def Lay.limit (L : Lay) : Int := (L.seg - 2) * L.payload
def Lay.lastId (L : Lay) : Int := L.limit + L.payload
def Lay.fan (L : Lay) : Int := L.oct / 2
def Lay.region (L : Lay) : Int := partsOf (2 * ((3 + 1) * L.lastId + 3 + 3 + L.seg)) L.oct
def Lay.device (L : Lay) : Int := 2 * L.region + L.seg * L.blk
def Lay.flds (L : Lay) : List (Str × V) := [("segments", .int L.seg), ("segment_blocks", .int L.blk), ("block_size", .int L.oct), ("payload", .int L.payload), ("limit", .int L.limit), ("last_id", .int L.lastId), ("fan", .int L.fan), ("region_blocks", .int L.region), ("device_blocks", .int L.device)]
structure Lay.Ok (L : Lay) : Prop where
  s1 : 4 ≤ L.seg
  s2 : L.seg ≤ 16
  b1 : 16 ≤ L.blk
  b2 : L.blk ≤ 32
  o1 : L.oct = 64 ∨ L.oct = 128 ∨ L.oct = 256
  fits : 16 + 2 * L.payload + partsOf L.lastId 8 ≤ L.oct
theorem oct_in {z : Int} (h : z = 64 ∨ z = 128 ∨ z = 256) : (!inV (.int z) [.int 64, .int 128, .int 256]) = false := by
  rcases h with rfl | rfl | rfl <;> decide
/-- a layout at a, in what is read -/
def LayAt (C : Addr) (H : Hp) (a : Addr) (L : Lay) : Prop := ∃ dx, H a = some (.ins C dx L.flds)
theorem LayAt.mono {C : Addr} {H H' : Hp} {a : Addr} {L : Lay} (h : LayAt C H a L) (s : Same H H') : LayAt C H' a L := let ⟨dx, e⟩ := h; ⟨dx, s _ _ e⟩
/-- a block that is neither a COMMIT nor a MOVE -/
structure Blk where
  kind : Int
  seq : Int
  place : Int
  body : List Int
deriving DecidableEq
def intsD (l : List Int) : PyData := .tuple (l.map PyData.int)
def Blk.d (b : Blk) : PyData := .tuple [.int b.kind, .int b.seq, .int b.place, intsD b.body]
def found (kind : Int) (body : List Int) : List Int := if kind = 3 then body else pairs body
def bodyOf (L : Lay) (kind : Int) (body : List Int) : List Int := found kind body ++ List.replicate (L.oct - ((found kind body).length : Int)).toNat 0
theorem found_len {k : Int} {l : List Int} : (found k l).length ≤ 2 * l.length := by
  unfold found
  split
  · omega
  · rw [pairs_len]; omega
def octs (L : Lay) : Option Blk → List Int
  | none => List.replicate (16 + L.oct).toNat 0
  | some b => (([b.kind] ++ lows b.seq 6 ++ lows b.place 2) ++ List.replicate 7 0) ++ bodyOf L b.kind b.body
def optD : Option Blk → PyData
  | none => .none
  | some b => b.d
/-- the blocks that are told here -/
def BlkOk : Option Blk → Prop
  | none => True
  | some b => 3 ≤ b.kind ∧ b.body.length ≤ 300
theorem dpInts {K : PySem.W.Frag} {H : Hp} {v : V} {l : List Int} (h : Dp K H v (intsD l)) : ∃ t, v = .ref t ∧ SqT K H t (l.map V.int) := by
  obtain ⟨t, us, rfl, ht, hu⟩ := dp_tup h
  refine ⟨t, rfl, ?_⟩
  have : us = l.map V.int := by
    clear ht h
    induction l generalizing us with
    | nil => exact dpAll_nil hu
    | cons n r ih =>
      obtain ⟨v, vs, rfl, hv, hr⟩ := dpAll_cons hu
      rw [dp_int hv, ih _ hr]; rfl
  rw [← this]; exact ht
theorem dpBlk {K : PySem.W.Frag} {H : Hp} {v : V} {b : Blk} (h : Dp K H v b.d) : ∃ t u, v = .ref t ∧ SqT K H t [.int b.kind, .int b.seq, .int b.place, .ref u] ∧ SqT K H u (b.body.map V.int) := by
  obtain ⟨a, us, rfl, hs, hu⟩ := dp_tup h
  obtain ⟨x, us, rfl, hx, hu⟩ := dpAll_cons hu
  obtain ⟨y, us, rfl, hy, hu⟩ := dpAll_cons hu
  obtain ⟨z, us, rfl, hz, hu⟩ := dpAll_cons hu
  obtain ⟨w, us, rfl, hw, hu⟩ := dpAll_cons hu
  obtain rfl := dpAll_nil hu
  obtain ⟨u, rfl, hb⟩ := dpInts hw
  rw [dp_int hx, dp_int hy, dp_int hz] at hs
  exact ⟨a, u, rfl, hs, hb⟩
theorem bodyOf_len {L : Lay} {k : Int} {l : List Int} (h : L.Ok) (hl : l.length ≤ 300) : (bodyOf L k l).length ≤ 1000 := by
  have f1 := found_len (k := k) (l := l)
  have o1 := h.o1
  unfold bodyOf
  rw [List.length_append, List.length_replicate]
  omega
def chkStep (t o : Int) : Int := (t * 257 + o + 1) % 4294967291
def chk (L : Lay) (addr : Int) (b : Option Blk) : Int := (octs L b).foldl chkStep (addr + 1)
abbrev Cell := Option (Option Blk × Int)
def cellD : Cell → PyData
  | none => .none
  | some (b, c) => .tuple [optD b, .int c]
def sealOf (L : Lay) (n : Int) : Option Blk → Cell
  | none => none
  | some b => some (some b, chk L n (some b))
theorem optV {K : PySem.W.Frag} {H : Hp} {v : V} {b : Option Blk} (h : Dp K H v (optD b)) : (b = none ∧ v = .non) ∨ ∃ c t, b = some c ∧ v = .ref t := by
  cases b with
  | none => exact .inl ⟨rfl, dp_non h⟩
  | some b => obtain ⟨t, u, rfl, _⟩ := dpBlk h; exact .inr ⟨b, t, rfl, rfl⟩
def whole (L : Lay) (n : Int) : Cell → Bool
  | none => false
  | some (none, _) => false
  | some (some b, c) => decide (c = chk L n (some b))
def CellOk : Cell → Prop
  | none => True
  | some (b, _) => BlkOk b
theorem cellV {K : PySem.W.Frag} {H : Hp} {v : V} {c : Cell} (h : Dp K H v (cellD c)) : (c = none ∧ v = .non) ∨ ∃ b k t u, c = some (b, k) ∧ v = .ref t ∧ SqT K H t [u, .int k] ∧ Dp K H u (optD b) := by
  rcases c with _ | ⟨b, k⟩
  · exact .inl ⟨rfl, dp_non h⟩
  · obtain ⟨t, u, w, rfl, ht, hu, hw⟩ := dpT2 h
    rw [dp_int hw] at ht
    exact .inr ⟨b, k, t, u, rfl, rfl, ht, hu⟩
def lays : List Lay := [⟨4, 16, 64⟩, ⟨4, 16, 64⟩, ⟨5, 16, 64⟩, ⟨4, 16, 128⟩, ⟨4, 17, 64⟩, ⟨4, 16, 256⟩]
theorem lays_ok : ∀ L ∈ lays, L.Ok := by
  intro L h
  simp only [lays, List.mem_cons, List.not_mem_nil, or_false] at h
  rcases h with rfl | rfl | rfl | rfl | rfl | rfl <;> exact ⟨by decide, by decide, by decide, by decide, by decide, by decide⟩
/-- a block that fills its cell -/
structure Full (L : Lay) (b : Blk) : Prop where
  k : 3 ≤ b.kind
  d : b.kind = 3 → (b.body.length : Int) = L.oct
  p : b.kind ≠ 3 → 2 * (b.body.length : Int) = L.oct
  r : b.kind ≠ 3 → ∀ n ∈ b.body, 0 ≤ n ∧ n < 65536
def FullO (L : Lay) : Option Blk → Prop
  | none => True
  | some b => Full L b
def headOf (b : Blk) : List Int := ([b.kind] ++ lows b.seq 6 ++ lows b.place 2) ++ List.replicate 7 0
theorem octs_full {L : Lay} {b : Blk} (h : Full L b) : octs L (some b) = headOf b ++ found b.kind b.body := by
  show headOf b ++ bodyOf L b.kind b.body = _
  have e : (L.oct - ((found b.kind b.body).length : Int)).toNat = 0 := by
    unfold found
    split
    · have := h.d (by assumption); omega
    · have := h.p (by assumption); rw [pairs_len]; omega
  unfold bodyOf
  rw [e, List.replicate_zero, List.append_nil]
theorem pair_low {n : Int} (h : 0 ≤ n ∧ n < 65536) : [n % 256, n / 256] = lows n 2 := by
  have e : n / 256 = n / 256 % 256 := by omega
  show _ = [n % 256, n / 256 % 256]
  rw [← e]
@[simp] theorem headOf_len (b : Blk) : (headOf b).length = 16 := by unfold headOf; simp
end Sk

namespace Sk
open PySem L2
/-! ### labels: the plain side -/
structure Lb where
  gen : Int
  mem : List Int
  bef : List Int
  forks : List Int
deriving DecidableEq
def Lb.d (l : Lb) : PyData := .tuple [.int l.gen, intsD l.mem, intsD l.bef, intsD l.forks]
def lbD : Option Lb → PyData
  | none => .none
  | some l => l.d
theorem dpLb {K : PySem.W.Frag} {H : Hp} {v : V} {l : Lb} (h : Dp K H v l.d) : ∃ t m b f, v = .ref t ∧ SqT K H t [.int l.gen, .ref m, .ref b, .ref f] ∧ SqT K H m (l.mem.map V.int) ∧ SqT K H b (l.bef.map V.int) ∧ SqT K H f (l.forks.map V.int) := by
  obtain ⟨a, us, rfl, hs, hu⟩ := dp_tup h
  obtain ⟨x, us, rfl, hx, hu⟩ := dpAll_cons hu
  obtain ⟨y, us, rfl, hy, hu⟩ := dpAll_cons hu
  obtain ⟨z, us, rfl, hz, hu⟩ := dpAll_cons hu
  obtain ⟨w, us, rfl, hw, hu⟩ := dpAll_cons hu
  obtain rfl := dpAll_nil hu
  obtain ⟨m, rfl, hm⟩ := dpInts hy
  obtain ⟨b, rfl, hb⟩ := dpInts hz
  obtain ⟨f, rfl, hf⟩ := dpInts hw
  rw [dp_int hx] at hs
  exact ⟨a, m, b, f, rfl, hs, hm, hb, hf⟩
theorem mkLb {K : PySem.W.Frag} {H : Hp} {t m b f : Addr} {l : Lb} (ht : SqT K H t [.int l.gen, .ref m, .ref b, .ref f]) (hm : SqT K H m (l.mem.map V.int)) (hb : SqT K H b (l.bef.map V.int)) (hf : SqT K H f (l.forks.map V.int)) : Dp K H (.ref t) l.d :=
  .tup ht (.cons (.int _) (.cons (.tup hm (dpAll_ints _)) (.cons (.tup hb (dpAll_ints _)) (.cons (.tup hf (dpAll_ints _)) .nil))))
theorem lbV {K : PySem.W.Frag} {H : Hp} {v : V} {b : Option Lb} (h : Dp K H v (lbD b)) : (b = none ∧ v = .non) ∨ ∃ c t, b = some c ∧ v = .ref t := by
  cases b with
  | none => exact .inl ⟨rfl, dp_non h⟩
  | some b => obtain ⟨t, m, bb, f, rfl, _⟩ := dpLb h; exact .inr ⟨b, t, rfl, rfl⟩
theorem la_lb (l : Lb) : LaD l.d 2 := la_tup (la_cons la_int (la_cons (la_tup la_ints) (la_cons (la_tup la_ints) (la_cons (la_tup la_ints) la_non'))))
theorem clean_lb (l : Lb) : clean l.d = true := by simp [Lb.d, intsD, clean, cleanAll, clean_ints]
theorem la_lbD (b : Option Lb) : LaD (lbD b) 2 := by cases b with | none => exact la_non | some l => exact la_lb l
theorem clean_lbD (b : Option Lb) : clean (lbD b) = true := by cases b with | none => rfl | some l => exact clean_lb l
theorem la_blk (k : Blk) : LaD k.d 2 := la_tup (la_cons la_int (la_cons la_int (la_cons la_int (la_cons (la_tup la_ints) la_non'))))
theorem clean_blk (k : Blk) : clean k.d = true := by simp [Blk.d, intsD, clean, cleanAll, clean_ints]
theorem ints_inj : ∀ {l m : List Int}, l.map PyData.int = m.map PyData.int → l = m
  | [], [], _ => rfl
  | [], _ :: _, h => by simp at h
  | _ :: _, [], h => by simp at h
  | a :: l, b :: m, h => by
    rw [List.map_cons, List.map_cons, List.cons.injEq] at h
    obtain ⟨h1, h2⟩ := h
    cases h1
    rw [ints_inj h2]
theorem blk_inj {k e : Blk} (h : k.d = e.d) : k = e := by
  obtain ⟨a, b, c, l⟩ := k
  obtain ⟨a', b', c', l'⟩ := e
  simp only [Blk.d, intsD, PyData.tuple.injEq, List.cons.injEq, PyData.int.injEq, and_true] at h
  obtain ⟨h1, h2, h3, h4⟩ := h
  rw [h1, h2, h3, ints_inj h4]
theorem eqv_blk (k e : Blk) : PyData.eqv k.d e.d = decide (k = e) :=
  eqv_dec (clean_blk k) (clean_blk e) (by rw [decide_eq_true_iff]; exact ⟨fun h => by rw [h], blk_inj⟩)
def bit (s : List Int) (i : Int) : Int := if i ∈ s then 1 else 0
def bits (s : List Int) : List Int := [bit s 0, bit s 1, bit s 2]
def fork3 (l : List Int) : List Int := l.flatMap fun n => lows n 3
theorem fork3_len (l : List Int) : (fork3 l).length = 3 * l.length := by
  induction l with
  | nil => rfl
  | cons n r ih =>
    have : fork3 (n :: r) = lows n 3 ++ fork3 r := rfl
    rw [this, List.length_append, ih, lows_len, List.length_cons]; omega
theorem fork3_snoc (l : List Int) (n : Int) : fork3 (l ++ [n]) = fork3 l ++ lows n 3 := by
  unfold fork3
  rw [List.flatMap_append]
  simp
def labelHead (seat : Int) (l : Lb) : List Int := [83, 73, 68, 69] ++ [1, seat] ++ bits l.mem ++ bits l.bef ++ [(l.forks.length : Int)]
def labelFront (seat : Int) (l : Lb) : List Int := labelHead seat l ++ fork3 l.forks
def labelOcts (L : Lay) (seat : Int) (l : Lb) : List Int := labelFront seat l ++ List.replicate (L.oct - ((labelFront seat l).length : Int)).toNat 0
def labelBlk (L : Lay) (seat : Int) (l : Lb) : Blk := ⟨3, l.gen, 0, labelOcts L seat l⟩
theorem labelHead_len (seat : Int) (l : Lb) : (labelHead seat l).length = 13 := rfl
theorem labelFront_len (seat : Int) (l : Lb) : (labelFront seat l).length = 13 + 3 * l.forks.length := by rw [labelFront, List.length_append, fork3_len, labelHead_len]
def numOf : List Int → Int
  | [] => 0
  | n :: r => numOf r * 256 + n
def seats3 (a b c : Int) : List Int := (if a ≠ 0 then [0] else []) ++ (if b ≠ 0 then [1] else []) ++ (if c ≠ 0 then [2] else [])
def memOf (o : List Int) : List Int := seats3 (o.getD 6 0) (o.getD 7 0) (o.getD 8 0)
def befOf (o : List Int) : List Int := seats3 (o.getD 9 0) (o.getD 10 0) (o.getD 11 0)
def forkOf (o : List Int) (i : Nat) : Int := numOf [o.getD (13 + 3 * i) 0, o.getD (14 + 3 * i) 0, o.getD (15 + 3 * i) 0]
def forksOf (o : List Int) : List Int := (List.range (o.getD 12 0).toNat).map (forkOf o)
def readLb (k : Blk) : Lb := ⟨k.seq, memOf k.body, befOf k.body, forksOf k.body⟩
def labelOf (L : Lay) (seat : Int) : Option Blk → Option Lb
  | none => none
  | some k => if k.kind = 3 ∧ k.seq ≠ 0 ∧ seat ∈ memOf k.body ∧ k.body.getD 12 0 ≤ 16 ∧ labelBlk L seat (readLb k) = k then some (readLb k) else none
/-- a block whose body are octets, if it is a block of octets -/
structure OctBlk (L : Lay) (k : Blk) : Prop where
  k3 : 3 ≤ k.kind
  s0 : 0 ≤ k.seq
  len : k.kind = 3 → (k.body.length : Int) = L.oct
  few : k.body.length ≤ 300
  oct : k.kind = 3 → ∀ n ∈ k.body, 0 ≤ n ∧ n < 256
theorem bits_seats {a b c : Int} : bits (seats3 a b c) = [if a ≠ 0 then 1 else 0, if b ≠ 0 then 1 else 0, if c ≠ 0 then 1 else 0] := by
  unfold bits bit seats3
  by_cases ha : a = 0 <;> by_cases hb : b = 0 <;> by_cases hc : c = 0 <;> simp [ha, hb, hc]
theorem mem_seats {a b c : Int} : (0 ∈ seats3 a b c ↔ a ≠ 0) ∧ (1 ∈ seats3 a b c ↔ b ≠ 0) ∧ (2 ∈ seats3 a b c ↔ c ≠ 0) := by
  unfold seats3
  by_cases ha : a = 0 <;> by_cases hb : b = 0 <;> by_cases hc : c = 0 <;> simp [ha, hb, hc]
theorem lows_num {a b c : Int} (ha : 0 ≤ a ∧ a < 256) (hb : 0 ≤ b ∧ b < 256) (hc : 0 ≤ c ∧ c < 256) : lows (numOf [a, b, c]) 3 = [a, b, c] := by
  unfold numOf numOf numOf numOf lows lows lows lows
  have e1 : (((0 * 256 + c) * 256 + b) * 256 + a) % 256 = a := by omega
  have e2 : (((0 * 256 + c) * 256 + b) * 256 + a) / 256 % 256 = b := by omega
  have e3 : (((0 * 256 + c) * 256 + b) * 256 + a) / 256 / 256 % 256 = c := by omega
  rw [e1, e2, e3]
theorem num_low {n : Int} (h : 0 ≤ n ∧ n < 16777216) : lows n 3 = [n % 256, n / 256 % 256, n / 65536] := by
  unfold lows lows lows lows
  have : n / 256 / 256 % 256 = n / 65536 := by omega
  rw [this]
/-- the forks of a body are its octets again -/
theorem fork_take (rest : List Int) (hr : ∀ n ∈ rest, 0 ≤ n ∧ n < 256) : ∀ c : Nat, 3 * c ≤ rest.length → fork3 ((List.range c).map fun i => numOf [rest.getD (3 * i) 0, rest.getD (3 * i + 1) 0, rest.getD (3 * i + 2) 0]) = rest.take (3 * c)
  | 0, _ => by simp [fork3]
  | c + 1, h => by
    have ih := fork_take rest hr c (by omega)
    rw [List.range_succ, List.map_append, List.map_singleton, fork3_snoc, ih]
    have g : ∀ j, j < rest.length → 0 ≤ rest.getD j 0 ∧ rest.getD j 0 < 256 := fun j hj => by
      rw [List.getD_eq_getElem?_getD, List.getElem?_eq_getElem hj]
      exact hr _ (List.getElem_mem hj)
    rw [lows_num (g _ (by omega)) (g _ (by omega)) (g _ (by omega))]
    have t : ∀ j, j < rest.length → rest.take (j + 1) = rest.take j ++ [rest.getD j 0] := fun j hj => by
      rw [List.take_add_one, List.getElem?_eq_getElem hj, List.getD_eq_getElem?_getD, List.getElem?_eq_getElem hj]; rfl
    rw [show 3 * (c + 1) = 3 * c + 1 + 1 + 1 by omega, t _ (by omega), t _ (by omega), t _ (by omega)]
    simp
theorem head13 {o : List Int} (h : 13 ≤ o.length) : ∃ b0 b1 b2 b3 b4 b5 b6 b7 b8 b9 b10 b11 b12 r, o = b0 :: b1 :: b2 :: b3 :: b4 :: b5 :: b6 :: b7 :: b8 :: b9 :: b10 :: b11 :: b12 :: r := by
  match o, h with
  | b0 :: b1 :: b2 :: b3 :: b4 :: b5 :: b6 :: b7 :: b8 :: b9 :: b10 :: b11 :: b12 :: r, _ => exact ⟨_, _, _, _, _, _, _, _, _, _, _, _, _, _, rfl⟩
theorem bit01 {a : Int} (h : 0 ≤ a) : (if a ≠ 0 then (1 : Int) else 0) = a ↔ a ≤ 1 := by split <;> omega
/-- when the block of the label that is read is the block -/
theorem label_iff {L : Lay} (hL : L.Ok) {seat : Int} {k : Blk} (hk : OctBlk L k) (k3 : k.kind = 3) {b0 b1 b2 b3 b4 b5 b6 b7 b8 b9 b10 b11 b12 : Int} {r : List Int} (e : k.body = b0 :: b1 :: b2 :: b3 :: b4 :: b5 :: b6 :: b7 :: b8 :: b9 :: b10 :: b11 :: b12 :: r) (h16 : b12 ≤ 16) :
    labelBlk L seat (readLb k) = k ↔ k.place = 0 ∧ [b0, b1, b2, b3, b4, b5] = [83, 73, 68, 69, 1, seat] ∧ (b6 ≤ 1 ∧ b7 ≤ 1 ∧ b8 ≤ 1 ∧ b9 ≤ 1 ∧ b10 ≤ 1 ∧ b11 ≤ 1) ∧ ∀ n ∈ r.drop (3 * b12.toNat), n = 0 := by
  have ho := hk.oct k3
  have hl := hk.len k3
  have o1 := hL.o1
  rw [e] at ho
  rw [e, show (b0 :: b1 :: b2 :: b3 :: b4 :: b5 :: b6 :: b7 :: b8 :: b9 :: b10 :: b11 :: b12 :: r).length = 13 + r.length by simp only [List.length_cons]; omega] at hl
  have hr : ∀ n ∈ r, 0 ≤ n ∧ n < 256 := fun n hn => ho n (by simp [hn])
  have h12 := ho b12 (by simp)
  have h6 := ho b6 (by simp); have h7 := ho b7 (by simp); have h8 := ho b8 (by simp)
  have h9 := ho b9 (by simp); have hA := ho b10 (by simp); have hB := ho b11 (by simp)
  obtain ⟨c, rfl⟩ := Int.eq_ofNat_of_zero_le h12.1
  have c3 : 3 * c ≤ r.length := by omega
  have hf : forksOf k.body = (List.range c).map fun i => numOf [r.getD (3 * i) 0, r.getD (3 * i + 1) 0, r.getD (3 * i + 2) 0] := by
    rw [e]
    unfold forksOf
    have : (b0 :: b1 :: b2 :: b3 :: b4 :: b5 :: b6 :: b7 :: b8 :: b9 :: b10 :: b11 :: (c : Int) :: r).getD 12 0 = (c : Int) := rfl
    rw [this, Int.toNat_natCast]
    refine List.map_congr_left fun i _ => ?_
    unfold forkOf
    have g : ∀ j, (b0 :: b1 :: b2 :: b3 :: b4 :: b5 :: b6 :: b7 :: b8 :: b9 :: b10 :: b11 :: (c : Int) :: r).getD (13 + j) 0 = r.getD j 0 := fun j => by
      rw [show 13 + j = j + 1 + 1 + 1 + 1 + 1 + 1 + 1 + 1 + 1 + 1 + 1 + 1 + 1 by omega]
      simp only [List.getD_cons_succ]
    rw [g, show 14 + 3 * i = 13 + (3 * i + 1) by omega, show 15 + 3 * i = 13 + (3 * i + 2) by omega, g, g]
  have hm : memOf k.body = seats3 b6 b7 b8 := by rw [e]; rfl
  have hb : befOf k.body = seats3 b9 b10 b11 := by rw [e]; rfl
  have hfl : (forksOf k.body).length = c := by rw [hf]; simp
  have front : labelFront seat (readLb k) = [83, 73, 68, 69, 1, seat, if b6 ≠ 0 then 1 else 0, if b7 ≠ 0 then 1 else 0, if b8 ≠ 0 then 1 else 0, if b9 ≠ 0 then 1 else 0, if b10 ≠ 0 then 1 else 0, if b11 ≠ 0 then 1 else 0, (c : Int)] ++ r.take (3 * c) := by
    unfold labelFront labelHead readLb
    rw [hm, hb, bits_seats, bits_seats, hfl, hf, fork_take r hr c c3]
    rfl
  have fl : (labelFront seat (readLb k)).length = 13 + 3 * c := by rw [labelFront_len, show (readLb k).forks = forksOf k.body from rfl, hfl]
  have key : labelBlk L seat (readLb k) = k ↔ k.place = 0 ∧ labelOcts L seat (readLb k) = k.body := by
    constructor
    · intro h
      rw [← h]
      exact ⟨rfl, by rw [h]; exact congrArg Blk.body h⟩
    · rintro ⟨h1, h2⟩
      obtain ⟨q1, q2, q3, q4⟩ := k
      simp only at k3 h1
      subst k3 h1
      unfold labelBlk
      rw [h2]
      rfl
  rw [key]
  refine and_congr_right fun _ => ?_
  unfold labelOcts
  rw [fl, front, e, show (L.oct - ((13 + 3 * c : Nat) : Int)).toNat = r.length - 3 * c by omega]
  have r2 : r = r.take (3 * c) ++ r.drop (3 * c) := (List.take_append_drop _ _).symm
  have rl : (r.drop (3 * c)).length = r.length - 3 * c := List.length_drop
  rw [Int.toNat_natCast, List.append_assoc]
  have z : r.take (3 * c) ++ List.replicate (r.length - 3 * c) 0 = r ↔ ∀ n ∈ r.drop (3 * c), n = 0 := by
    constructor
    · intro h n hn
      have : List.replicate (r.length - 3 * c) 0 = r.drop (3 * c) := List.append_cancel_left (h.trans r2)
      rw [← this] at hn
      exact List.eq_of_mem_replicate hn
    · intro h
      have : r.drop (3 * c) = List.replicate (r.length - 3 * c) 0 := List.eq_replicate_iff.mpr ⟨rl, h⟩
      rw [← this, List.take_append_drop]
  rw [← z]
  simp only [List.cons_append, List.nil_append, List.cons.injEq, bit01 h6.1, bit01 h7.1, bit01 h8.1, bit01 h9.1, bit01 hA.1, bit01 hB.1, true_and, and_true]
  constructor
  · rintro ⟨a0, a1, a2, a3, a4, a5, a6, a7, a8, a9, aA, aB, aR⟩
    exact ⟨⟨a0.symm, a1.symm, a2.symm, a3.symm, a4.symm, a5.symm⟩, ⟨a6, a7, a8, a9, aA, aB⟩, aR⟩
  · rintro ⟨⟨a0, a1, a2, a3, a4, a5⟩, ⟨a6, a7, a8, a9, aA, aB⟩, aR⟩
    exact ⟨a0.symm, a1.symm, a2.symm, a3.symm, a4.symm, a5.symm, a6, a7, a8, a9, aA, aB, aR⟩
/-! which label goes ahead -/
def newer (l : Lb) : Option Lb → Bool
  | none => true
  | some o => if l.gen = o.gen then decide (l.mem.length < o.mem.length) else decide (l.gen > o.gen)
def pickLb (best x : Option Lb) : Option Lb := match x with
  | none => best
  | some l => if newer l best = true then some l else best
def newestOf (ls : List (Option Lb)) : Option Lb := ls.foldl pickLb none
theorem only_blk (k : Blk) : tupOnly k.d = true := by simp [Blk.d, tupOnly, tupOnlyAll, intsD, tupOnly_ints]
theorem lows_oct : ∀ (n : Int) (c : Nat), ∀ x ∈ lows n c, 0 ≤ x ∧ x < 256
  | _, 0, x, h => by rw [lows] at h; exact absurd h List.not_mem_nil
  | n, c + 1, x, h => by
    rw [lows] at h
    rcases List.mem_cons.mp h with rfl | h
    · omega
    · exact lows_oct _ c x h
theorem octblk_label {L : Lay} (hL : L.Ok) {seat : Int} (h0 : 0 ≤ seat) (h3 : seat < 3) {l : Lb} (g : 0 ≤ l.gen) (few : l.forks.length ≤ 16) : OctBlk L (labelBlk L seat l) := by
  have o1 := hL.o1
  have fl := labelFront_len seat l
  have ll : ((labelOcts L seat l).length : Int) = L.oct := by
    unfold labelOcts
    rw [List.length_append, List.length_replicate]
    omega
  refine ⟨Int.le_refl 3, g, fun _ => ll, by show (labelOcts L seat l).length ≤ 300; omega, fun _ n hn => ?_⟩
  have hb : ∀ s i, 0 ≤ bit s i ∧ bit s i < 256 := fun s i => by unfold bit; split <;> omega
  change n ∈ labelOcts L seat l at hn
  unfold labelOcts labelFront at hn
  rcases List.mem_append.mp hn with hn | hn
  · rcases List.mem_append.mp hn with hn | hn
    · simp only [labelHead, bits, List.cons_append, List.nil_append, List.mem_cons, List.not_mem_nil, or_false] at hn
      rcases hn with rfl | rfl | rfl | rfl | rfl | rfl | rfl | rfl | rfl | rfl | rfl | rfl | rfl
      all_goals first | omega | exact hb _ _
    · unfold fork3 at hn
      obtain ⟨o, _, ho⟩ := List.mem_flatMap.mp hn
      exact lows_oct _ _ _ ho
  · rw [List.eq_of_mem_replicate hn]; decide
def startsI (j : Nat) : List Int := (List.range j).map fun (i : Nat) => 13 + 3 * (i : Int)
@[simp] theorem startsI_len (j : Nat) : (startsI j).length = j := by simp [startsI]
theorem startsI_succ (j : Nat) : startsI (j + 1) = startsI j ++ [13 + 3 * (j : Int)] := by simp [startsI, List.range_succ]
theorem startsI_get {n j : Nat} {x : Int} (h : (startsI n)[j]? = some x) : j < n ∧ x = 13 + 3 * (j : Int) := by
  obtain ⟨hl, rfl⟩ := List.getElem?_eq_some_iff.mp h
  rw [startsI_len] at hl
  exact ⟨hl, by simp [startsI]⟩
end Sk

namespace Sk
open PySem L2
/-! ### an own exception class whose __init__ begins with super().__init__("..") -/
section
open PySem.W PySem.Calls PyProof.Rows PySem.OEX NdefX
open L2H (Hot1 RoomH FnH PinOk HotC)
variable {CX : CXT} {P : Program} {w : World} {K : PySem.W.Frag} {mg : Str → Option Value} {base : Heap} {k : Nat} {f C c cc : Addr} {name qual msg : Str} {params : Arguments} {rest : List Stmt} {scope : Scope}
  {dV kV doc pm ct oc ccl cl : Value} {an od cdd cld : Option Addr} {osl ccs csl : Array (Option Value)} {vs2 : Array Value} {file : Str} {tf : Tok} {cd : ClassData} {ar : Arg} {N ps : List Str} {sp : Sp} {p0 p1 p2 p3 p4 p5 : Pos}
/-- the written facts of such a class -/
structure SupC (P : Program) (K : PySem.W.Frag) (mg : Str → Option Value) (C c cc : Addr) : Prop where
  cell : ∃ cl cld csl, K.lookup cc = some ⟨cl, cld, .cell (some (.ref C)), csl⟩
  code : ∃ ccl cdd vs2 ccs file tf, K.lookup c = some ⟨ccl, cdd, .fields vs2, ccs⟩ ∧ vs2[2]? = some (.str file tf) ∧ ((P.main.file : Str) == file) = true
  top : (P.main.scope.names.lookup ("super" : Str)).isSome = false
  sup : mg "super" = none
  isC : ∃ cd, clsIn K C = some cd
  sub : mroIn K C (.ref C) = some true
  any : nsIn K cStatics "thirdparty.any" = some none
  init : ks_superIn K C C "__init__" = some (some (.builtin "ValueError.__init__"))
  ve : subIn K (.ref C) (.type "ValueError") = some true
  oex : OexC K C
abbrev supSt (msg : Str) (j : Nat) (p0 p1 p2 p3 p4 p5 : Pos) : Stmt := .Expr (.Call (.Attribute (.Call (.Name "super" p0) [] [] p1) "__init__" p2) [.Constant (.str msg) j p3] [] p4) p5
theorem call_wrap {prog : Program} {A : Around} {E : Value → Shared → Prop} {h : Heap} {g : Array GenState} {d : Drawn} {t : Nat} {os : OsState} {u a t0 : Addr} {rs : List Value} {Q : Value → Shared → Prop}
    {nm q : Str} {N : Addr} {bs bm : List Value} {hd : Bool} {sn : List Str} {sub : List Value} {ab : Bool} {col : Option Bool} {dd : Option Addr} {k0 k1 k2 k3 k5 : Option Value}
    (hu : h.get? u = some (kxs_mw "ValueError.__init__" a)) (hC : h.get? C = some (excClassObj nm q C N bs bm hd sn sub ab col dd k0 k1 k2 k3 k5 "ValueError.__new__")) (ha : h.get? a = some (excRec (.ref C) t0 none .none .none (.bool false))) (hz : rs.length ≤ sizeLine)
    (hq : ∀ h' t1, (∀ b o, b ≠ a → h.get? b = some o → h'.get? b = some o) → h'.get? a = some (excRec (.ref C) t1 none .none .none (.bool false)) → Q .none ⟨h', g, d, t, os⟩) : wpAny (model prog w) A (call (.ref u) rs) Q E ⟨h, g, d, t, os⟩ := by
  have FB := F.excBase_ValueError
  apply wpAny_call
  apply codeAny_of_tree
  change wpAny _ A.in1 (callAny (.ref u) ⟨rs, []⟩) _ _ _
  unfold callAny
  apply wpAny_bind
  apply wpAny_load hu
  simp only [kxs_mw, show ((Value.type "method-wrapper" == Value.type "method" || Value.type "method-wrapper" == Value.type "builtin_function_or_method") || Value.type "method-wrapper" == Value.type "method-wrapper") = true from by decide, if_true]
  apply KFB.if_so (by decide)
  apply wpAny_bind
  refine check_bound_init FB.toExcCallFacts hC ha rfl (wpAny_bind (wpAny_pure (wpAny_pure ⟨plainId_quiet FB.init.plain _, ?_⟩)))
  refine codeAny_builtin FB.initEntry ?_
  exact exc_init_tree ha hz fun h' k x _ => hq h' _ k x
theorem super_core {j : Nat} {X : Cx} {σ : L2.St} {H : Hp} {A' : Around} {Q' : Flow → Shared → Prop} {E' : Value → Shared → Prop} {h₁ : Heap} {g : Array GenState} {d : Drawn} {tk : Nat} {os : OsState} {L a : Addr} {m mb : Str → Option Value} (Z : SupC P K mg C c cc)
    (lk : K.lookup f = some ⟨oc, od, .func (PySem.W.fnX name qual params (supSt msg j p0 p1 p2 p3 p4 p5 :: rest) scope [("__class__", cc)] dV kV doc pm an (.ref c) ct), osl⟩)
    (S : NScope N ps ["__class__"] scope) (hp : (params.posonlyargs ++ params.args).head? = some ar)
    (hks : scope.names.lookup ("super" : Str) = some .globalImplicit) {pl : Addr → Sem Bool}
    (he : ∀ L : Addr, eval (.Call (.Attribute (.Call (.Name "super" p0) [] [] p1) "__init__" p2) [.Constant (.str msg) j p3] [] p4) (envX qual scope L f (.ref c) [("__class__", cc)]) = (do
      let ov ← attributeBase (.Call (.Name "super" p0) [] [] p1) "__init__" (envX qual scope L f (.ref c) [("__class__", cc)]) (eval (.Call (.Name "super" p0) [] [] p1) (envX qual scope L f (.ref c) [("__class__", cc)]))
      standAt p2.atName
      let (g, first) ← holding [ov] (getMethod ov "__init__" (pl L))
      callWith p4 g first (backTo p4 (starEach [.Constant (.str msg) j p3] (envX qual scope L f (.ref c) [("__class__", cc)]))) []))
    (hsw : ∀ L : Addr, swapsWith (.Call (.Attribute (.Call (.Name "super" p0) [] [] p1) "__init__" p2) [.Constant (.str msg) j p3] [] p4) none p5.line (envX qual scope L f (.ref c) [("__class__", cc)]) = pure false)
    (KX1 : K.In h₁) (hns : h₁.Ns L m) (hself : m ar.arg = some (.ref a)) (selfL : scope.names.lookup ar.arg = some .local) (hg : h₁.Ns mainGlobals mg) (hb1 : h₁.Ns builtinsNs mb) (hb2 : ∀ x : Str, x ≠ "__name__" → mb x = bootBuiltins x)
    (I : Inv X [] σ H ⟨h₁, g, d, tk, os⟩) (ha : H a = some (exo a C none))
    (fin : ∀ h' tk', Inv X [] σ H ⟨h', g, d, tk', os⟩ → wpAny (model P w) A' (execs rest (envX qual scope L f (.ref c) [("__class__", cc)])) Q' E' ⟨h', g, d, tk', os⟩) :
    PySem.wpAt (model P w) A' (.func (supSt msg j p0 p1 p2 p3 p4 p5 :: rest) (envX qual scope L f (.ref c) [("__class__", cc)])) (execs (supSt msg j p0 p1 p2 p3 p4 p5 :: rest) (envX qual scope L f (.ref c) [("__class__", cc)])) Q' E' ⟨h₁, g, d, tk, os⟩ := by
  obtain ⟨cl, cld, csl, hcell⟩ := Z.cell
  obtain ⟨ccl, cdd, vs2, ccs, file, tf, hcode, hvs, hfile⟩ := Z.code
  have clsF : scope.names.lookup ("__class__" : Str) = some .free := S.frk _ (List.mem_singleton.mpr rfl)
  obtain ⟨cd, hC⟩ := Z.isC
  obtain ⟨oD, hD1, hD2⟩ : ∃ oD, h₁.get? C = some oD ∧ oD.data = .cls cd := by
    unfold clsIn at hC
    split at hC
    · cases hC; exact ⟨_, KX1 _ _ (by assumption), rfl⟩
    · cases hC
  obtain ⟨t1, hx⟩ := exo_at I.hok ha
  refine ks_wpAt_execs_cons (ks_wpAt_Expr_any (ks_wpAt_MethodCall (ks_wpAt_super_base (ar := ar) hks clsF (by decide) rfl (KX1 _ _ lk) rfl hp rfl (KX1 _ _ hcode) rfl hvs hfile Z.top ?_) (he _)) (hi := by unfold interactive; simp only [S.kind]; rfl) (hs := hsw _))
  refine ks_loadName_global S.kind hks (Calls.loadGlobal_builtin hg Z.sup hb1 ((hb2 _ (by decide)).trans (show bootBuiltins ("super" : Str) = some (.type "super") by kernel_rfl)) ⟨rfl, ?_⟩)
  refine wpAny_loadName_free S.kind clsF rfl ⟨_, KX1 _ _ hcell, rfl⟩ ?_
  refine wpAny_loadName_local S.kind selfL hns hself ?_
  refine ks_wpAny_isType_cls hD1 hD2 ⟨rfl, ?_⟩
  refine ks_wpAny_call_super hD1 hD2 hx rfl (fun c e => by cases e) (looks_mroIn KX1 Z.sub) (fun h2 e2 k2 => ?_)
  have KX2 : K.In h2 := KX1.keeps k2
  have hx2 := k2 _ _ hx
  have I0 : PySem.W.InstAt h2 a _ C none := ⟨hx2, rfl, rfl, trivial⟩
  have hm := Z.init
  unfold ks_superIn at hm
  rw [hC, Option.bind_some] at hm
  refine kxs_getMethod kxs_ValueError e2 (looks_opaque KX2 Z.any) (l₀ := cd.mro) (fun A Q E s k q => wpAny_bind ((looks_clsIn KX2 hC) A _ E s k (wpAny_pure q))) rfl KX2 hm (I0.type.andThen (looks_subIn KX2 Z.ve)) (ks_ne KX2 I0 hC) (by decide) ?_
  have k3 : ∀ b o, h2.get? b = some o → (h2.push (kxs_mw "ValueError.__init__" a)).get? b = some o := fun b o e => Heap.get?_push_of_some _ e
  have hu3 : (h2.push (kxs_mw "ValueError.__init__" a)).get? h2.objs.size = some (kxs_mw "ValueError.__init__" a) := Heap.get?_push_size _ rfl
  have hx3 := k3 _ _ hx2
  generalize h2.push (kxs_mw "ValueError.__init__" a) = h3 at k3 hu3 hx3 ⊢
  have KX3 : K.In h3 := KX2.keeps k3
  obtain ⟨nm, q1, N1, bs, bm, sn, sub, ab, col, dd, k0, k1, k2', k3', k5, hK, hbm⟩ := Z.oex.cls
  have hK3 := KX3 _ _ hK
  show wpAny _ _ (callWith p4 (.ref h2.objs.size) [] ((false, eval (.Constant (.str msg) j p3) (envX qual scope L f (.ref c) [("__class__", cc)])) :: []) []) _ _ _
  refine kxs_callWith (i := "ValueError.__init__") (x := a) rfl (evalArgs_plain (spliced_cons (Constant_str (k := j) (pos := p3) (spliced_nil ⟨hu3, ?_⟩))))
  refine call_wrap hu3 hK3 hx3 (show (1 : Nat) ≤ sizeLine by decide) fun h4 t2 k4 hx4 => ?_
  have I3 := (I.kept (t' := tk + 1 + 1) k2).kept (t' := tk + 1 + 1) k3
  have J := I3.write (t' := tk + 1 + 1) (x := a) (e := a) (o := exo a C none) (by rw [ha]; exact True.intro) (.inl rfl) k4 ⟨_, hx4⟩ (exo_ok hx4)
  rw [show upd H a (exo a C none) = H from funext fun b => by
    by_cases hb : b = a
    · rw [hb, upd_same, ha]
    · rw [upd_ne hb]] at J
  exact wpAt_of_wpAny (fin _ _ J)
theorem sup_cells {s : Shared} {H : Hp} {A : Around} {outer : List Env} (Z : SupC P K mg C c cc) (e0 : Env0 P w K mg base A outer s H) : CellsAt [("__class__", cc)] ["__class__"] [none] s.heap H := by
  obtain ⟨cl, cld, csl, hcell⟩ := Z.cell
  have one : ∀ y d, ([(("__class__" : Str), cc)] : List (Str × Addr)).lookup y = some d → y = "__class__" ∧ d = cc := fun y d e => by
    rw [List.lookup_cons] at e
    split at e
    · rename_i z; exact ⟨by simpa using z, by injection e with e; exact e.symm⟩
    · cases e
  refine ⟨rfl, fun y d e => ?_, fun x y d e g => (one x d e).1.trans (one y d g).1.symm, fun i y e => ?_⟩
  · obtain ⟨_, rfl⟩ := one y d e
    exact ⟨(e0.bs _ _ (e0.mod.kin _ _ hcell)).2, some (.ref C), _, (e0.bs _ _ (e0.mod.kin _ _ hcell)).1, rfl⟩
  · match i, e with
    | 0, e => cases e; exact ⟨cc, by simp [List.lookup_cons], fun v q => by cases q⟩
    | n + 1, e => simp at e
theorem sup_self {ws : List V} {us : List Value} {a : Addr} (S : NScope N ps ["__class__"] scope) (hps : ps.head? = some ar.arg) (r : Vals (.ref a :: ws) us) : (ps.zip us).reverse.lookup ar.arg = some (.ref a) ∧ scope.names.lookup ar.arg = some .local := by
  have ndP : ps.Nodup := by
    have q := S.nd.sublist (List.take_sublist (ps.length + 1) N)
    rw [show N.take (ps.length + 1) = ps ++ (["__class__"] : List Str) from S.pre] at q
    exact (List.nodup_append.mp q).1
  have h0 : ps[0]? = some ar.arg := by rw [← hps, List.head?_eq_getElem?]
  refine ⟨?_, S.par _ (List.mem_of_getElem? h0)⟩
  obtain ⟨u0, ur, rfl, rfl⟩ : ∃ u0 ur, us = u0 :: ur ∧ u0 = .ref a := by
    cases r with
    | cons x y => exact ⟨_, _, rfl, x⟩
  exact zip_look (i := 0) ndP h0 rfl
/-- the context of such a body where an exception is handled -/
def ncxH (CX : CXT) (P : Program) (w : World) (K : PySem.W.Frag) (mg : Str → Option Value) (base : Heap) (N : List Str) (F : NF) (f : Addr) (A : Around) (outer : List Env) (s : Shared) (H : Hp) (E : XK) (p : Addr × Obj) : Cx :=
  { ncx CX P w K mg base N F f A outer s H E with calm := false, pn := [p] }
theorem fn_super {j : Nat} (Z : SupC P K mg C c cc)
    (lk : K.lookup f = some ⟨oc, od, .func (PySem.W.fnX name qual params (supSt msg j p0 p1 p2 p3 p4 p5 :: rest) scope [("__class__", cc)] dV kV doc pm an (.ref c) ct), osl⟩)
    (hcd : codeIn K (.ref c) qual = true) (S : NScope N ps ["__class__"] scope) (hp : (params.posonlyargs ++ params.args).head? = some ar) (hps : ps.head? = some ar.arg)
    (hks : scope.names.lookup ("super" : Str) = some .globalImplicit) {pl : Addr → Sem Bool}
    (he : ∀ L : Addr, eval (.Call (.Attribute (.Call (.Name "super" p0) [] [] p1) "__init__" p2) [.Constant (.str msg) j p3] [] p4) (envX qual scope L f (.ref c) [("__class__", cc)]) = (do
      let ov ← attributeBase (.Call (.Name "super" p0) [] [] p1) "__init__" (envX qual scope L f (.ref c) [("__class__", cc)]) (eval (.Call (.Name "super" p0) [] [] p1) (envX qual scope L f (.ref c) [("__class__", cc)]))
      standAt p2.atName
      let (g, first) ← holding [ov] (getMethod ov "__init__" (pl L))
      callWith p4 g first (backTo p4 (starEach [.Constant (.str msg) j p3] (envX qual scope L f (.ref c) [("__class__", cc)]))) []))
    (hsw : ∀ L : Addr, swapsWith (.Call (.Attribute (.Call (.Name "super" p0) [] [] p1) "__init__" p2) [.Constant (.str msg) j p3] [] p4) none p5.line (envX qual scope L f (.ref c) [("__class__", cc)]) = pure false)
    (len : ∀ vs H Q E, sp vs H Q E → vs.length = ps.length)
    (hbody : ∀ (A : Around) (outer : List Env) (s : Shared) (H : Hp) (vs : List V) (Q : VK) (E : XK), Room k (A.deeper (envX qual scope s.heap.objs.size f (.ref c) [("__class__", cc)])) → sp vs H Q E →
      ∃ a ws, vs = .ref a :: ws ∧ H a = some (exo a C none) ∧ ∃ t, PSs (ncx CX P w K mg base N ⟨name, qual, params, supSt msg j p0 p1 p2 p3 p4 p5 :: rest, scope, [("__class__", cc)], c⟩ f A outer s H E) rest t ∧
        t { nx := fun _ H' => Q .non H', rt := Q } (startF N vs [none]) H) :
    FnOk P w K mg base CX (k + 1) f (PySem.W.fnX name qual params (supSt msg j p0 p1 p2 p3 p4 p5 :: rest) scope [("__class__", cc)] dV kV doc pm an (.ref c) ct) ps sp := by
  refine ⟨len, fun A outer s H args us vs Q E hr e0 hb r hsp => ?_⟩
  have KX : K.In s.heap := e0.mod.kin.keeps fun b o e => (e0.bs b o e).1
  have hl := len _ _ _ _ hsp
  have cells := sup_cells Z e0
  obtain ⟨a, ws, rfl, ha, t, ht, hq⟩ := hbody A outer s H vs Q E (hr.deeper _) hsp
  obtain ⟨hself, selfL⟩ := sup_self S hps r
  refine ks_codeAny_call_defAt (body := supSt msg j p0 p1 p2 p3 p4 p5 :: rest) hr.depth (KX _ _ lk) rfl (e0.mod.nolimit.keeps fun b o e => (e0.bs b o e).1) (codeRec_of KX hcd) rfl hb S.nocell (fun y hy => S.par y.1 (List.of_mem_zip (show (y.1, y.2) ∈ ps.zip us from hy)).1) (fun h₁ hns kp => ?_) S.co S.gen S.kind
  have I : Inv (ncx CX P w K mg base N ⟨name, qual, params, supSt msg j p0 p1 p2 p3 p4 p5 :: rest, scope, [("__class__", cc)], c⟩ f A outer s H E) [] (startF N (.ref a :: ws) [none]) H { s with heap := h₁, toks := s.toks + (ps.zip us).length } :=
    inv_startN (F := ⟨name, qual, params, supSt msg j p0 p1 p2 p3 p4 p5 :: rest, scope, [("__class__", cc)], c⟩) S hr.hd e0 hl r cells hns kp
  obtain ⟨mb, hb1, hb2⟩ := e0.mod.blt
  have bk : ∀ b o, base.get? b = some o → h₁.get? b = some o := fun b o e => kp _ _ (e0.bs b o e).1
  refine super_core Z lk S hp hks he hsw (KX.keeps kp) hns hself selfL (e0.mod.glob.keeps bk) (hb1.keeps bk) hb2 I ha fun h' tk' J => ?_
  refine wpAny_mono (ht.run [] _ (startF N (.ref a :: ws) [none]) H _ J hq) (fun fl s' hs => ?_) fun e s' hs => hs
  cases fl with
  | ret u => obtain ⟨v, σ', H', J', rv, q⟩ := hs; exact ⟨v, H', J'.os, J'.bare, J'.base, J'.hok, rv, q⟩
  | next => obtain ⟨σ', H', J', q⟩ := hs; exact ⟨.non, H', J'.os, J'.bare, J'.base, J'.hok, rfl, q⟩
  | brk => obtain ⟨_, _, _, q⟩ := hs; exact q.elim
  | cont => obtain ⟨_, _, _, q⟩ := hs; exact q.elim
theorem fn_superH {j : Nat} (Z : SupC P K mg C c cc)
    (lk : K.lookup f = some ⟨oc, od, .func (PySem.W.fnX name qual params (supSt msg j p0 p1 p2 p3 p4 p5 :: rest) scope [("__class__", cc)] dV kV doc pm an (.ref c) ct), osl⟩)
    (hcd : codeIn K (.ref c) qual = true) (S : NScope N ps ["__class__"] scope) (hp : (params.posonlyargs ++ params.args).head? = some ar) (hps : ps.head? = some ar.arg)
    (hks : scope.names.lookup ("super" : Str) = some .globalImplicit) {pl : Addr → Sem Bool}
    (he : ∀ L : Addr, eval (.Call (.Attribute (.Call (.Name "super" p0) [] [] p1) "__init__" p2) [.Constant (.str msg) j p3] [] p4) (envX qual scope L f (.ref c) [("__class__", cc)]) = (do
      let ov ← attributeBase (.Call (.Name "super" p0) [] [] p1) "__init__" (envX qual scope L f (.ref c) [("__class__", cc)]) (eval (.Call (.Name "super" p0) [] [] p1) (envX qual scope L f (.ref c) [("__class__", cc)]))
      standAt p2.atName
      let (g, first) ← holding [ov] (getMethod ov "__init__" (pl L))
      callWith p4 g first (backTo p4 (starEach [.Constant (.str msg) j p3] (envX qual scope L f (.ref c) [("__class__", cc)]))) []))
    (hsw : ∀ L : Addr, swapsWith (.Call (.Attribute (.Call (.Name "super" p0) [] [] p1) "__init__" p2) [.Constant (.str msg) j p3] [] p4) none p5.line (envX qual scope L f (.ref c) [("__class__", cc)]) = pure false)
    (len : ∀ vs H Q E, sp vs H Q E → vs.length = ps.length)
    (hbody : ∀ (A : Around) (outer : List Env) (s : Shared) (H : Hp) (vs : List V) (Q : VK) (E : XK) (p : Addr × Obj), Hot1 A p → RoomH k (A.deeper (envX qual scope s.heap.objs.size f (.ref c) [("__class__", cc)])) → sp vs H Q E →
      ∃ a ws, vs = .ref a :: ws ∧ H a = some (exo a C none) ∧ ∃ t, PSs (ncxH CX P w K mg base N ⟨name, qual, params, supSt msg j p0 p1 p2 p3 p4 p5 :: rest, scope, [("__class__", cc)], c⟩ f A outer s H E p) rest t ∧
        t { nx := fun _ H' => Q .non H', rt := Q } (startF N vs [none]) H) :
    FnH P w K mg base CX (k + 1) f (PySem.W.fnX name qual params (supSt msg j p0 p1 p2 p3 p4 p5 :: rest) scope [("__class__", cc)] dV kV doc pm an (.ref c) ct) ps sp := by
  refine ⟨len, fun A outer s H args us vs Q E p hr hot hpin e0 hb r hsp => ?_⟩
  have KX : K.In s.heap := e0.mod.kin.keeps fun b o e => (e0.bs b o e).1
  have hl := len _ _ _ _ hsp
  have cells := sup_cells Z e0
  obtain ⟨a, ws, rfl, ha, t, ht, hq⟩ := hbody A outer s H vs Q E p hot (hr.deeper _) hsp
  obtain ⟨hself, selfL⟩ := sup_self S hps r
  refine ks_codeAny_call_defAt (body := supSt msg j p0 p1 p2 p3 p4 p5 :: rest) hr.depth (KX _ _ lk) rfl (e0.mod.nolimit.keeps fun b o e => (e0.bs b o e).1) (codeRec_of KX hcd) rfl hb S.nocell (fun y hy => S.par y.1 (List.of_mem_zip (show (y.1, y.2) ∈ ps.zip us from hy)).1) (fun h₁ hns kp => ?_) S.co S.gen S.kind
  have e1 : Env0 P w K mg base { A with handled := none } outer s H := ⟨e0.frames, e0.mod, e0.bs, e0.bsz, e0.funs, e0.frf, e0.hok, e0.bare⟩
  have I1 : Inv (ncx CX P w K mg base N ⟨name, qual, params, supSt msg j p0 p1 p2 p3 p4 p5 :: rest, scope, [("__class__", cc)], c⟩ f { A with handled := none } outer s H E) [] (startF N (.ref a :: ws) [none]) H { s with heap := h₁, toks := s.toks + (ps.zip us).length } :=
    inv_startN (F := ⟨name, qual, params, supSt msg j p0 p1 p2 p3 p4 p5 :: rest, scope, [("__class__", cc)], c⟩) S rfl e1 hl r cells hns kp
  have I : Inv (ncxH CX P w K mg base N ⟨name, qual, params, supSt msg j p0 p1 p2 p3 p4 p5 :: rest, scope, [("__class__", cc)], c⟩ f A outer s H E p) [] (startF N (.ref a :: ws) [none]) H { s with heap := h₁, toks := s.toks + (ps.zip us).length } :=
    ⟨⟨I1.ok.mod, I1.ok.kind, I1.ok.glob, I1.ok.blt, I1.ok.above, I1.ok.inj, I1.ok.has, I1.ok.cab, fun z => Bool.noConfusion (show false = true from z), Around.frames_deeper e0.frames, .inr ⟨rfl, rfl⟩, I1.ok.exf, I1.ok.bs, I1.ok.bsz, I1.ok.noex, I1.ok.exfs, I1.ok.funs, I1.ok.frf⟩,
      I1.os, I1.bare, I1.base, I1.loc, I1.cell, I1.free, I1.freeC, fun q hq => by
        have eq : q = p := by simpa using (show q ∈ [p] ++ ([] : List (Addr × Obj)) from hq)
        rw [eq]
        exact ⟨kp _ _ hpin.get, hpin.free, Nat.ne_of_lt (Heap.lt_size hpin.get), hpin.nofs, hpin.nocell⟩, I1.hok, I1.len⟩
  obtain ⟨mb, hb1, hb2⟩ := e0.mod.blt
  have bk : ∀ b o, base.get? b = some o → h₁.get? b = some o := fun b o e => kp _ _ (e0.bs b o e).1
  refine super_core Z lk S hp hks he hsw (KX.keeps kp) hns hself selfL (e0.mod.glob.keeps bk) (hb1.keeps bk) hb2 I ha fun h' tk' J => ?_
  refine wpAny_mono (ht.run [] _ (startF N (.ref a :: ws) [none]) H _ J hq) (fun fl s' hs => ?_) fun e s' hs => hs
  cases fl with
  | ret u => obtain ⟨v, σ', H', J', rv, q⟩ := hs; exact ⟨v, H', J'.os, J'.bare, J'.base, J'.hok, rv, q⟩
  | next => obtain ⟨σ', H', J', q⟩ := hs; exact ⟨.non, H', J'.os, J'.bare, J'.base, J'.hok, rfl, q⟩
  | brk => obtain ⟨_, _, _, q⟩ := hs; exact q.elim
  | cont => obtain ⟨_, _, _, q⟩ := hs; exact q.elim
/-- such a def as it stands behind the top -/
structure SupFun (K : PySem.W.Frag) (x qual : Str) (st : Stmt) (c cc f : Addr) (fd : FuncData) : Prop where
  ex : ∃ (oc : Value) (od : Option Addr) (kV doc pm : Value) (an : Option Addr) (ct : Value) (osl : Array (Option Value)),
    fd = PySem.W.fnX x qual (defArgs st) (defBody st) (defScope st) [("__class__", cc)] .none kV doc pm an (.ref c) ct ∧ K.lookup f = some ⟨oc, od, .func fd, osl⟩ ∧ codeIn K (.ref c) qual = true
theorem SupFun.binds {x qual : Str} {st : Stmt} {fd : FuncData} (F : SupFun K x qual st c cc f fd)
    (h : ∀ (kV doc pm : Value) (an : Option Addr) (ct : Value) (us : List Value), us.length = ps.length → bindArgs (PySem.W.fnX x qual (defArgs st) (defBody st) (defScope st) [("__class__", cc)] .none kV doc pm an (.ref c) ct) ⟨us, []⟩ = pure (ps.zip us)) : Binds K fd ps [] := by
  obtain ⟨oc, od, kV, doc, pm, an, ct, osl, rfl, lk, hcd⟩ := F.ex
  refine fun s us X hl => BindsTo.of_eq ?_
  rw [List.append_nil] at hl ⊢
  exact h kV doc pm an ct us hl
end
section
open PyProof.Rows
/-- as Fun.ok, for a def that may raise, in whatever way it is told -/
theorem Fun.okC {P : Program} {w : World} {K : PySem.W.Frag} {mg : Str → Option Value} {base : Heap} {CX : CXT} {x qual : Str} {st : Stmt} {f : Addr} {fd : FuncData} {N ps : List Str} {k : Nat} {sp : Sp} (F : L2.Fun K x qual st f fd) (S : FnScope N ps (defScope st)) (len : ∀ vs H Q E, sp vs H Q E → vs.length = ps.length)
    (hbody : ∀ (cdv : Value) (A : Around) (outer : List Env) (s : Shared) (H : Hp) (vs : List V) (Q : VK) (E : XK), Room k (A.deeper (envOfC qual (defScope st) s.heap.objs.size f cdv)) → sp vs H Q E →
      ∃ t, PSs (cxOf CX P w K mg base N qual (defScope st) f cdv A outer s H E) (defBody st) t ∧ t { nx := fun _ H' => Q .non H', rt := Q } (start N vs) H) : FnOk P w K mg base CX (k + 1) f fd ps sp := by
  have ⟨oc, od, kV, doc, pm, an, cdv, ct, osl, e, lk, hcd⟩ := F.ex
  subst e
  exact fn_of lk hcd S len (hbody cdv)
/-- isinstance of a caught exception and its own class -/
def rIsX (K : PySem.W.Frag) (a : Addr) (cls : Value) : List V → Hp → VK → Prop := fun xs H Q => ∃ C, xs = [.ref a, .ref C] ∧ PySem.W.isIn K cls C = true ∧ Q (.bl true) H
theorem call_isX {X : Cx} {a : Addr} {oe : Obj} {cls : Value} {d : Option Addr} {pn : List (Addr × Obj)} (hz : Zc cls d oe) : CallR (X.suite a ((a, oe) :: pn)) (.builtin "isinstance") (rIsX X.K a cls) := by
  intro pins s σ H xs us Q I r h
  obtain ⟨C, rfl, e, q⟩ := h
  cases r with
  | cons rx rr =>
    cases rr with
    | cons rt rr =>
      cases rr
      cases rx
      cases rt
      have hget := (I.pin (a, oe) (List.mem_append.mpr (.inl List.mem_cons_self))).1
      exact PySem.W.isi_call I.kIn (fun M => hz.1 ▸ (PySem.W.Looks.ld hget).andThen .now) e (fun z => nomatch z) ⟨.bl true, H, I, rfl, q⟩
end
end Sk

namespace Sk
open PySem L2
/-! ### sides and their images: the plain side -/
/-- a block whose octets can be read again -/
structure BlkX (L : Lay) (b : Blk) : Prop where
  full : Full L b
  k5 : b.kind ≤ 5
  s0 : 0 ≤ b.seq
  s1 : b.seq < 281474976710656
  p0 : 0 ≤ b.place
  p1 : b.place < 65536
def CellX (L : Lay) : Cell → Prop
  | none => True
  | some (b, k) => (∀ x, b = some x → BlkX L x) ∧ 0 ≤ k ∧ k < 4294967296
theorem blkOk_of {L : Lay} (hL : L.Ok) {b : Option Blk} (h : ∀ x, b = some x → BlkX L x) : BlkOk b := by
  cases b with
  | none => trivial
  | some x =>
    have o1 := hL.o1
    have hf := (h x rfl).full
    refine ⟨hf.k, ?_⟩
    by_cases e3 : x.kind = 3
    · have := hf.d e3; omega
    · have := hf.p e3; omega
theorem fullO_of {L : Lay} {b : Option Blk} (h : ∀ x, b = some x → BlkX L x) : FullO L b := by
  cases b with
  | none => trivial
  | some x => exact (h x rfl).full
theorem octs_len {L : Lay} (hL : L.Ok) {b : Option Blk} (h : ∀ x, b = some x → BlkX L x) : ((octs L b).length : Int) = 16 + L.oct := by
  have o1 := hL.o1
  cases b with
  | none => rw [octs, List.length_replicate]; omega
  | some x =>
    have hf := (h x rfl).full
    rw [octs_full hf, List.length_append, headOf_len]
    unfold found
    split
    · have := hf.d (by assumption); omega
    · have := hf.p (by assumption); rw [pairs_len]; omega
def cellOcts (L : Lay) : Cell → List Int
  | none => List.replicate (1 + 16 + L.oct + 4).toNat 0
  | some (b, k) => 1 :: (octs L b ++ lows k 4)
theorem cellOcts_len {L : Lay} (hL : L.Ok) {c : Cell} (h : CellX L c) : ((cellOcts L c).length : Int) = 21 + L.oct := by
  have o1 := hL.o1
  rcases c with _ | ⟨b, k⟩
  · rw [cellOcts, List.length_replicate]; omega
  · have := octs_len hL h.1
    rw [cellOcts, List.length_cons, List.length_append, lows_len]
    omega
def headOct (L : Lay) (seat : Int) : List Int := ([83, 73, 68, 69] ++ [2, seat, L.seg, L.blk]) ++ lows L.oct 2 ++ List.replicate 6 0
theorem headOct_len (L : Lay) (seat : Int) : (headOct L seat).length = 16 := by unfold headOct; simp
def cellsOcts (L : Lay) (cs : List Cell) : List Int := cs.flatMap (cellOcts L)
def imageOf (L : Lay) (seat : Int) (cs : List Cell) : List Int := headOct L seat ++ cellsOcts L cs
theorem cellsOcts_snoc (L : Lay) (cs : List Cell) (c : Cell) : cellsOcts L (cs ++ [c]) = cellsOcts L cs ++ cellOcts L c := by
  unfold cellsOcts
  rw [List.flatMap_append]
  simp
theorem cellsOcts_len {L : Lay} (hL : L.Ok) : ∀ {cs : List Cell}, (∀ c ∈ cs, CellX L c) → ((cellsOcts L cs).length : Int) = cs.length * (21 + L.oct)
  | [], _ => by simp [cellsOcts]
  | c :: r, h => by
    have ih := cellsOcts_len hL (cs := r) fun x hx => h x (List.mem_cons_of_mem _ hx)
    have hc := cellOcts_len hL (h c List.mem_cons_self)
    have e : cellsOcts L (c :: r) = cellOcts L c ++ cellsOcts L r := rfl
    rw [e, List.length_append, List.length_cons]
    push_cast
    rw [ih, hc, Int.add_mul, Int.one_mul]
    omega
/-! reading numbers again -/
theorem numOf_lows : ∀ (k : Nat) (n : Int), 0 ≤ n → n < 256 ^ k → numOf (lows n k) = n
  | 0, n, h0, h1 => by
    rw [Int.pow_zero] at h1
    rw [lows, numOf]; omega
  | k + 1, n, h0, h1 => by
    rw [lows, numOf, numOf_lows k (n / 256) (by omega) (by
      rw [Int.pow_succ] at h1
      exact Int.ediv_lt_of_lt_mul (by decide) h1)]
    omega
def halves (o : List Int) : List Int := (List.range (o.length / 2)).map fun (k : Nat) => o.getD (2 * k) 0 + 256 * o.getD (2 * k + 1) 0
theorem halves_pairs : ∀ l : List Int, halves (pairs l) = l
  | [] => rfl
  | n :: r => by
    have ih := halves_pairs r
    unfold halves at ih ⊢
    rw [pairs_len] at ih
    rw [pairs_len, List.length_cons, show 2 * (r.length + 1) / 2 = r.length + 1 by omega, List.range_succ_eq_map, List.map_cons, List.map_map]
    have e0 : (pairs (n :: r)).getD (2 * 0) 0 + 256 * (pairs (n :: r)).getD (2 * 0 + 1) 0 = n := by
      show n % 256 + 256 * (n / 256) = n
      omega
    rw [e0]
    congr 1
    rw [show 2 * r.length / 2 = r.length by omega] at ih
    refine Eq.trans (List.map_congr_left fun k _ => ?_) ih
    show (pairs (n :: r)).getD (2 * (k + 1)) 0 + 256 * (pairs (n :: r)).getD (2 * (k + 1) + 1) 0 = _
    rw [show 2 * (k + 1) = 2 * k + 1 + 1 by omega, pairs, List.getD_cons_succ, List.getD_cons_succ, List.getD_cons_succ, List.getD_cons_succ]
/-! devices and sides as objects -/
def DevAt (C : Addr) (H : Hp) (d a l1 l2 l3 : Addr) : Prop := ∃ dx, H d = some (.ins C dx [("layout", .ref a), ("sure", .ref l1), ("seen", .ref l2), ("waiting", .ref l3), ("fuse", .non), ("dark", .bl false)])
def SideIn (C : Addr) (H : Hp) (s a : Addr) (seat : Int) (d : Addr) : Prop := ∃ dx, H s = some (.ins C dx [("layout", .ref a), ("seat", .int seat), ("device", .ref d)])
theorem DevAt.mono {C : Addr} {H H' : Hp} {d a l1 l2 l3 : Addr} (h : DevAt C H d a l1 l2 l3) (s : Same H H') : DevAt C H' d a l1 l2 l3 := let ⟨dx, e⟩ := h; ⟨dx, s _ _ e⟩
theorem SideIn.mono {C : Addr} {H H' : Hp} {s a d : Addr} {seat : Int} (h : SideIn C H s a seat d) (x : Same H H') : SideIn C H' s a seat d := let ⟨dx, e⟩ := h; ⟨dx, x _ _ e⟩
end Sk

namespace Sk
open PySem L2
/-! ### more rules -/
section
open PyProof.Rows
variable {X : Cx} {K : PySem.W.Frag}
theorem pg_lstK {es : List Expr} {pos : Pos} {k : Nat} {t : TGs} {n : Nat} (hc : X.calm = true) (h : PGs X es t)
    (hn : (assignEach es X.env).length = n := by rfl) (hst : (assignEach es X.env).findIdx? (·.1) = none := by rfl) (hK : X.K = K := by rfl) : PG X (.Tuple es k pos) (gLst K n t) := hK ▸ pg_lst hc h hn hst
theorem opRepTK (hK : X.K = K := by rfl) : OpR X (binaryOp .Mult) (rRepT K) := hK ▸ op_repT
/-- xs[j] of a list, j ≥ 0 -/
def rGetL (K : PySem.W.Frag) : V → V → Hp → VK → Prop := fun x y H Q => ∃ (p : Addr) (xs : List V) (j : Nat) (v : V), x = .ref p ∧ y = .int (j : Int) ∧ SqL K H p xs ∧ xs[j]? = some v ∧ Q v H
theorem pgetL0 : PGet X (rGetL X.K) := by
  intro pins s σ H x y ov iv Q I rx ry h
  obtain ⟨p, xs, j, v, rfl, rfl, hq, he, q⟩ := h
  cases rx
  obtain ⟨t, rfl⟩ := ry
  obtain ⟨its, r, pl, hz⟩ := I.list hq
  obtain ⟨w, ew, rw'⟩ := r.get he
  have hj : j < its.length := (List.getElem?_eq_some_iff.mp ew).1
  have hn := line63
  have hl := r.length
  exact getItem_listL pl.isList (by omega) (by omega) (by simpa using ew) ⟨v, H, I, rw', q⟩
theorem pgetLK (hK : X.K = K := by rfl) : PGet X (rGetL K) := hK ▸ pgetL0
variable {CX : CXT} {k n : Nat} {f C : Addr} {fd : FuncData} {ps ks : List Str} {sp : Sp} {E : XK} {m : Str} {pos apos : Pos} {e o : Expr} {es : List Expr} {kws : List Keyword} {ta : TE} {t tk : TA} {g : List Value → List Value → List Value} {gV : List V → List V → List V}
/-- o.m(e, .., k = v, ..) -/
def tMethN (C : Addr) (m : Str) (n j : Nat) (sp : Sp) (gV : List V → List V → List V) (E : XK) (ta : TE) (t tk : TA) : TE := fun σ H Q => ta σ H fun x H1 => ∃ a dx fs, x = .ref a ∧ H1 a = some (.ins C dx fs) ∧ fs.lookup m = none ∧
  t σ H1 fun vs H2 => tk σ H2 fun zs H3 => vs.length = n ∧ zs.length = j ∧ sp (gV (x :: vs) zs) H3 Q E
theorem pe_methN {pl : Sem Bool} (he : PE X o ta) (c : Cls X.K C) (hm : Meth X.K C m f) (F : FnOk X.prog X.w X.K X.mg X.base CX k f fd ps sp) (hr : Room k X.A) (hb : KBn X.K fd ps (n + 1) ks g gV) (hx : Passes CX X E) (ha : PA X (e :: es) t) (hkw : PK X kws tk)
    (hall : (backToKw pos (keywordEach kws X.env)).all (·.1.isSome) = true := by rfl) (hks : (backToKw pos (keywordEach kws X.env)).filterMap (·.1) = ks := by rfl)
    (hst : starEach (e :: es) X.env = (false, eval e X.env) :: starEach es X.env := by rfl)
    (hpl : ((backTo pos (starEach (e :: es) X.env)).any (·.1) || (backToKw pos (keywordEach kws X.env)).any (·.1.isNone)) = false := by rfl)
    (ht : eval (.Call (.Attribute o m apos) (e :: es) kws pos) X.env = (do
      let ov ← eval o X.env
      standAt apos.atName
      let (f, first) ← holding [ov] (getMethod ov m pl)
      callWith pos f first (backTo pos (starEach (e :: es) X.env)) (backToKw pos (keywordEach kws X.env))) := by rfl) :
    PE X (.Call (.Attribute o m apos) (e :: es) kws pos) (tMethN C m n ks.length sp gV E ta t tk) := by
  refine ⟨fun pins s σ H Q I h => ?_⟩
  refine PySem.W.methodCall_KW (pl := pl) (thn (he.run pins s σ H _ I h) fun u s1 ⟨x, H1, I1, rx, a, dx, fs, ex, ea, l, q⟩ => ?_) ht
  subst ex
  obtain rfl : u = Value.ref a := rx
  refine getmeth_ok I1 ea c hm l ?_
  refine PySem.W.callWith_KW (first := [.ref a]) (h₀ := X.base) I.ok.mod.kin hm.kp hall (thn (ha.run pos pins s1 σ H1 _ I1 q) fun us s2 ⟨vs, H2, I2, r, q2⟩ => ?_) hpl hst
  refine thn (hkw.run pos pins s2 σ H2 _ I2 q2) fun ws s3 ⟨zs, H3, I3, rz, l1, l2, q3⟩ => ⟨I3.kIn, ?_⟩
  rw [hks]
  exact run_fnN (us := .ref a :: us) (vs := .ref a :: vs) F hr hb hx I3 (.cons rfl r) rz (by simp [l1]) l2 q3
end
section
variable {K : PySem.W.Frag} {σ : St} {H : Hp} {Q : VK} {D : Ends} {td ty tv ta : TE} {tr tk : TA} {u : TS} {E : XK}
theorem g_methN {C : Addr} {m : Str} {n j : Nat} {sp : Sp} {gV : List V → List V → List V} (q : ta σ H fun x H1 => MW C m x H1 (tr σ H1 fun vs H2 => tk σ H2 fun zs H3 => vs.length = n ∧ zs.length = j ∧ sp (gV (x :: vs) zs) H3 Q E)) : tMethN C m n j sp gV E ta tr tk σ H Q := q
theorem g_augS {to ti te : TE} {tget : V → V → Hp → VK → Prop} {tip : TIp} {tset : TSet} (q : to σ H fun o H1 => ti σ H1 fun i H2 => tget o i H2 fun x H3 => te σ H3 fun y H4 => tip x y H4 fun z H5 => tset o i z H5 fun H6 => D.nx σ H6) : tAugS to ti te tget tip tset D σ H := q
theorem g_getL {p : Addr} {xs : List V} {j : Nat} {k : Int} {v : V} (h : SqL K H p xs) (e : k = (j : Int)) (hv : xs[j]? = some v) (q : Q v H) : rGetL K (.ref p) (.int k) H Q := by subst e; exact ⟨p, xs, j, v, rfl, rfl, h, hv, q⟩
theorem g_ipI {f : Int → Int → Int} {a b : Int} (q : Q (.int (f a b)) H) : ipI f (.int a) (.int b) H Q := ⟨a, b, rfl, rfl, q⟩
def DgW (x y : V) (H : Hp) (Q : VK) : Prop := ∃ a v, x = .ref a ∧ DGet H a y (some v) ∧ Q v H
theorem g_dget (q : td σ H fun x H1 => ty σ H1 fun y H2 => DgW x y H2 Q) : tDGet td ty σ H Q := q
theorem g_DgW {a : Addr} {kvs : List (Key × V)} {k : Str} {v : V} (h : H a = some (.dK kvs)) (e : valV kvs (.inr k) = some v) (q : Q v H) : DgW (.ref a) (.str k) H Q := ⟨a, v, rfl, e ▸ DGet.k (k := .inr k) h, q⟩
def DpW (x y v : V) (H : Hp) (QH : Hp → Prop) : Prop := ∃ a H4, x = .ref a ∧ DPut H a y v H4 ∧ QH H4
theorem g_dput (q : tv σ H fun v H1 => td σ H1 fun x H2 => ty σ H2 fun y H3 => DpW x y v H3 fun H4 => D.nx σ H4) : sDPut td ty tv D σ H := q
theorem g_seqP (q : tv σ H fun v H1 => td σ H1 fun x H2 => ty σ H2 fun y H3 => DpW x y v H3 fun H4 => u D σ H4) : tSeq (sDPut td ty tv) u D σ H := q
theorem g_DpW {a : Addr} {kvs : List (Key × V)} {k : Str} {v : V} {QH : Hp → Prop} (h : H a = some (.dK kvs)) (z : kvs.length < 1000) (q : QH (upd H a (.dK (putK kvs (.inr k) v)))) : DpW (.ref a) (.str k) v H QH :=
  ⟨a, _, rfl, DPut.k (k := .inr k) h (by rw [sizeLine_eq]; omega), q⟩
theorem g_disp {trs : List (TE × TE)} (q : ∀ p, H p = none → tPairs trs σ (upd H p (.dK [])) fun ps H2 => H2 p = some (.dK []) ∧ ∃ kvs : List (Key × V), ps = kvs.map (fun kv => (kV kv.1, kv.2)) ∧ kvs.length ≤ 15 ∧ Q (.ref p) (upd H2 p (.dK (mergeK [] kvs)))) : tDisp trs σ H Q := q
theorem g_pcons {tk tv : TE} {r : List (TE × TE)} {QP : List (V × V) → Hp → Prop} (q : tk σ H fun x H1 => tv σ H1 fun y H2 => tPairs r σ H2 fun ps H3 => QP ((x, y) :: ps) H3) : tPairs ((tk, tv) :: r) σ H QP := q
theorem g_pnil {QP : List (V × V) → Hp → Prop} (q : QP [] H) : tPairs [] σ H QP := q
theorem g_gLst {n : Nat} {ts : TGs} {a : Addr} {xs : List V} {QG : St → Hp → Prop} (h : SqL K H a xs) (e : xs.length = n) (q : ts xs σ H QG) : gLst K n ts (.ref a) σ H QG := ⟨a, xs, rfl, h, e, q⟩
theorem g_asgL {n : Nat} {ts : TGs} (q : ta σ H fun x H1 => gLst K n ts x σ H1 D.nx) : tAsg ta (gLst K n ts) D σ H := q
theorem g_seqL {n : Nat} {ts : TGs} (q : ta σ H fun x H1 => gLst K n ts x σ H1 fun σ2 H2 => u D σ2 H2) : tSeq (tAsg ta (gLst K n ts)) u D σ H := q
end
/-! ### rows of cells: what a side, and the law's model of it, hold -/
structure Rows where
  sure : List Cell
  seen : List Cell
  wait : List (Nat × Cell)
def wtD (w : Nat × Cell) : PyData := .tuple [.int (w.1 : Int), cellD w.2]
def Rows.put (m : Rows) (n : Nat) (c : Cell) : Rows := ⟨m.sure, m.seen.set n c, m.wait ++ [(n, c)]⟩
def barL (s : List Cell) (w : List (Nat × Cell)) : List Cell := w.foldl (fun l q => l.set q.1 q.2) s
def Rows.bar (m : Rows) : Rows := ⟨barL m.sure m.wait, m.seen, []⟩
def Rows.decay (m : Rows) (n : Nat) (c : Cell) : Rows := ⟨m.sure.set n c, if n ∈ m.wait.map (·.1) then m.seen else m.seen.set n c, m.wait⟩
def leftStep (kept torn : List Int) (w : List (Nat × Cell)) (l : List Cell) (i : Nat) : List Cell :=
  match w[i]? with
  | none => l
  | some q => if (i : Int) ∈ torn then l.set q.1 none else if (i : Int) ∈ kept then l.set q.1 q.2 else l
def leftTo (s : List Cell) (w : List (Nat × Cell)) (kept torn : List Int) (k : Nat) : List Cell := (List.range k).foldl (leftStep kept torn w) s
def Rows.left (m : Rows) (kept torn : List Int) : Rows := ⟨leftTo m.sure m.wait kept torn m.wait.length, leftTo m.sure m.wait kept torn m.wait.length, []⟩
def Rows.settle (m : Rows) : Rows := ⟨m.seen, m.seen, []⟩
theorem leftTo_succ {s : List Cell} {w : List (Nat × Cell)} {kept torn : List Int} {k : Nat} : leftTo s w kept torn (k + 1) = leftStep kept torn w (leftTo s w kept torn k) k := by
  unfold leftTo
  rw [List.range_succ, List.foldl_append]
  rfl
theorem barL_snoc {s : List Cell} {w : List (Nat × Cell)} {q : Nat × Cell} : barL s (w ++ [q]) = (barL s w).set q.1 q.2 := by
  unfold barL
  rw [List.foldl_append]
  rfl
theorem barL_len (s : List Cell) (w : List (Nat × Cell)) : (barL s w).length = s.length := by
  induction w generalizing s with
  | nil => rfl
  | cons q r ih => unfold barL at ih ⊢; rw [List.foldl_cons, ih, List.length_set]
theorem leftStep_len {kept torn : List Int} {w : List (Nat × Cell)} {l : List Cell} {i : Nat} : (leftStep kept torn w l i).length = l.length := by
  unfold leftStep
  split
  · rfl
  · split
    · rw [List.length_set]
    · split
      · rw [List.length_set]
      · rfl
theorem leftTo_len {s : List Cell} {w : List (Nat × Cell)} {kept torn : List Int} : ∀ k, (leftTo s w kept torn k).length = s.length
  | 0 => rfl
  | k + 1 => by rw [leftTo_succ, leftStep_len, leftTo_len k]
/-- the three lists -/
structure ListsAt (K : PySem.W.Frag) (R H : Hp) (l1 l2 l3 : Addr) (u1 u2 u3 : List V) (m : Rows) : Prop where
  h1 : H l1 = some (.lst u1)
  h2 : H l2 = some (.lst u2)
  h3 : H l3 = some (.lst u3)
  d1 : DpAll K R u1 (m.sure.map cellD)
  d2 : DpAll K R u2 (m.seen.map cellD)
  d3 : DpAll K R u3 (m.wait.map wtD)
structure DevSt (K : PySem.W.Frag) (CD : Addr) (R H : Hp) (d a : Addr) (m : Rows) (l1 l2 l3 : Addr) : Prop where
  dev : DevAt CD H d a l1 l2 l3
  nd : [d, l1, l2, l3].Nodup
  non : ∀ x ∈ [d, l1, l2, l3], R x = none
  ls : ∃ u1 u2 u3, ListsAt K R H l1 l2 l3 u1 u2 u3 m
def DevOk (K : PySem.W.Frag) (CD : Addr) (R H : Hp) (d a : Addr) (m : Rows) (ds : List Addr) : Prop := ∃ l1 l2 l3, ds = [d, l1, l2, l3] ∧ DevSt K CD R H d a m l1 l2 l3
structure SideSt (K : PySem.W.Frag) (CS CD : Addr) (R H : Hp) (s a : Addr) (n : Int) (m : Rows) (d : Addr) (ds : List Addr) : Prop where
  side : SideIn CS H s a n d
  nin : s ∉ ds
  non : R s = none
  dev : DevOk K CD R H d a m ds
def SideOk (K : PySem.W.Frag) (CS CD : Addr) (R H : Hp) (s a : Addr) (n : Int) (m : Rows) (ms : List Addr) : Prop := ∃ d ds, ms = s :: ds ∧ SideSt K CS CD R H s a n m d ds
def modF (n : Int) (n1 n2 n3 : Addr) : List (Key × V) := [(.inr "seat", .int n), (.inr "sure", .ref n1), (.inr "seen", .ref n2), (.inr "waiting", .ref n3)]
structure ModSt (K : PySem.W.Frag) (R H : Hp) (g : Addr) (n : Int) (m : Rows) (n1 n2 n3 : Addr) : Prop where
  mod : H g = some (.dK (modF n n1 n2 n3))
  nd : [g, n1, n2, n3].Nodup
  non : ∀ x ∈ [g, n1, n2, n3], R x = none
  ls : ∃ u1 u2 u3, ListsAt K R H n1 n2 n3 u1 u2 u3 m
def ModOk (K : PySem.W.Frag) (R H : Hp) (g : Addr) (n : Int) (m : Rows) (ms : List Addr) : Prop := ∃ n1 n2 n3, ms = [g, n1, n2, n3] ∧ ModSt K R H g n m n1 n2 n3
section
variable {K : PySem.W.Frag} {CS CD : Addr} {R H R' H' : Hp} {s a d g l1 l2 l3 : Addr} {n : Int} {m : Rows} {ms ds M : List Addr} {u1 u2 u3 : List V}
theorem ListsAt.frame (h : ListsAt K R H l1 l2 l3 u1 u2 u3 m) (g : Gr M R H R' H') (a : l1 ∉ M) (b : l2 ∉ M) (c : l3 ∉ M) : ListsAt K R' H' l1 l2 l3 u1 u2 u3 m :=
  ⟨g.hh _ _ a h.h1, g.hh _ _ b h.h2, g.hh _ _ c h.h3, dpAll_mono g.rr h.d1, dpAll_mono g.rr h.d2, dpAll_mono g.rr h.d3⟩
theorem DevSt.has (h : DevSt K CD R H d a m l1 l2 l3) : ∀ x ∈ [d, l1, l2, l3], ∃ o, H x = some o := fun x hx => by
  obtain ⟨u1, u2, u3, ls⟩ := h.ls
  obtain ⟨dx, e⟩ := h.dev
  simp only [List.mem_cons, List.not_mem_nil, or_false] at hx
  rcases hx with rfl | rfl | rfl | rfl
  · exact ⟨_, e⟩
  · exact ⟨_, ls.h1⟩
  · exact ⟨_, ls.h2⟩
  · exact ⟨_, ls.h3⟩
theorem DevSt.frame (h : DevSt K CD R H d a m l1 l2 l3) (g : Gr M R H R' H') (dj : ∀ x ∈ [d, l1, l2, l3], x ∉ M) : DevSt K CD R' H' d a m l1 l2 l3 := by
  obtain ⟨u1, u2, u3, ls⟩ := h.ls
  obtain ⟨dx, e⟩ := h.dev
  refine ⟨⟨dx, g.hh _ _ (dj _ (by simp)) e⟩, h.nd, fun x hx => ?_, ⟨u1, u2, u3, ls.frame g (dj _ (by simp)) (dj _ (by simp)) (dj _ (by simp))⟩⟩
  obtain ⟨o, ho⟩ := h.has x hx
  exact g.fr _ _ ho (h.non x hx)
theorem DevOk.frame (h : DevOk K CD R H d a m ds) (g : Gr M R H R' H') (dj : ∀ x ∈ ds, x ∉ M) : DevOk K CD R' H' d a m ds := by
  obtain ⟨l1, l2, l3, rfl, h⟩ := h
  exact ⟨l1, l2, l3, rfl, h.frame g dj⟩
theorem DevOk.has (h : DevOk K CD R H d a m ds) : ∀ x ∈ ds, ∃ o, H x = some o := by obtain ⟨l1, l2, l3, rfl, h⟩ := h; exact h.has
theorem DevOk.non (h : DevOk K CD R H d a m ds) : ∀ x ∈ ds, R x = none := by obtain ⟨l1, l2, l3, rfl, h⟩ := h; exact h.non
theorem DevOk.ins (h : DevOk K CD R H d a m ds) : ∃ dx l1 l2 l3, H d = some (.ins CD dx [("layout", .ref a), ("sure", .ref l1), ("seen", .ref l2), ("waiting", .ref l3), ("fuse", .non), ("dark", .bl false)]) := by
  obtain ⟨l1, l2, l3, eds, dst⟩ := h
  obtain ⟨dx, hd⟩ := dst.dev
  exact ⟨dx, l1, l2, l3, hd⟩
theorem SideOk.frame (h : SideOk K CS CD R H s a n m ms) (g : Gr M R H R' H') (dj : ∀ x ∈ ms, x ∉ M) : SideOk K CS CD R' H' s a n m ms := by
  obtain ⟨d, ds, rfl, ⟨⟨sx, hs⟩, nin, non, dev⟩⟩ := h
  exact ⟨d, ds, rfl, ⟨⟨sx, g.hh _ _ (dj _ List.mem_cons_self) hs⟩, nin, g.fr _ _ hs non, dev.frame g fun x hx => dj x (List.mem_cons_of_mem _ hx)⟩⟩
theorem SideOk.has (h : SideOk K CS CD R H s a n m ms) : ∀ x ∈ ms, ∃ o, H x = some o := by
  obtain ⟨d, ds, rfl, ⟨⟨sx, hs⟩, nin, non, dev⟩⟩ := h
  intro x hx
  rcases List.mem_cons.mp hx with rfl | hx
  · exact ⟨_, hs⟩
  · exact dev.has x hx
theorem SideOk.non (h : SideOk K CS CD R H s a n m ms) : ∀ x ∈ ms, R x = none := by
  obtain ⟨d, ds, rfl, ⟨⟨sx, hs⟩, nin, non, dev⟩⟩ := h
  intro x hx
  rcases List.mem_cons.mp hx with rfl | hx
  · exact non
  · exact dev.non x hx
theorem ModSt.has (h : ModSt K R H g n m l1 l2 l3) : ∀ x ∈ [g, l1, l2, l3], ∃ o, H x = some o := fun x hx => by
  obtain ⟨u1, u2, u3, ls⟩ := h.ls
  simp only [List.mem_cons, List.not_mem_nil, or_false] at hx
  rcases hx with rfl | rfl | rfl | rfl
  · exact ⟨_, h.mod⟩
  · exact ⟨_, ls.h1⟩
  · exact ⟨_, ls.h2⟩
  · exact ⟨_, ls.h3⟩
theorem ModOk.frame (h : ModOk K R H g n m ms) (gr : Gr M R H R' H') (dj : ∀ x ∈ ms, x ∉ M) : ModOk K R' H' g n m ms := by
  obtain ⟨l1, l2, l3, rfl, h⟩ := h
  obtain ⟨u1, u2, u3, ls⟩ := h.ls
  refine ⟨l1, l2, l3, rfl, ⟨gr.hh _ _ (dj _ (by simp)) h.mod, h.nd, fun x hx => ?_, ⟨u1, u2, u3, ls.frame gr (dj _ (by simp)) (dj _ (by simp)) (dj _ (by simp))⟩⟩⟩
  obtain ⟨o, ho⟩ := h.has x hx
  exact gr.fr _ _ ho (h.non x hx)
theorem ModOk.has (h : ModOk K R H g n m ms) : ∀ x ∈ ms, ∃ o, H x = some o := by obtain ⟨l1, l2, l3, rfl, h⟩ := h; exact h.has
theorem ModOk.non (h : ModOk K R H g n m ms) : ∀ x ∈ ms, R x = none := by obtain ⟨l1, l2, l3, rfl, h⟩ := h; exact h.non
end
theorem nod4 {a b c d : Addr} (h : [a, b, c, d].Nodup) : a ≠ b ∧ a ≠ c ∧ a ≠ d ∧ b ≠ c ∧ b ≠ d ∧ c ≠ d := by
  simp only [List.nodup_cons, List.mem_cons, List.not_mem_nil, not_or, or_false, not_false_eq_true, List.nodup_nil, and_true] at h
  exact ⟨h.1.1, h.1.2.1, h.1.2.2, h.2.1.1, h.2.1.2, h.2.2⟩
theorem mk_nod4 {a b c d : Addr} (e01 : a ≠ b) (e02 : a ≠ c) (e03 : a ≠ d) (e12 : b ≠ c) (e13 : b ≠ d) (e23 : c ≠ d) : [a, b, c, d].Nodup := by
  simp only [List.nodup_cons, List.mem_cons, List.not_mem_nil, not_or, or_false, not_false_eq_true, List.nodup_nil, and_true]
  exact ⟨⟨e01, e02, e03⟩, ⟨e12, e13⟩, e23⟩
theorem non_of {R H R' H' : Hp} {M xs : List Addr} (has : ∀ x ∈ xs, ∃ o, H x = some o) (non : ∀ x ∈ xs, R x = none) (g : Gr M R H R' H') : ∀ x ∈ xs, R' x = none := fun x hx => let ⟨o, ho⟩ := has x hx; g.fr _ _ ho (non x hx)
theorem ixN_nat {n j : Nat} (h : j < n) : ixN n (j : Int) = some j := by
  unfold ixN
  simp
  omega
theorem nin2 {x a b : Addr} (h : x ≠ a) (k : x ≠ b) : x ∉ [a, b] := by simp [h, k]
theorem nin1 {x a : Addr} (h : x ≠ a) : x ∉ [a] := by simp [h]
theorem sub4 {a b c d : Addr} {M : List Addr} (h : ∀ x ∈ M, x ∈ [a, b, c, d]) : ∀ x ∈ M, x ∈ [a, b, c, d] := h
theorem wt_get {K : PySem.W.Frag} {R : Hp} {u3 : List V} {w : List (Nat × Cell)} {i : Nat} {x : V} (d3 : DpAll K R u3 (w.map wtD)) (hx : u3[i]? = some x) : ∃ q t v, w[i]? = some q ∧ x = .ref t ∧ SqT K R t [.int (q.1 : Int), v] ∧ Dp K R v (cellD q.2) := by
  obtain ⟨d, hd, dp⟩ := dpAll_get' d3 hx
  rw [List.getElem?_map] at hd
  cases e : w[i]? with
  | none => rw [e] at hd; cases hd
  | some q =>
    rw [e] at hd
    cases hd
    obtain ⟨t, y, v, rfl, ht, hy, hv⟩ := dpT2 dp
    obtain rfl := dp_int hy
    exact ⟨q, t, v, rfl, rfl, ht, hv⟩
/-- nothing in common -/
def Dj (a b : List Addr) : Prop := ∀ x ∈ a, x ∉ b
theorem Dj.symm {a b : List Addr} (h : Dj a b) : Dj b a := fun x hb ha => h x ha hb
/-- what may be new: of ms, or not there before -/
def Nw (H : Hp) (ms ms' : List Addr) : Prop := ∀ x ∈ ms', x ∈ ms ∨ H x = none
theorem Nw.refl {H : Hp} {ms : List Addr} : Nw H ms ms := fun _ h => .inl h
theorem Dj.nw {H : Hp} {ms ms' b : List Addr} (h : Dj ms b) (w : Nw H ms ms') (e : ∀ x ∈ b, ∃ o, H x = some o) : Dj ms' b := fun x hx hb => by
  rcases w x hx with q | q
  · exact h x q hb
  · obtain ⟨o, ho⟩ := e x hb; rw [ho] at q; cases q
theorem Dj.of_free {H : Hp} {p : Addr} {b : List Addr} (n : H p = none) (e : ∀ x ∈ b, ∃ o, H x = some o) : Dj [p] b := fun x hx hb => by
  rw [List.mem_singleton] at hx
  subst hx
  obtain ⟨o, ho⟩ := e _ hb; rw [ho] at n; cases n
theorem Dj.sub {a b c : List Addr} (h : Dj a b) (s : ∀ x ∈ c, x ∈ b) : Dj a c := fun x hx hc => h x hx (s x hc)
theorem Dj.app {a b c : List Addr} (h : Dj a b) (k : Dj a c) : Dj a (b ++ c) := fun x hx hc => by
  rcases List.mem_append.mp hc with q | q
  · exact h x hx q
  · exact k x hx q
section
variable {K : PySem.W.Frag} {CS CD : Addr} {R H R' H' H4 : Hp} {x dx s a d l1 l2 l3 : Addr} {n : Int} {m : Rows} {ms ds M : List Addr} {us : List V} {cs : List Cell}
/-- a device that was made just now -/
theorem dev_new (sR : Same R H) (nx : H x = none) (ndx : H dx = none) (g : Gr [x] R (upd (upd H dx (.own x)) x (.ins CD dx [])) R H4) (n1 : upd (upd H dx (.own x)) x (.ins CD dx []) l1 = none) (n2 : upd (upd H dx (.own x)) x (.ins CD dx []) l2 = none) (n3 : upd (upd H dx (.own x)) x (.ins CD dx []) l3 = none)
    (e12 : l1 ≠ l2) (e13 : l1 ≠ l3) (e23 : l2 ≠ l3) (hd : DevAt CD H4 x a l1 l2 l3) (h1 : H4 l1 = some (.lst us)) (h2 : H4 l2 = some (.lst us)) (h3 : H4 l3 = some (.lst [])) (du : DpAll K R us (cs.map cellD)) :
    Gr [] R H R H4 ∧ (∀ y ∈ [x, l1, l2, l3], H y = none) ∧ DevOk K CD R H4 x a ⟨cs, cs, []⟩ [x, l1, l2, l3] := by
  have sm : Same H (upd (upd H dx (.own x)) x (.ins CD dx [])) := made_same nx ndx
  have hx : upd (upd H dx (.own x)) x (.ins CD dx []) x = some (.ins CD dx []) := upd_same
  have x1 := ne_of_none hx n1
  have x2 := ne_of_none hx n2
  have x3 := ne_of_none hx n3
  have gA : Gr [] R H R H4 := ((Mu.ofSame sR sm).g.nil.trans g).forget (by intro y hy hn; rw [List.mem_singleton.mp hy]; exact nx)
  have fr : ∀ y ∈ [x, l1, l2, l3], H y = none := fun y hy => by
    simp only [List.mem_cons, List.not_mem_nil, or_false] at hy
    rcases hy with rfl | rfl | rfl | rfl
    · exact nx
    · exact sm.free n1
    · exact sm.free n2
    · exact sm.free n3
  exact ⟨gA, fr, l1, l2, l3, rfl, hd, mk_nod4 x1 x2 x3 e12 e13 e23, fun y hy => sR.free (fr y hy), us, us, [], h1, h2, h3, du, du, .nil⟩
/-- a side that was made just now -/
theorem side_new (sR : Same R H) (nx : H x = none) (ndx : H dx = none) (g : Gr [x] R (upd (upd H dx (.own x)) x (.ins CS dx [])) R H4) (nd : upd (upd H dx (.own x)) x (.ins CS dx []) d = none) (n1 : upd (upd H dx (.own x)) x (.ins CS dx []) l1 = none) (n2 : upd (upd H dx (.own x)) x (.ins CS dx []) l2 = none) (n3 : upd (upd H dx (.own x)) x (.ins CS dx []) l3 = none)
    (e12 : l1 ≠ l2) (e13 : l1 ≠ l3) (e23 : l2 ≠ l3) (hs : SideIn CS H4 x a n d) (hd : DevAt CD H4 d a l1 l2 l3) (h1 : H4 l1 = some (.lst us)) (h2 : H4 l2 = some (.lst us)) (h3 : H4 l3 = some (.lst [])) (du : DpAll K R us (cs.map cellD)) :
    Gr [] R H R H4 ∧ (∀ y ∈ [x, d, l1, l2, l3], H y = none) ∧ SideOk K CS CD R H4 x a n ⟨cs, cs, []⟩ [x, d, l1, l2, l3] := by
  have sm : Same H (upd (upd H dx (.own x)) x (.ins CS dx [])) := made_same nx ndx
  have hx : upd (upd H dx (.own x)) x (.ins CS dx []) x = some (.ins CS dx []) := upd_same
  have x0 := ne_of_none hx nd
  have x1 := ne_of_none hx n1
  have x2 := ne_of_none hx n2
  have x3 := ne_of_none hx n3
  have gA : Gr [] R H R H4 := ((Mu.ofSame sR sm).g.nil.trans g).forget (by intro y hy hn; rw [List.mem_singleton.mp hy]; exact nx)
  have fr : ∀ y ∈ [x, d, l1, l2, l3], H y = none := fun y hy => by
    simp only [List.mem_cons, List.not_mem_nil, or_false] at hy
    rcases hy with rfl | rfl | rfl | rfl | rfl
    · exact nx
    · exact sm.free nd
    · exact sm.free n1
    · exact sm.free n2
    · exact sm.free n3
  obtain ⟨ddx, hdd⟩ := hd
  have d1 : d ≠ l1 := by rintro rfl; rw [hdd] at h1; cases h1
  have d2 : d ≠ l2 := by rintro rfl; rw [hdd] at h2; cases h2
  have d3 : d ≠ l3 := by rintro rfl; rw [hdd] at h3; cases h3
  refine ⟨gA, fr, d, _, rfl, hs, ?_, sR.free nx, l1, l2, l3, rfl, ⟨ddx, hdd⟩, mk_nod4 d1 d2 d3 e12 e13 e23, fun y hy => sR.free (fr y (List.mem_cons_of_mem _ hy)), us, us, [], h1, h2, h3, du, du, .nil⟩
  simp only [List.mem_cons, List.not_mem_nil, or_false, not_or]
  exact ⟨x0, x1, x2, x3⟩
theorem dp_wo2 {l2 l3 : Addr} {u2 u3 : List V} {d : PyData} {v : V} (h2 : H l2 = some (.lst u2)) (h3 : H l3 = some (.lst u3)) (ne : l2 ≠ l3) (t : tupOnly d = true) (g : Gr [l2, l3] R H R' H') (h : Dp K H v d) : Dp K H' v d := by
  have e := dp_wo h2 t h
  have h3' : wo H l2 l3 = some (.lst u3) := by unfold wo; rw [if_neg (Ne.symm ne)]; exact h3
  have e := dp_wo h3' t e
  refine dp_mono (fun b o q => ?_) e
  unfold wo at q
  split at q
  · cases q
  · split at q
    · cases q
    · exact g.hh _ _ (by simp; exact ⟨by assumption, by assumption⟩) q
theorem dp_wo1 {D : Addr} {u : List V} {d : PyData} {v : V} (h2 : H D = some (.lst u)) (t : tupOnly d = true) (g : Gr [D] R H R' H') (h : Dp K H v d) : Dp K H' v d := by
  refine dp_mono (fun b o q => ?_) (dp_wo h2 t h)
  unfold wo at q
  split at q
  · cases q
  · exact g.hh _ _ (by simp; assumption) q
theorem dpAll_wo1 {D : Addr} {u : List V} {ds : List PyData} {vs : List V} (h2 : H D = some (.lst u)) (t : tupOnlyAll ds = true) (g : Gr [D] R H R' H') (h : DpAll K H vs ds) : DpAll K H' vs ds := by
  refine dpAll_mono (fun b o q => ?_) (dpAll_wo h2 t h)
  unfold wo at q
  split at q
  · cases q
  · exact g.hh _ _ (by simp; assumption) q
end
theorem only_lb (b : Option Lb) : tupOnly (lbD b) = true := by
  cases b with
  | none => simp [lbD, tupOnly]
  | some l => simp [lbD, Lb.d, tupOnly, tupOnlyAll, intsD, tupOnly_ints]
theorem only_cell (c : Cell) : tupOnly (cellD c) = true := by
  rcases c with _ | ⟨b, k⟩
  · simp [cellD, tupOnly]
  · cases b with
    | none => simp [cellD, optD, tupOnly, tupOnlyAll]
    | some b => simp [cellD, optD, tupOnly, tupOnlyAll, only_blk]
theorem only_cells : ∀ cs : List Cell, tupOnlyAll (cs.map cellD) = true
  | [] => by simp [tupOnlyAll]
  | c :: r => by rw [List.map_cons, tupOnlyAll, only_cell, only_cells r]; rfl
theorem cells_get {K : PySem.W.Frag} {R : Hp} {us : List V} {cs : List Cell} {i : Nat} {c : Cell} (h : DpAll K R us (cs.map cellD)) (e : cs[i]? = some c) : ∃ v, us[i]? = some v ∧ Dp K R v (cellD c) :=
  dpAll_get h (show (cs.map cellD)[i]? = some (cellD c) by rw [List.getElem?_map, e]; rfl)
/-- what is read at an address -/
def readC (L : Lay) (n : Int) : Cell → Option Blk
  | some (some b, k) => if k = chk L n (some b) then some b else none
  | _ => none
def rottenC (L : Lay) (n : Int) (c : Cell) : Bool := c.isSome && !whole L n c
theorem lbD_inj : ∀ {x y : Option Lb}, lbD x = lbD y → x = y
  | none, none, _ => rfl
  | none, some l, h => by simp [lbD, Lb.d] at h
  | some l, none, h => by simp [lbD, Lb.d] at h
  | some l, some e, h => by
    obtain ⟨g, m, b, f⟩ := l
    obtain ⟨g', m', b', f'⟩ := e
    simp only [lbD, Lb.d, intsD, PyData.tuple.injEq, List.cons.injEq, PyData.int.injEq, and_true] at h
    obtain ⟨h1, h2, h3, h4⟩ := h
    rw [h1, ints_inj h2, ints_inj h3, ints_inj h4]
theorem eqv_lbD (x y : Option Lb) : PyData.eqv (lbD x) (lbD y) = decide (x = y) :=
  eqv_dec (clean_lbD x) (clean_lbD y) (by rw [decide_eq_true_iff]; exact ⟨fun h => by rw [h], lbD_inj⟩)
/-- the two labels -/
def labsOf (L : Lay) (seat : Int) (m : Rows) : List (Option Lb) := [labelOf L seat (readC L L.device (m.seen.getD L.device.toNat none)), labelOf L seat (readC L (L.device + 1) (m.seen.getD (L.device.toNat + 1) none))]
def labOf (L : Lay) (seat : Int) (m : Rows) : Option Lb := newestOf (labsOf L seat m)
def slotOf (L : Lay) (seat : Int) (m : Rows) : Nat := if (labsOf L seat m).getD 0 none ≠ none ∧ (labsOf L seat m).getD 0 none = labOf L seat m then 1 else 0
/-- all that was made since H is read for ever -/
def adopt (R H H' : Hp) : Hp := fun b => match H b with
  | none => H' b
  | some _ => R b
theorem adopt_at {R H H' : Hp} {b : Addr} {o : HO} (n : H b = none) (e : H' b = some o) : adopt R H H' b = some o := by unfold adopt; rw [n]; exact e
theorem adopt_gr {R H H' : Hp} (sR : Same R H) (s : Same H H') : Gr [] R H (adopt R H H') H' := by
  refine ⟨fun b o e => ?_, fun b o e => ?_, fun b o _ e => s b o e, fun b o e n => ?_, fun b o e => ⟨o, s b o e⟩⟩
  · unfold adopt; rw [sR b o e]; exact e
  · unfold adopt at e
    split at e
    · exact e
    · exact s b o (sR b o e)
  · unfold adopt; rw [e]; exact n
def NewDp (K : PySem.W.Frag) (H H' : Hp) (w : V) (d : PyData) : Prop := ∀ R, Dp K (adopt R H H') w d
theorem dp_nones {K : PySem.W.Frag} {H : Hp} : ∀ k : Nat, DpAll K H (List.replicate k .non) ((List.replicate k (none : Cell)).map cellD)
  | 0 => .nil
  | k + 1 => by rw [List.replicate_succ, List.replicate_succ, List.map_cons]; exact .cons .non (dp_nones k)
end Sk

namespace Sk
open PySem L2
/-! ### blocks that rot: the plain side -/
/-- a block that may lie in a cell here -/
structure BW (L : Lay) (b : Blk) : Prop where
  x : BlkX L b
  oct : b.kind = 3 → ∀ n ∈ b.body, 0 ≤ n ∧ n < 256
  no : (found b.kind b.body).getD 0 0 ≠ 83 ∨ (found b.kind b.body).getD 3 0 ≠ 83
def CW (L : Lay) : Cell → Prop
  | none => True
  | some (b, _) => ∀ x, b = some x → BW L x
theorem BW.few {L : Lay} (hL : L.Ok) {b : Blk} (h : BW L b) : b.body.length ≤ 300 := (blkOk_of hL (b := some b) fun x e => by cases e; exact h.x).2
theorem BW.octblk {L : Lay} (hL : L.Ok) {b : Blk} (h : BW L b) : OctBlk L b := ⟨h.x.full.k, h.x.s0, h.x.full.d, h.few hL, h.oct⟩
theorem CW.ok {L : Lay} (hL : L.Ok) : ∀ {c : Cell}, CW L c → CellOk c
  | none, _ => trivial
  | some (none, _), _ => trivial
  | some (some b, _), h => by
    show BlkOk (some b)
    exact blkOk_of hL fun x e => by cases e; exact (h b rfl).x
theorem CW.octblk {L : Lay} (hL : L.Ok) {c : Cell} (h : CW L c) : ∀ b k, c = some (some b, k) → OctBlk L b := fun b k e => by subst e; exact (h b rfl).octblk hL
/-- octets of a cell -/
structure OW (L : Lay) (o : List Int) : Prop where
  len : (o.length : Int) = 16 + L.oct
  rng : ∀ n ∈ o, 0 ≤ n ∧ n < 256
  no : o.getD 16 0 ≠ 83 ∨ o.getD 19 0 ≠ 83
def readO (o : List Int) : Option Blk := if 3 ≤ o.getD 0 0 ∧ o.getD 0 0 ≤ 5 ∧ (∀ n ∈ (o.drop 9).take 7, n = 0) then
  some ⟨o.getD 0 0, numOf ((o.drop 1).take 6), numOf ((o.drop 7).take 2), if o.getD 0 0 = 3 then o.drop 16 else halves (o.drop 16)⟩ else none
theorem getD_app16 {l m : List Int} {n : Nat} (h : l.length = n) (i : Nat) : (l ++ m).getD (n + i) 0 = m.getD i 0 := by
  rw [List.getD_eq_getElem?_getD, List.getD_eq_getElem?_getD, List.getElem?_append_right (by omega), h, Nat.add_sub_cancel_left]
theorem pairs_oct : ∀ {l : List Int}, (∀ n ∈ l, 0 ≤ n ∧ n < 65536) → ∀ n ∈ pairs l, 0 ≤ n ∧ n < 256
  | [], _, n, h => by rw [pairs] at h; exact absurd h List.not_mem_nil
  | a :: r, h, n, hn => by
    have ha := h a List.mem_cons_self
    rw [pairs] at hn
    rcases List.mem_cons.mp hn with rfl | hn
    · omega
    · rcases List.mem_cons.mp hn with rfl | hn
      · omega
      · exact pairs_oct (fun x hx => h x (List.mem_cons_of_mem _ hx)) n hn
theorem found_oct {L : Lay} {b : Blk} (h : BW L b) : ∀ n ∈ found b.kind b.body, 0 ≤ n ∧ n < 256 := by
  unfold found
  split
  · exact h.oct (by assumption)
  · exact pairs_oct (h.x.full.r (by assumption))
theorem OW.of {L : Lay} (hL : L.Ok) {b : Blk} (h : BW L b) : OW L (octs L (some b)) := by
  refine ⟨octs_len hL fun x e => by cases e; exact h.x, fun n hn => ?_, ?_⟩
  · rw [octs_full h.x.full] at hn
    rcases List.mem_append.mp hn with hn | hn
    · unfold headOf at hn
      rcases List.mem_append.mp hn with hn | hn
      · rcases List.mem_append.mp hn with hn | hn
        · rcases List.mem_append.mp hn with hn | hn
          · rw [List.mem_singleton] at hn
            have := h.x.k5; have := h.x.full.k
            omega
          · exact lows_oct _ _ _ hn
        · exact lows_oct _ _ _ hn
      · rw [List.eq_of_mem_replicate hn]; decide
    · exact found_oct h n hn
  · rw [octs_full h.x.full]
    have e0 := getD_app16 (m := found b.kind b.body) (headOf_len b) 0
    have e3 := getD_app16 (m := found b.kind b.body) (headOf_len b) 3
    rw [e0, e3]
    exact h.no
theorem OW.set {L : Lay} {o : List Int} (h : OW L o) {v : Int} (v0 : 0 ≤ v) (v1 : v < 80) (i : Nat) : OW L (o.set i v) := by
  refine ⟨by rw [List.length_set]; exact h.len, fun n hn => ?_, ?_⟩
  · rcases List.mem_or_eq_of_mem_set hn with hn | rfl
    · exact h.rng n hn
    · omega
  · have g : ∀ j : Nat, o.getD j 0 ≠ 83 → (o.set i v).getD j 0 ≠ 83 := fun j hj => by
      rw [List.getD_eq_getElem?_getD] at hj ⊢
      by_cases e : i = j
      · subst e
        by_cases hl : i < o.length
        · rw [List.getElem?_set_self hl]; simp; omega
        · rw [List.getElem?_eq_none (by rw [List.length_set]; omega)]; simp
      · rw [List.getElem?_set_ne e]; exact hj
    rcases h.no with h | h
    · exact .inl (g _ h)
    · exact .inr (g _ h)
theorem pairs_halves : ∀ (k : Nat) {o : List Int}, o.length = 2 * k → (∀ n ∈ o, 0 ≤ n ∧ n < 256) → pairs (halves o) = o
  | 0, o, h, _ => by
    have : o = [] := List.length_eq_zero_iff.mp (by omega)
    subst this; rfl
  | k + 1, a :: b :: r, h, hr => by
    have hr2 : r.length = 2 * k := by simp only [List.length_cons] at h; omega
    have ih := pairs_halves k hr2 (fun x hx => hr x (by simp [hx]))
    have ha := hr a (by simp)
    have hb := hr b (by simp)
    have e : halves (a :: b :: r) = (a + 256 * b) :: halves r := by
      unfold halves
      rw [show (a :: b :: r).length / 2 = r.length / 2 + 1 by simp only [List.length_cons]; omega, List.range_succ_eq_map, List.map_cons, List.map_map]
      congr 1
    rw [e, pairs, ih]
    congr 1
    · omega
    · congr 1; omega
  | k + 1, [a], h, _ => by simp at h; omega
  | k + 1, [], h, _ => by simp at h
theorem halves_rng {o : List Int} (h : ∀ n ∈ o, 0 ≤ n ∧ n < 256) : ∀ n ∈ halves o, 0 ≤ n ∧ n < 65536 := fun n hn => by
  unfold halves at hn
  obtain ⟨k, hk, rfl⟩ := List.mem_map.mp hn
  rw [List.mem_range] at hk
  have g : ∀ i, i < o.length → 0 ≤ o.getD i 0 ∧ o.getD i 0 < 256 := fun i hi => by
    rw [List.getD_eq_getElem?_getD, List.getElem?_eq_getElem hi]; exact h _ (List.getElem_mem hi)
  have := g (2 * k) (by omega)
  have := g (2 * k + 1) (by omega)
  omega
theorem numOf_rng : ∀ {l : List Int}, (∀ n ∈ l, 0 ≤ n ∧ n < 256) → 0 ≤ numOf l ∧ numOf l < 256 ^ l.length
  | [], _ => by simp [numOf]
  | a :: r, h => by
    have ih := numOf_rng (l := r) fun x hx => h x (List.mem_cons_of_mem _ hx)
    have ha := h a List.mem_cons_self
    rw [numOf, List.length_cons, Int.pow_succ]
    omega
theorem lows_numOf : ∀ {l : List Int}, (∀ n ∈ l, 0 ≤ n ∧ n < 256) → lows (numOf l) l.length = l
  | [], _ => rfl
  | a :: r, h => by
    have ih := lows_numOf (l := r) fun x hx => h x (List.mem_cons_of_mem _ hx)
    have ha := h a List.mem_cons_self
    rw [List.length_cons, lows, numOf]
    rw [show (numOf r * 256 + a) % 256 = a by omega, show (numOf r * 256 + a) / 256 = numOf r by omega, ih]
/-- the block that octets of a kind tell, read or not -/
def bareO (o : List Int) : Blk := ⟨o.getD 0 0, numOf ((o.drop 1).take 6), numOf ((o.drop 7).take 2), if o.getD 0 0 = 3 then o.drop 16 else halves (o.drop 16)⟩
theorem readO_eq (o : List Int) : readO o = if 3 ≤ o.getD 0 0 ∧ o.getD 0 0 ≤ 5 ∧ (∀ n ∈ (o.drop 9).take 7, n = 0) then some (bareO o) else none := rfl
section
variable {L : Lay} {o : List Int}
theorem OW.sub (h : OW L o) (i k : Nat) : ∀ n ∈ (o.drop i).take k, 0 ≤ n ∧ n < 256 := fun n hn => h.rng n (List.mem_of_mem_drop (List.mem_of_mem_take hn))
theorem OW.split (hL : L.Ok) (h : OW L o) : o = ([o.getD 0 0] ++ (o.drop 1).take 6 ++ (o.drop 7).take 2) ++ (o.drop 9).take 7 ++ o.drop 16 := by
  have := h.len; have o1 := hL.o1
  match o, show 16 ≤ o.length by omega with
  | b0 :: b1 :: b2 :: b3 :: b4 :: b5 :: b6 :: b7 :: b8 :: b9 :: b10 :: b11 :: b12 :: b13 :: b14 :: b15 :: r, _ => rfl
theorem OW.bare_full (hL : L.Ok) (h : OW L o) (k3 : 3 ≤ o.getD 0 0) : Full L (bareO o) := by
  have hl := h.len; have o1 := hL.o1
  refine ⟨k3, fun e => ?_, fun e => ?_, fun e => ?_⟩
  · have e' : o.getD 0 0 = 3 := e
    show ((if o.getD 0 0 = 3 then o.drop 16 else halves (o.drop 16)).length : Int) = _
    rw [if_pos e', List.length_drop]; omega
  · have e' : ¬ o.getD 0 0 = 3 := e
    show 2 * ((if o.getD 0 0 = 3 then o.drop 16 else halves (o.drop 16)).length : Int) = _
    rw [if_neg e']
    unfold halves
    rw [List.length_map, List.length_range, List.length_drop]; omega
  · have e' : ¬ o.getD 0 0 = 3 := e
    show ∀ n ∈ (if o.getD 0 0 = 3 then o.drop 16 else halves (o.drop 16)), _
    rw [if_neg e']
    exact halves_rng fun n hn => h.rng n (List.mem_of_mem_drop hn)
theorem OW.bare_found (hL : L.Ok) (h : OW L o) : found (bareO o).kind (bareO o).body = o.drop 16 := by
  have hl := h.len; have o1 := hL.o1
  show found (o.getD 0 0) (if o.getD 0 0 = 3 then o.drop 16 else halves (o.drop 16)) = _
  unfold found
  split
  · rfl
  · exact pairs_halves ((o.length - 16) / 2) (by rw [List.length_drop]; omega) fun n hn => h.rng n (List.mem_of_mem_drop hn)
theorem OW.bare_octs (hL : L.Ok) (h : OW L o) (k3 : 3 ≤ o.getD 0 0) : octs L (some (bareO o)) = o ↔ ∀ n ∈ (o.drop 9).take 7, n = 0 := by
  have hl := h.len; have o1 := hL.o1
  have sp := h.split hL
  have l6 : ((o.drop 1).take 6).length = 6 := by rw [List.length_take, List.length_drop]; omega
  have l2 : ((o.drop 7).take 2).length = 2 := by rw [List.length_take, List.length_drop]; omega
  have l7 : ((o.drop 9).take 7).length = 7 := by rw [List.length_take, List.length_drop]; omega
  have e6 := lows_numOf (h.sub 1 6)
  have e2 := lows_numOf (h.sub 7 2)
  rw [l6] at e6
  rw [l2] at e2
  rw [octs_full (h.bare_full hL k3), h.bare_found hL]
  have eh : headOf (bareO o) = ([o.getD 0 0] ++ (o.drop 1).take 6 ++ (o.drop 7).take 2) ++ List.replicate 7 0 := by
    unfold headOf
    show ([o.getD 0 0] ++ lows (numOf ((o.drop 1).take 6)) 6 ++ lows (numOf ((o.drop 7).take 2)) 2) ++ _ = _
    rw [e6, e2]
  rw [eh]
  constructor
  · intro e n hn
    have e' := e.trans sp
    have e' := List.append_cancel_right e'
    have e' := List.append_cancel_left e'
    rw [← e'] at hn
    exact List.eq_of_mem_replicate hn
  · intro e
    have : (o.drop 9).take 7 = List.replicate 7 0 := List.eq_replicate_iff.mpr ⟨l7, e⟩
    rw [← this]
    exact sp.symm
theorem OW.read (hL : L.Ok) (h : OW L o) {b : Blk} (e : readO o = some b) : BW L b := by
  have hl := h.len; have o1 := hL.o1
  rw [readO_eq] at e
  split at e
  · rename_i c
    obtain ⟨c3, c5, c0⟩ := c
    cases e
    have r6 := numOf_rng (h.sub 1 6)
    have r2 := numOf_rng (h.sub 7 2)
    rw [show ((o.drop 1).take 6).length = 6 by rw [List.length_take, List.length_drop]; omega] at r6
    rw [show ((o.drop 7).take 2).length = 2 by rw [List.length_take, List.length_drop]; omega] at r2
    refine ⟨⟨h.bare_full hL c3, c5, r6.1, ?_, r2.1, ?_⟩, fun e => ?_, ?_⟩
    · have := r6.2; show numOf ((o.drop 1).take 6) < 281474976710656; omega
    · have := r2.2; show numOf ((o.drop 7).take 2) < 65536; omega
    · have e' : o.getD 0 0 = 3 := e
      show ∀ n ∈ (if o.getD 0 0 = 3 then o.drop 16 else halves (o.drop 16)), _
      rw [if_pos e']
      exact fun n hn => h.rng n (List.mem_of_mem_drop hn)
    · rw [h.bare_found hL]
      have g : ∀ j : Nat, (o.drop 16).getD j 0 = o.getD (16 + j) 0 := fun j => by
        rw [List.getD_eq_getElem?_getD, List.getD_eq_getElem?_getD, List.getElem?_drop]
      rw [g, g]
      exact h.no
  · cases e
end
/-! what rot makes of rows -/
def Rows.rot (L : Lay) (m : Rows) (n i : Nat) (v : Int) : Rows := match m.sure[n]? with
  | some (some (some b, k)) => m.decay n (some (readO ((octs L (some b)).set i v), k))
  | _ => m
/-! ### rows that keep the rules -/
structure RsW (L : Lay) (k : Nat) (m : Rows) : Prop where
  ls : (m.sure.length : Int) = L.device + 2
  ln : (m.seen.length : Int) = L.device + 2
  lw : m.wait.length ≤ k
  wi : ∀ q ∈ m.wait, q.1 < m.sure.length
  c1 : ∀ c ∈ m.sure, CW L c
  c2 : ∀ c ∈ m.seen, CW L c
  c3 : ∀ q ∈ m.wait, CW L q.2
section
variable {L : Lay} {k : Nat} {m : Rows}
theorem RsW.up (h : RsW L k m) {j : Nat} (z : k ≤ j) : RsW L j m := ⟨h.ls, h.ln, Nat.le_trans h.lw z, h.wi, h.c1, h.c2, h.c3⟩
theorem mem_set {P : Cell → Prop} {l : List Cell} {n : Nat} {c : Cell} (h : ∀ x ∈ l, P x) (hc : P c) : ∀ x ∈ l.set n c, P x := fun x hx => by
  rcases List.mem_or_eq_of_mem_set hx with hx | rfl
  · exact h x hx
  · exact hc
theorem RsW.put (h : RsW L k m) {n : Nat} {c : Cell} (hn : n < m.sure.length) (hc : CW L c) : RsW L (k + 1) (m.put n c) :=
  ⟨h.ls, by show ((m.seen.set n c).length : Int) = _; rw [List.length_set]; exact h.ln, by show (m.wait ++ [(n, c)]).length ≤ _; rw [List.length_append]; have := h.lw; simp; omega,
    fun q hq => by rcases List.mem_append.mp hq with hq | hq; exact h.wi q hq; rw [List.mem_singleton] at hq; subst hq; exact hn,
    h.c1, mem_set h.c2 hc, fun q hq => by rcases List.mem_append.mp hq with hq | hq; exact h.c3 q hq; rw [List.mem_singleton] at hq; subst hq; exact hc⟩
theorem barL_mem {P : Cell → Prop} : ∀ {w : List (Nat × Cell)} {s : List Cell}, (∀ x ∈ s, P x) → (∀ q ∈ w, P q.2) → ∀ x ∈ barL s w, P x
  | [], _, h, _ => h
  | q :: r, s, h, hw => by
    have e : barL s (q :: r) = barL (s.set q.1 q.2) r := rfl
    rw [e]
    exact barL_mem (mem_set h (hw q List.mem_cons_self)) fun x hx => hw x (List.mem_cons_of_mem _ hx)
theorem RsW.bar (h : RsW L k m) : RsW L 0 m.bar := ⟨by show ((barL m.sure m.wait).length : Int) = _; rw [barL_len]; exact h.ls, h.ln, Nat.le_refl 0, fun q hq => absurd hq List.not_mem_nil, barL_mem h.c1 h.c3, h.c2, fun q hq => absurd hq List.not_mem_nil⟩
theorem RsW.decay (h : RsW L k m) {n : Nat} {c : Cell} (hc : CW L c) : RsW L k (m.decay n c) := by
  refine ⟨by show ((m.sure.set n c).length : Int) = _; rw [List.length_set]; exact h.ls, ?_, h.lw, fun q hq => by show _ < (m.sure.set n c).length; rw [List.length_set]; exact h.wi q hq, mem_set h.c1 hc, ?_, h.c3⟩
  · show ((if n ∈ m.wait.map (·.1) then m.seen else m.seen.set n c).length : Int) = _
    split
    · exact h.ln
    · rw [List.length_set]; exact h.ln
  · show ∀ x ∈ (if n ∈ m.wait.map (·.1) then m.seen else m.seen.set n c), _
    split
    · exact h.c2
    · exact mem_set h.c2 hc
theorem leftStep_mem {P : Cell → Prop} (h0 : P none) {kept torn : List Int} {w : List (Nat × Cell)} {l : List Cell} {i : Nat} (h : ∀ x ∈ l, P x) (hw : ∀ q ∈ w, P q.2) : ∀ x ∈ leftStep kept torn w l i, P x := by
  unfold leftStep
  split
  · exact h
  · rename_i q e
    split
    · exact mem_set h h0
    · split
      · exact mem_set h (hw q (List.mem_of_getElem? e))
      · exact h
theorem leftTo_mem {P : Cell → Prop} (h0 : P none) {s : List Cell} {kept torn : List Int} {w : List (Nat × Cell)} (h : ∀ x ∈ s, P x) (hw : ∀ q ∈ w, P q.2) : ∀ k, ∀ x ∈ leftTo s w kept torn k, P x
  | 0 => h
  | k + 1 => by rw [leftTo_succ]; exact leftStep_mem h0 (leftTo_mem h0 h hw k) hw
theorem RsW.left (h : RsW L k m) (kept torn : List Int) : RsW L 0 (m.left kept torn) := by
  have c := leftTo_mem (P := CW L) trivial (kept := kept) (torn := torn) h.c1 h.c3 m.wait.length
  have l : ((leftTo m.sure m.wait kept torn m.wait.length).length : Int) = L.device + 2 := by rw [leftTo_len]; exact h.ls
  exact ⟨l, l, Nat.le_refl 0, fun q hq => absurd hq List.not_mem_nil, c, c, fun q hq => absurd hq List.not_mem_nil⟩
theorem RsW.settle (h : RsW L k m) : RsW L 0 m.settle := ⟨h.ln, h.ln, Nat.le_refl 0, fun q hq => absurd hq List.not_mem_nil, h.c2, h.c2, fun q hq => absurd hq List.not_mem_nil⟩
theorem RsW.rot (hL : L.Ok) (h : RsW L k m) {n i : Nat} {v : Int} (v0 : 0 ≤ v) (v1 : v < 80) : RsW L k (m.rot L n i v) := by
  unfold Rows.rot
  split
  · rename_i b c e
    have hb : BW L b := h.c1 _ (List.mem_of_getElem? e) b rfl
    exact h.decay fun x hx => ((OW.of hL hb).set v0 v1 i).read hL hx
  · exact h
end
theorem labelBlk_W {L : Lay} (hL : L.Ok) {seat : Int} (h0 : 0 ≤ seat) (h3 : seat < 3) {l : Lb} (g : 0 ≤ l.gen) (g1 : l.gen < 281474976710656) (few : l.forks.length ≤ 16) : BW L (labelBlk L seat l) := by
  have o := octblk_label hL h0 h3 g few
  refine ⟨⟨⟨Int.le_refl 3, o.len, fun e => absurd rfl e, fun e => absurd rfl e⟩, by show (3 : Int) ≤ 5; decide, g, g1, Int.le_refl 0, by show (0 : Int) < 65536; decide⟩, o.oct, .inr ?_⟩
  show (found 3 (labelOcts L seat l)).getD 3 0 ≠ 83
  show (labelOcts L seat l).getD 3 0 ≠ 83
  have : (labelOcts L seat l).getD 3 0 = 69 := rfl
  rw [this]
  decide
theorem sealW {L : Lay} {n : Int} {b : Option Blk} (h : ∀ x, b = some x → BW L x) : CW L (sealOf L n b) := by
  cases b with
  | none => trivial
  | some b => exact fun x e => by cases e; exact h b rfl
theorem sqL_frame {K : PySem.W.Frag} {R H H1 : Hp} {c p : Addr} {us : List V} (g : Gr [p] R H R H1) (h : SqL K H c us) (ne : c ≠ p) : SqL K H1 c us := by
  rcases h with (h | ⟨o, h⟩) | h
  · exact .inl (.inl (g.hh _ _ (nin1 ne) h))
  · exact .inl (.inr ⟨o, g.hh _ _ (nin1 ne) h⟩)
  · exact .inr h
theorem sqL_new {K : PySem.W.Frag} {R H H1 H2 : Hp} {c p : Addr} {us : List V} {o : HO} (n : H p = none) (g1 : Gr [] R H R H1) (e : H1 p = some o) (g : Gr [p] R H1 R H2) (h : SqL K H c us) : SqL K H2 c us := by
  rcases h with (h | ⟨o, h⟩) | h
  · exact .inl (.inl (g.hh _ _ (nin1 (ne_of_none h n)) (g1.same _ _ h)))
  · exact .inl (.inr ⟨o, g.hh _ _ (nin1 (ne_of_none h n)) (g1.same _ _ h)⟩)
  · exact .inr h
/-! comprehensions that draw -/
def DrawInv (R H0 : Hp) (b D : Addr) (j : Nat) (H : Hp) : Prop := ∃ (m : Int) (us : List Int), Mu [b, D] R H0 H ∧ H b = some (.lst [.int m]) ∧ H D = some (.lst (us.map V.int)) ∧ us.length ≤ j
theorem Gr.app {M : List Addr} {R H0 H : Hp} {D : Addr} {o o' : HO} (g : Gr M R H0 R H) (RD : R D = none) (hD : H D = some o) (hM : D ∈ M) : Gr M R H0 R (upd H D o') :=
  g.trans ((Gr.mut g.rh RD hD).mono fun x hx => by rw [List.mem_singleton.mp hx]; exact hM)
theorem draw_0 {R H : Hp} {b D : Addr} {n : Int} (sR : Same R H) (hb : H b = some (.lst [.int n])) (nD : H D = none) : DrawInv R (upd H D (.lst [])) b D 0 (upd H D (.lst [])) :=
  ⟨n, [], ⟨Gr.refl (Gr.newM (M := []) sR nD).rh⟩, by rw [upd_ne (ne_of_none hb nD)]; exact hb, upd_same, Nat.le_refl _⟩
theorem draw_end {R H H1 : Hp} {b D : Addr} {j : Nat} (sR : Same R H) (nD : H D = none) (h : DrawInv R (upd H D (.lst [])) b D j H1) : ∃ (m : Int) (us : List Int), Mu [b] R H H1 ∧ H1 b = some (.lst [.int m]) ∧ H1 D = some (.lst (us.map V.int)) ∧ us.length ≤ j := by
  obtain ⟨n1, us1, g1, h1, hD1, ul1⟩ := h
  exact ⟨n1, us1, ⟨(show Gr [b, D] R H R H1 from ((Gr.newM (M := []) sR nD).nil).trans g1.g).forget (by intro x hx hn; simp at hx hn; rcases hx with rfl | rfl; exact absurd rfl hn; exact nD)⟩, h1, hD1, ul1⟩
theorem pick3 {x y z j : Int} (h : 0 ≤ j ∧ j < 3) : ∃ q, atI [V.int x, .int y, .int z] j = some (.int q) ∧ (q = x ∨ q = y ∨ q = z) := by
  obtain ⟨i, rfl⟩ := Int.eq_ofNat_of_zero_le h.1
  match i, h with
  | 0, _ => exact ⟨x, rfl, .inl rfl⟩
  | 1, _ => exact ⟨y, rfl, .inr (.inl rfl)⟩
  | 2, _ => exact ⟨z, rfl, .inr (.inr rfl)⟩
  | n + 3, h => omega
theorem pickT {x y j : Int} (h : 0 ≤ j ∧ j < 2) : ∃ q, atI [V.int x, .int y] j = some (.int q) ∧ (q = x ∨ q = y) := by
  have : j = 0 ∨ j = 1 := by omega
  rcases this with rfl | rfl
  · exact ⟨x, rfl, .inl rfl⟩
  · exact ⟨y, rfl, .inr rfl⟩
theorem mod_rng (n : Int) {z : Int} (h : 0 < z) : 0 ≤ n % z ∧ n % z < z := ⟨Int.emod_nonneg _ (by omega), Int.emod_lt_of_pos _ h⟩
/-- what is new is apart from what was there -/
theorem Dj.new {H : Hp} {a b : List Addr} (n : ∀ x ∈ a, H x = none) (e : ∀ x ∈ b, ∃ o, H x = some o) : Dj a b := fun x ha hb => by
  obtain ⟨o, ho⟩ := e x hb; rw [n x ha] at ho; cases ho
theorem nin_new {H : Hp} {a : List Addr} {b : Addr} {o : HO} (n : ∀ x ∈ a, H x = none) (e : H b = some o) : b ∉ a := fun h => by rw [n b h] at e; cases e
theorem Dj.nin {a : List Addr} {b : Addr} (h : b ∉ a) : Dj a [b] := fun x hx e => h (by rw [← List.mem_singleton.mp e]; exact hx)
end Sk

namespace Sk
open PySem L2
/-! ### more rules: dicts -/
section
open PyProof.Rows
variable {X : Cx} {K : PySem.W.Frag} {e : Expr} {te : TE} {p apos cpos pos : Pos}
def rListV : V → Hp → VK → Prop := fun x H Q => ∃ (d : Addr) (kvs : List (Key × V)), x = .ref d ∧ H d = some (.dK kvs) ∧ ∀ p, H p = none → Q (.ref p) (upd H p (.lst (kvs.map (·.2))))
def tListV (te : TE) : TE := fun σ H Q => te σ H fun x H1 => rListV x H1 Q
/-- list(e.values()) -/
theorem pe_listV (hc : X.calm = true) (he : PE X e te) (hg : Gl X "list") (hm : X.mg "list" = none) (hv : bootBuiltins "list" = some (.type "list")) (hbase : attributeBase e "values" X.env (eval e X.env) = eval e X.env := by rfl) (hline : (apos.endLine == cpos.line) = true := by rfl)
    (hs : starEach [.Call (.Attribute e "values" apos) [] [] cpos] X.env = (false, eval (.Call (.Attribute e "values" apos) [] [] cpos) X.env) :: starEach [] X.env := by rfl) :
    PE X (.Call (.Name "list" p) [.Call (.Attribute e "values" apos) [] [] cpos] [] pos) (tListV te) := by
  refine ⟨fun pins s σ H Q I hq => ?_⟩
  refine wpAny_Call_Name_kw (ld_blt I hg hm hv ?_)
  refine PyProof.Rows.callWith_type1 ?_ hs rfl
  rw [hs]
  show wpAny _ _ (spliced ((false, eval (.Call (.Attribute e "values" apos) [] [] cpos) X.env) :: backTo pos (starEach [] X.env))) _ _ s
  refine Calls.spliced_cons ?_
  refine wpAny_Call_method (T := "dict") (id := "dict.values") hbase rfl hline F.plainAttrs_dict F.slot_dict_values F.type_dict_values (thn (he.run pins s σ H _ I hq) fun u s1 ⟨x, H1, I1, rx, d, kvs, ex, hd, q⟩ => ?_)
  subst ex
  obtain rfl : u = Value.ref d := rx
  obtain ⟨hz, hs0, vs, kv, hdo⟩ := I1.hok d _ hd
  obtain ⟨ep, hat⟩ := hdo.dictAt
  have lk : kvs.length = vs.length := Paired.length kv
  have I2 : Inv X pins σ H1 { s1 with heap := s1.heap.push { cls := .type "dict_values", data := .fields #[.ref d] } } := I1.kept (t' := s1.toks) fun b ob q => Heap.get?_push_of_some _ q
  refine ⟨hdo.typeIs, hdo.mapOf.noDict, ?_⟩
  show wpAny _ _ (callWith cpos (.builtin "dict.values") [.ref d] [] []) _ X.xe s1
  refine method_meetsIn F.slot_dict_values F.entry_dict_values rfl (PySem.evalArgs_none ⟨rfl, hdo.typeIs, F.args_dict_values_1 _, _, meets_dict_values (mixKind X.prog X.w) d hs0, ⟨vs, hdo⟩, ?_⟩)
  refine Calls.spliced_nil ?_
  refine PySem.W.kdl_call (PySem.W.kdl_values (knd := mixKind X.prog X.w) (kvs := vs) (ep := ep)) (I1.ok.hd hc) ⟨⟨_, Heap.get?_push_size _ rfl, rfl, rfl⟩, hat.push _⟩ (by rw [← lk]; exact hz) fun h' tk acc c' hk hD hacc => ?_
  have hvs : acc.toList = vs.map (·.2) := PySem.W.kdl_vals_eq acc.toList (by rw [Array.length_toList]; exact hacc.1) fun j v e => hacc.2 j v (by rw [← Array.getElem?_toList]; exact e)
  have hval : Vals (kvs.map (·.2)) acc.toList := by
    rw [hvs]
    clear hacc hat hdo hz I1 I2 q hd hD hvs
    induction kv with
    | nil => exact .nil
    | cons r t ih => exact .cons r.2 (ih (Paired.length t))
  have hp : H1 (s1.heap.push { cls := .type "dict_values", data := .fields #[.ref d] }).objs.size = none := I2.hok.fresh (Nat.le_refl _)
  refine ⟨.ref _, upd H1 (s1.heap.push { cls := .type "dict_values", data := .fields #[.ref d] }).objs.size (.lst (kvs.map (·.2))), I2.laid (t' := tk) hk (Nat.le_refl _)
    (show ObjOk X.prog X.w _ _ _ (.lst (kvs.map (·.2))) from ⟨by rw [List.length_map]; exact hz, acc.toList, c', hval, by rw [Array.toArray_toList]; exact hD⟩), rfl, q _ hp⟩
end
theorem cr_sortedK {X : Cx} {K : PySem.W.Frag} (hK : X.K = K := by rfl) : CallR X (.builtin "sorted") (rSorted K) := hK ▸ cr_sorted
theorem cr_sumK {X : Cx} {K : PySem.W.Frag} (hc : X.calm = true) (hK : X.K = K := by rfl) : CallR X (.builtin "sum") (rSum K) := hK ▸ cr_sum hc
end Sk

namespace Sk
open PySem L2
/-! ### devices and sides whose power may have been cut -/
def Pw (dk : Bool) (f : V) (b : Bool) : Prop := match dk with
  | true => f = .int 0
  | false => f = .non ∧ b = false
def DevAtD (dk : Bool) (C : Addr) (H : Hp) (d a l1 l2 l3 : Addr) : Prop := ∃ dx f b, H d = some (.ins C dx [("layout", .ref a), ("sure", .ref l1), ("seen", .ref l2), ("waiting", .ref l3), ("fuse", f), ("dark", .bl b)]) ∧ Pw dk f b
/-- a device, whatever its power -/
def DevG (C : Addr) (H : Hp) (d a l1 l2 l3 : Addr) : Prop := ∃ dx f b, H d = some (.ins C dx [("layout", .ref a), ("sure", .ref l1), ("seen", .ref l2), ("waiting", .ref l3), ("fuse", f), ("dark", .bl b)])
theorem DevAtD.g {dk : Bool} {C : Addr} {H : Hp} {d a l1 l2 l3 : Addr} (h : DevAtD dk C H d a l1 l2 l3) : DevG C H d a l1 l2 l3 := let ⟨dx, f, b, e, _⟩ := h; ⟨dx, f, b, e⟩
structure DevStD (dk : Bool) (K : PySem.W.Frag) (CD : Addr) (R H : Hp) (d a : Addr) (m : Rows) (l1 l2 l3 : Addr) : Prop where
  dev : DevAtD dk CD H d a l1 l2 l3
  nd : [d, l1, l2, l3].Nodup
  non : ∀ x ∈ [d, l1, l2, l3], R x = none
  ls : ∃ u1 u2 u3, ListsAt K R H l1 l2 l3 u1 u2 u3 m
def DevOkD (dk : Bool) (K : PySem.W.Frag) (CD : Addr) (R H : Hp) (d a : Addr) (m : Rows) (ds : List Addr) : Prop := ∃ l1 l2 l3, ds = [d, l1, l2, l3] ∧ DevStD dk K CD R H d a m l1 l2 l3
structure SideStD (dk : Bool) (K : PySem.W.Frag) (CS CD : Addr) (R H : Hp) (s a : Addr) (n : Int) (m : Rows) (d : Addr) (ds : List Addr) : Prop where
  side : SideIn CS H s a n d
  nin : s ∉ ds
  non : R s = none
  dev : DevOkD dk K CD R H d a m ds
def SideOkD (dk : Bool) (K : PySem.W.Frag) (CS CD : Addr) (R H : Hp) (s a : Addr) (n : Int) (m : Rows) (ms : List Addr) : Prop := ∃ d ds, ms = s :: ds ∧ SideStD dk K CS CD R H s a n m d ds
section
variable {K : PySem.W.Frag} {CS CD : Addr} {R H R' H' : Hp} {s a d g l1 l2 l3 : Addr} {n : Int} {m : Rows} {ms ds M : List Addr} {u1 u2 u3 : List V} {dk : Bool}
theorem DevStD.has (h : DevStD dk K CD R H d a m l1 l2 l3) : ∀ x ∈ [d, l1, l2, l3], ∃ o, H x = some o := fun x hx => by
  obtain ⟨u1, u2, u3, ls⟩ := h.ls
  obtain ⟨dx, f, b, e, pw⟩ := h.dev
  simp only [List.mem_cons, List.not_mem_nil, or_false] at hx
  rcases hx with rfl | rfl | rfl | rfl
  · exact ⟨_, e⟩
  · exact ⟨_, ls.h1⟩
  · exact ⟨_, ls.h2⟩
  · exact ⟨_, ls.h3⟩
theorem DevStD.frame (h : DevStD dk K CD R H d a m l1 l2 l3) (g : Gr M R H R' H') (dj : ∀ x ∈ [d, l1, l2, l3], x ∉ M) : DevStD dk K CD R' H' d a m l1 l2 l3 := by
  obtain ⟨u1, u2, u3, ls⟩ := h.ls
  obtain ⟨dx, f, b, e, pw⟩ := h.dev
  refine ⟨⟨dx, f, b, g.hh _ _ (dj _ (by simp)) e, pw⟩, h.nd, fun x hx => ?_, ⟨u1, u2, u3, ls.frame g (dj _ (by simp)) (dj _ (by simp)) (dj _ (by simp))⟩⟩
  obtain ⟨o, ho⟩ := h.has x hx
  exact g.fr _ _ ho (h.non x hx)
theorem DevOkD.frame (h : DevOkD dk K CD R H d a m ds) (g : Gr M R H R' H') (dj : ∀ x ∈ ds, x ∉ M) : DevOkD dk K CD R' H' d a m ds := by
  obtain ⟨l1, l2, l3, rfl, h⟩ := h
  exact ⟨l1, l2, l3, rfl, h.frame g dj⟩
theorem DevOkD.has (h : DevOkD dk K CD R H d a m ds) : ∀ x ∈ ds, ∃ o, H x = some o := by obtain ⟨l1, l2, l3, rfl, h⟩ := h; exact h.has
theorem DevOkD.non (h : DevOkD dk K CD R H d a m ds) : ∀ x ∈ ds, R x = none := by obtain ⟨l1, l2, l3, rfl, h⟩ := h; exact h.non
theorem DevOkD.ins (h : DevOkD dk K CD R H d a m ds) : ∃ dx l1 l2 l3 f b, H d = some (.ins CD dx [("layout", .ref a), ("sure", .ref l1), ("seen", .ref l2), ("waiting", .ref l3), ("fuse", f), ("dark", .bl b)]) := by
  obtain ⟨l1, l2, l3, eds, dst⟩ := h
  obtain ⟨dx, f, b, hd, pw⟩ := dst.dev
  exact ⟨dx, l1, l2, l3, f, b, hd⟩
theorem DevOk.toD (h : DevOk K CD R H d a m ds) : DevOkD false K CD R H d a m ds := by
  obtain ⟨l1, l2, l3, rfl, ⟨⟨dx, e⟩, nd, non, ls⟩⟩ := h
  exact ⟨l1, l2, l3, rfl, ⟨⟨dx, _, _, e, ⟨rfl, rfl⟩⟩, nd, non, ls⟩⟩
theorem SideOk.toD (h : SideOk K CS CD R H s a n m ms) : SideOkD false K CS CD R H s a n m ms := by
  obtain ⟨d, ds, rfl, ⟨side, nin, non, dev⟩⟩ := h
  exact ⟨d, ds, rfl, ⟨side, nin, non, dev.toD⟩⟩
theorem SideOkD.frame (h : SideOkD dk K CS CD R H s a n m ms) (g : Gr M R H R' H') (dj : ∀ x ∈ ms, x ∉ M) : SideOkD dk K CS CD R' H' s a n m ms := by
  obtain ⟨d, ds, rfl, ⟨⟨sx, hs⟩, nin, non, dev⟩⟩ := h
  exact ⟨d, ds, rfl, ⟨⟨sx, g.hh _ _ (dj _ List.mem_cons_self) hs⟩, nin, g.fr _ _ hs non, dev.frame g fun x hx => dj x (List.mem_cons_of_mem _ hx)⟩⟩
theorem SideOkD.has (h : SideOkD dk K CS CD R H s a n m ms) : ∀ x ∈ ms, ∃ o, H x = some o := by
  obtain ⟨d, ds, rfl, ⟨⟨sx, hs⟩, nin, non, dev⟩⟩ := h
  intro x hx
  rcases List.mem_cons.mp hx with rfl | hx
  · exact ⟨_, hs⟩
  · exact dev.has x hx
theorem SideOkD.non (h : SideOkD dk K CS CD R H s a n m ms) : ∀ x ∈ ms, R x = none := by
  obtain ⟨d, ds, rfl, ⟨⟨sx, hs⟩, nin, non, dev⟩⟩ := h
  intro x hx
  rcases List.mem_cons.mp hx with rfl | hx
  · exact non
  · exact dev.non x hx
end
/-! ### rows under a power cut -/
def Rows.putD (dk : Bool) (m : Rows) (n : Nat) (c : Cell) : Rows := if dk = true then ⟨m.sure, m.seen.set n c, m.wait⟩ else m.put n c
def Rows.barD (dk : Bool) (m : Rows) : Rows := if dk = true then m else m.bar
theorem RsW.putD {L : Lay} {k : Nat} {m : Rows} {dk : Bool} (h : RsW L k m) {n : Nat} {c : Cell} (hn : n < m.sure.length) (hc : CW L c) : RsW L (k + 1) (m.putD dk n c) := by
  unfold Rows.putD
  split
  · exact ⟨h.ls, by show ((m.seen.set n c).length : Int) = _; rw [List.length_set]; exact h.ln, Nat.le_succ_of_le h.lw, h.wi, h.c1, mem_set h.c2 hc, h.c3⟩
  · exact h.put hn hc
theorem RsW.barD {L : Lay} {k : Nat} {m : Rows} {dk : Bool} (h : RsW L k m) : RsW L k (m.barD dk) := by
  unfold Rows.barD
  split
  · exact h
  · exact h.bar.up (Nat.zero_le k)
structure Pow where
  fuse : Option Int
  dark : Bool
def Pow.tick (p : Pow) : Pow := match p.fuse with
  | none => p
  | some f => if p.dark = true then p else if 0 < f then ⟨some (f - 1), false⟩ else ⟨some f, true⟩
def fuseV : Option Int → V
  | none => .non
  | some f => .int f
/-- the law's row of a side -/
def rowF (n1 n2 n3 : Addr) : List (Key × V) := [(.inr "sure", .ref n1), (.inr "seen", .ref n2), (.inr "waiting", .ref n3)]
structure RowSt (K : PySem.W.Frag) (R H : Hp) (g : Addr) (m : Rows) (n1 n2 n3 : Addr) : Prop where
  mod : H g = some (.dK (rowF n1 n2 n3))
  nd : [g, n1, n2, n3].Nodup
  non : ∀ x ∈ [g, n1, n2, n3], R x = none
  ls : ∃ u1 u2 u3, ListsAt K R H n1 n2 n3 u1 u2 u3 m
def RowOk (K : PySem.W.Frag) (R H : Hp) (g : Addr) (m : Rows) (ms : List Addr) : Prop := ∃ n1 n2 n3, ms = [g, n1, n2, n3] ∧ RowSt K R H g m n1 n2 n3
section
variable {K : PySem.W.Frag} {R H R' H' : Hp} {g l1 l2 l3 : Addr} {m : Rows} {ms M : List Addr}
theorem RowSt.has (h : RowSt K R H g m l1 l2 l3) : ∀ x ∈ [g, l1, l2, l3], ∃ o, H x = some o := fun x hx => by
  obtain ⟨u1, u2, u3, ls⟩ := h.ls
  simp only [List.mem_cons, List.not_mem_nil, or_false] at hx
  rcases hx with rfl | rfl | rfl | rfl
  · exact ⟨_, h.mod⟩
  · exact ⟨_, ls.h1⟩
  · exact ⟨_, ls.h2⟩
  · exact ⟨_, ls.h3⟩
theorem RowOk.frame (h : RowOk K R H g m ms) (gr : Gr M R H R' H') (dj : ∀ x ∈ ms, x ∉ M) : RowOk K R' H' g m ms := by
  obtain ⟨l1, l2, l3, rfl, h⟩ := h
  obtain ⟨u1, u2, u3, ls⟩ := h.ls
  refine ⟨l1, l2, l3, rfl, ⟨gr.hh _ _ (dj _ (by simp)) h.mod, h.nd, fun x hx => ?_, ⟨u1, u2, u3, ls.frame gr (dj _ (by simp)) (dj _ (by simp)) (dj _ (by simp))⟩⟩⟩
  obtain ⟨o, ho⟩ := h.has x hx
  exact gr.fr _ _ ho (h.non x hx)
theorem RowOk.has (h : RowOk K R H g m ms) : ∀ x ∈ ms, ∃ o, H x = some o := by obtain ⟨l1, l2, l3, rfl, h⟩ := h; exact h.has
theorem RowOk.non (h : RowOk K R H g m ms) : ∀ x ∈ ms, R x = none := by obtain ⟨l1, l2, l3, rfl, h⟩ := h; exact h.non
theorem RowOk.at (h : RowOk K R H g m ms) : ∃ n1 n2 n3, H g = some (.dK (rowF n1 n2 n3)) := by obtain ⟨l1, l2, l3, rfl, h⟩ := h; exact ⟨_, _, _, h.mod⟩
end
/-! ### what a step may change, and what stands there then -/
structure Step (F F' : List Addr) (R H R' H' : Hp) : Prop where
  g : Gr F R H R' H'
  nw : Nw H F F'
section
variable {F F' F'' : List Addr} {R H R1 H1 R2 H2 : Hp}
theorem Step.refl (s : Same R H) : Step F F R H R H := ⟨Gr.refl s, Nw.refl⟩
theorem Step.trans (a : Step F F' R H R1 H1) (b : Step F' F'' R1 H1 R2 H2) : Step F F'' R H R2 H2 := by
  refine ⟨(Gr.trans (M := F ++ F') (a.g.mono fun x h => List.mem_append_left _ h) (b.g.mono fun x h => List.mem_append_right _ h)).forget fun x hx hn => ?_, fun x hx => ?_⟩
  · rcases List.mem_append.mp hx with h | h
    · exact absurd h hn
    · rcases a.nw x h with q | q
      · exact absurd q hn
      · exact q
  · rcases b.nw x hx with q | q
    · exact a.nw x q
    · exact .inr (a.g.free q)
theorem Step.of (g : Gr F R H R1 H1) : Step F F R H R1 H1 := ⟨g, Nw.refl⟩
theorem Step.same (s : Same R H) (k : Same H H1) : Step F F R H R H1 := ⟨(Mu.ofSame s k).g, Nw.refl⟩
theorem Step.nil (g : Gr [] R H R1 H1) : Step F F R H R1 H1 := ⟨g.nil, Nw.refl⟩
theorem Step.up (a : Step F F' R H R1 H1) {G G' : List Addr} (h : ∀ x ∈ F, x ∈ G) (h' : ∀ x ∈ G', x ∈ F' ∨ x ∈ G) : Step G G' R H R1 H1 := ⟨a.g.mono h, fun x hx => by
  rcases h' x hx with q | q
  · rcases a.nw x q with r | r
    · exact .inl (h x r)
    · exact .inr r
  · exact .inl q⟩
end
/-! ### entries by seat -/
structure Ent where
  z : Int
  s : Addr
  m : Rows
  ms : List Addr
def Ent.kv (e : Ent) : Key × V := (.inl e.z, .ref e.s)
def Ent.zm (e : Ent) : Int × Rows := (e.z, e.m)
def Ent.za (e : Ent) : Int × Addr := (e.z, e.s)
def Apart (own : List Addr) (es : List Ent) : Prop := (∀ e ∈ es, Dj own e.ms) ∧ es.Pairwise fun e f => Dj e.ms f.ms
def foot (own : List Addr) (es : List Ent) : List Addr := own ++ es.flatMap (·.ms)
theorem mem_foot {own : List Addr} {es : List Ent} {x : Addr} : x ∈ foot own es ↔ x ∈ own ∨ ∃ e ∈ es, x ∈ e.ms := by
  unfold foot
  rw [List.mem_append, List.mem_flatMap]
/-- the entry of seat z gets other rows, at other places -/
def updE (z : Int) (m : Rows) (ms : List Addr) (es : List Ent) : List Ent := es.map fun e => if e.z = z then { e with m := m, ms := ms } else e
def updR (z : Int) (f : Rows → Rows) (l : List (Int × Rows)) : List (Int × Rows) := l.map fun q => if q.1 = z then (q.1, f q.2) else q
theorem updE_kv {z : Int} {m : Rows} {ms : List Addr} {es : List Ent} : (updE z m ms es).map Ent.kv = es.map Ent.kv := by
  unfold updE
  rw [List.map_map]
  refine List.map_congr_left fun e _ => ?_
  show Ent.kv (if e.z = z then _ else e) = e.kv
  split <;> rfl
theorem updE_z {z : Int} {m : Rows} {ms : List Addr} {es : List Ent} : (updE z m ms es).map (·.z) = es.map (·.z) := by
  unfold updE
  rw [List.map_map]
  refine List.map_congr_left fun e _ => ?_
  show Ent.z (if e.z = z then _ else e) = e.z
  split <;> rfl
theorem updE_zm {z : Int} {f : Rows → Rows} {m : Rows} {ms : List Addr} {es : List Ent} (h : ∀ e ∈ es, e.z = z → m = f e.m) : (updE z m ms es).map Ent.zm = updR z f (es.map Ent.zm) := by
  unfold updE updR
  rw [List.map_map, List.map_map]
  refine List.map_congr_left fun e he => ?_
  show Ent.zm (if e.z = z then _ else e) = if e.z = z then (e.z, f e.m) else (e.z, e.m)
  by_cases q : e.z = z
  · rw [if_pos q, if_pos q, h e he q]; rfl
  · rw [if_neg q, if_neg q]; rfl
theorem updE_no {z : Int} {m : Rows} {ms : List Addr} {es : List Ent} (h : z ∉ es.map (·.z)) : updE z m ms es = es := by
  unfold updE
  refine (List.map_congr_left fun e he => ?_).trans (List.map_id _)
  rw [if_neg]
  · rfl
  · rintro rfl; exact h (List.mem_map.mpr ⟨e, he, rfl⟩)
theorem mem_updE {z : Int} {m : Rows} {ms : List Addr} {es : List Ent} {e : Ent} (h : e ∈ updE z m ms es) : (e ∈ es ∧ e.z ≠ z) ∨ ∃ e0 ∈ es, e0.z = z ∧ e = { e0 with m := m, ms := ms } := by
  unfold updE at h
  obtain ⟨e0, h0, rfl⟩ := List.mem_map.mp h
  by_cases q : e0.z = z
  · rw [if_pos q]; exact .inr ⟨e0, h0, q, rfl⟩
  · rw [if_neg q]; exact .inl ⟨h0, q⟩
theorem ent_unique {es : List Ent} (nd : (es.map (·.z)).Nodup) {e f : Ent} (he : e ∈ es) (hf : f ∈ es) (h : e.z = f.z) : e = f := by
  obtain ⟨i, hi, rfl⟩ := List.getElem_of_mem he
  obtain ⟨j, hj, rfl⟩ := List.getElem_of_mem hf
  have : i = j := (List.getElem_inj (h₀ := by simpa using hi) (h₁ := by simpa using hj) nd).mp (by simpa using h)
  subst this; rfl
theorem ent_val {es : List Ent} (nd : (es.map (·.z)).Nodup) {e : Ent} (he : e ∈ es) : valV (es.map Ent.kv) (.inl e.z) = some (.ref e.s) := by
  induction es with
  | nil => cases he
  | cons f r ih =>
    rw [List.map_cons] at nd ⊢
    obtain ⟨n1, n2⟩ := List.nodup_cons.mp nd
    rcases List.mem_cons.mp he with rfl | he
    · exact valV_pos rfl
    · rw [valV_neg, ih n2 he]
      intro q
      have : f.z = e.z := by injection q
      exact n1 (List.mem_map.mpr ⟨e, he, this.symm⟩)
theorem ent_none {es : List Ent} {z : Int} (h : z ∉ es.map (·.z)) : valV (es.map Ent.kv) (.inl z) = none := by
  induction es with
  | nil => rfl
  | cons f r ih =>
    rw [List.map_cons] at h ⊢
    rw [valV_neg, ih fun q => h (List.mem_cons_of_mem _ q)]
    intro q
    have : f.z = z := by injection q
    exact h (by rw [this]; exact List.mem_cons_self)
theorem Apart.upd {H : Hp} {own : List Addr} {es : List Ent} (h : Apart own es) (nd : (es.map (·.z)).Nodup) {e : Ent} (he : e ∈ es) {m' : Rows} {ms' : List Addr} (nw : Nw H e.ms ms') (ho : ∀ x ∈ own, ∃ o, H x = some o) (hs : ∀ f ∈ es, ∀ x ∈ f.ms, ∃ o, H x = some o) : Apart own (updE e.z m' ms' es) := by
  refine ⟨fun f hf => ?_, ?_⟩
  · rcases mem_updE hf with ⟨hf, _⟩ | ⟨e0, h0, q, rfl⟩
    · exact h.1 f hf
    · have := ent_unique nd h0 he q
      subst this
      exact ((h.1 e0 he).symm.nw nw ho).symm
  · unfold updE
    rw [List.pairwise_map]
    refine (h.2.and (List.pairwise_map.mp nd)).imp_of_mem fun {f k} hf hk ⟨dj, ne⟩ => ?_
    by_cases qf : f.z = e.z
    · have := ent_unique nd hf he qf
      subst this
      by_cases qk : k.z = f.z
      · have := ent_unique nd hk hf qk
        subst this
        exact absurd rfl ne
      · rw [if_pos rfl, if_neg qk]
        exact dj.nw nw (hs k hk)
    · by_cases qk : k.z = e.z
      · have := ent_unique nd hk he qk
        subst this
        rw [if_neg qf, if_pos rfl]
        exact (dj.symm.nw nw (hs f hf)).symm
      · rw [if_neg qf, if_neg qk]; exact dj
/-! ### mirrors, and the law's model of one -/
structure Mst where
  es : List (Int × Rows)
  gs : List (Int × Rows)
  gen : Int
  fk : List Int
  pw : Pow
def Mst.tick (M : Mst) : Mst := { M with pw := M.pw.tick }
def Mst.app (z : Int) (f : Rows → Rows) (M : Mst) : Mst := { M with es := updR z f M.es, gs := updR z f M.gs }
def Mst.put (z : Int) (n : Nat) (c : Cell) (M : Mst) : Mst := M.tick.app z fun m => m.putD M.pw.tick.dark n c
def Mst.bar (z : Int) (M : Mst) : Mst := M.tick.app z fun m => m.barD M.pw.tick.dark
structure MirAt (K : PySem.W.Frag) (CM CS CD : Addr) (R H : Hp) (mo a sd gd fa : Addr) (es gs : List Ent) (gen : Int) (fk : List Int) (p : Pow) : Prop where
  obj : ∃ dx, H mo = some (.ins CM dx [("layout", .ref a), ("sides", .ref sd), ("guests", .ref gd), ("generation", .int gen), ("forks", .ref fa), ("fuse", fuseV p.fuse), ("dark", .bl p.dark)])
  hsd : H sd = some (.dK (es.map Ent.kv))
  hgd : H gd = some (.dK (gs.map Ent.kv))
  own : [mo, sd, gd].Nodup
  non : ∀ x ∈ [mo, sd, gd], R x = none
  fks : SqT K R fa (fk.map V.int)
  sides : ∀ e ∈ es ++ gs, SideOkD p.dark K CS CD R H e.s a e.z e.m e.ms
  apart : Apart [mo, sd, gd] (es ++ gs)
  keys : ((es ++ gs).map (·.z)).Nodup
  few : (es ++ gs).length ≤ 3
/-- a mirror with the plain state M, of the objects F -/
def MirOk (K : PySem.W.Frag) (CM CS CD : Addr) (R H : Hp) (mo a : Addr) (M : Mst) (F : List Addr) (A : List (Int × Addr)) : Prop := ∃ sd gd fa es gs, F = foot [mo, sd, gd] (es ++ gs) ∧ MirAt K CM CS CD R H mo a sd gd fa es gs M.gen M.fk M.pw ∧ es.map Ent.zm = M.es ∧ gs.map Ent.zm = M.gs ∧ (es ++ gs).map Ent.za = A
structure ModF (kvs : List (Key × V)) (sd fa : Addr) (gen : Int) (p : Pow) : Prop where
  few : kvs.length ≤ 20
  sides : valV kvs (.inr "sides") = some (.ref sd)
  fuse : valV kvs (.inr "fuse") = some (fuseV p.fuse)
  dark : valV kvs (.inr "dark") = some (.bl p.dark)
  gen : valV kvs (.inr "generation") = some (.int gen)
  forks : valV kvs (.inr "forks") = some (.ref fa)
/-- the law's model; ls: rows that are no members -/
structure LawAt (K : PySem.W.Frag) (R H : Hp) (mg sd fa : Addr) (es ls : List Ent) (gen : Int) (fk : List Int) (p : Pow) : Prop where
  obj : ∃ kvs, H mg = some (.dK kvs) ∧ ModF kvs sd fa gen p
  hsd : H sd = some (.dK (es.map Ent.kv))
  own : [mg, sd].Nodup
  non : ∀ x ∈ [mg, sd], R x = none
  fks : SqT K R fa (fk.map V.int)
  rows : ∀ e ∈ es ++ ls, RowOk K R H e.s e.m e.ms
  apart : Apart [mg, sd] (es ++ ls)
  keys : ((es ++ ls).map (·.z)).Nodup
  few : (es ++ ls).length ≤ 3
def LawOk (K : PySem.W.Frag) (R H : Hp) (mg sd : Addr) (M : Mst) (F : List Addr) (A : List (Int × Addr)) : Prop := ∃ fa es ls, F = foot [mg, sd] (es ++ ls) ∧ LawAt K R H mg sd fa es ls M.gen M.fk M.pw ∧ es.map Ent.zm = M.es ∧ ls.map Ent.zm = M.gs ∧ (es ++ ls).map Ent.za = A
section
variable {K : PySem.W.Frag} {CM CS CD : Addr} {R H R' H' : Hp} {mo mg a sd gd fa : Addr} {es gs : List Ent} {gen : Int} {fk : List Int} {p : Pow} {M : Mst} {F N : List Addr} {A : List (Int × Addr)}
theorem MirAt.has (h : MirAt K CM CS CD R H mo a sd gd fa es gs gen fk p) : ∀ x ∈ foot [mo, sd, gd] (es ++ gs), ∃ o, H x = some o := fun x hx => by
  rcases mem_foot.mp hx with hx | ⟨e, he, hx⟩
  · simp only [List.mem_cons, List.not_mem_nil, or_false] at hx
    rcases hx with rfl | rfl | rfl
    · obtain ⟨dx, o⟩ := h.obj; exact ⟨_, o⟩
    · exact ⟨_, h.hsd⟩
    · exact ⟨_, h.hgd⟩
  · exact (h.sides e he).has x hx
theorem MirAt.nons (h : MirAt K CM CS CD R H mo a sd gd fa es gs gen fk p) : ∀ x ∈ foot [mo, sd, gd] (es ++ gs), R x = none := fun x hx => by
  rcases mem_foot.mp hx with hx | ⟨e, he, hx⟩
  · exact h.non x hx
  · exact (h.sides e he).non x hx
theorem MirAt.frame (h : MirAt K CM CS CD R H mo a sd gd fa es gs gen fk p) (g : Gr N R H R' H') (dj : ∀ x ∈ foot [mo, sd, gd] (es ++ gs), x ∉ N) : MirAt K CM CS CD R' H' mo a sd gd fa es gs gen fk p := by
  have d0 : ∀ x ∈ [mo, sd, gd], x ∉ N := fun x hx => dj x (mem_foot.mpr (.inl hx))
  obtain ⟨dx, o⟩ := h.obj
  exact ⟨⟨dx, g.hh _ _ (d0 _ (by simp)) o⟩, g.hh _ _ (d0 _ (by simp)) h.hsd, g.hh _ _ (d0 _ (by simp)) h.hgd, h.own, fun x hx => by
    obtain ⟨o, ho⟩ := h.has x (mem_foot.mpr (.inl hx)); exact g.fr _ _ ho (h.non x hx), sqT_mono g.rr h.fks,
    fun e he => (h.sides e he).frame g fun x hx => dj x (mem_foot.mpr (.inr ⟨e, he, hx⟩)), h.apart, h.keys, h.few⟩
theorem MirOk.frame (h : MirOk K CM CS CD R H mo a M F A) (g : Gr N R H R' H') (dj : ∀ x ∈ F, x ∉ N) : MirOk K CM CS CD R' H' mo a M F A := by
  obtain ⟨sd, gd, fa, es, gs, rfl, h, e1, e2⟩ := h
  exact ⟨sd, gd, fa, es, gs, rfl, h.frame g dj, e1, e2⟩
theorem MirOk.has (h : MirOk K CM CS CD R H mo a M F A) : ∀ x ∈ F, ∃ o, H x = some o := by obtain ⟨sd, gd, fa, es, gs, rfl, h, e1, e2⟩ := h; exact h.has
theorem MirOk.nons (h : MirOk K CM CS CD R H mo a M F A) : ∀ x ∈ F, R x = none := by obtain ⟨sd, gd, fa, es, gs, rfl, h, e1, e2⟩ := h; exact h.nons
theorem LawAt.has {ls : List Ent} (h : LawAt K R H mg sd fa es ls gen fk p) : ∀ x ∈ foot [mg, sd] (es ++ ls), ∃ o, H x = some o := fun x hx => by
  rcases mem_foot.mp hx with hx | ⟨e, he, hx⟩
  · simp only [List.mem_cons, List.not_mem_nil, or_false] at hx
    rcases hx with rfl | rfl
    · obtain ⟨kvs, o, _⟩ := h.obj; exact ⟨_, o⟩
    · exact ⟨_, h.hsd⟩
  · exact (h.rows e he).has x hx
theorem LawAt.nons {ls : List Ent} (h : LawAt K R H mg sd fa es ls gen fk p) : ∀ x ∈ foot [mg, sd] (es ++ ls), R x = none := fun x hx => by
  rcases mem_foot.mp hx with hx | ⟨e, he, hx⟩
  · exact h.non x hx
  · exact (h.rows e he).non x hx
theorem LawAt.frame {ls : List Ent} (h : LawAt K R H mg sd fa es ls gen fk p) (g : Gr N R H R' H') (dj : ∀ x ∈ foot [mg, sd] (es ++ ls), x ∉ N) : LawAt K R' H' mg sd fa es ls gen fk p := by
  have d0 : ∀ x ∈ [mg, sd], x ∉ N := fun x hx => dj x (mem_foot.mpr (.inl hx))
  obtain ⟨kvs, o, mf⟩ := h.obj
  exact ⟨⟨kvs, g.hh _ _ (d0 _ (by simp)) o, mf⟩, g.hh _ _ (d0 _ (by simp)) h.hsd, h.own, fun x hx => by
    obtain ⟨o, ho⟩ := h.has x (mem_foot.mpr (.inl hx)); exact g.fr _ _ ho (h.non x hx), sqT_mono g.rr h.fks,
    fun e he => (h.rows e he).frame g fun x hx => dj x (mem_foot.mpr (.inr ⟨e, he, hx⟩)), h.apart, h.keys, h.few⟩
theorem LawOk.frame (h : LawOk K R H mg sd M F A) (g : Gr N R H R' H') (dj : ∀ x ∈ F, x ∉ N) : LawOk K R' H' mg sd M F A := by
  obtain ⟨fa, es, ls, rfl, h, e1⟩ := h
  exact ⟨fa, es, ls, rfl, h.frame g dj, e1⟩
theorem LawOk.has (h : LawOk K R H mg sd M F A) : ∀ x ∈ F, ∃ o, H x = some o := by obtain ⟨fa, es, ls, rfl, h, e1⟩ := h; exact h.has
theorem LawOk.nons (h : LawOk K R H mg sd M F A) : ∀ x ∈ F, R x = none := by obtain ⟨fa, es, ls, rfl, h, e1⟩ := h; exact h.nons
/-- one side has changed -/
theorem MirAt.side (h : MirAt K CM CS CD R H mo a sd gd fa es gs gen fk p) {e : Ent} (he : e ∈ es ++ gs) (g : Gr e.ms R H R' H') {m' : Rows} {ms' : List Addr} (nw : Nw H e.ms ms') (so : SideOkD p.dark K CS CD R' H' e.s a e.z m' ms') :
    MirAt K CM CS CD R' H' mo a sd gd fa (updE e.z m' ms' es) (updE e.z m' ms' gs) gen fk p ∧ Step (foot [mo, sd, gd] (es ++ gs)) (foot [mo, sd, gd] (updE e.z m' ms' es ++ updE e.z m' ms' gs)) R H R' H' := by
  have app : updE e.z m' ms' es ++ updE e.z m' ms' gs = updE e.z m' ms' (es ++ gs) := by unfold updE; rw [List.map_append]
  have own0 := h.apart.1 e he
  have h0 : ∀ x ∈ [mo, sd, gd], x ∉ e.ms := fun x hx => own0 x hx
  obtain ⟨dx, o⟩ := h.obj
  have hasO : ∀ x ∈ [mo, sd, gd], ∃ o, H x = some o := fun x hx => h.has x (mem_foot.mpr (.inl hx))
  have hasS : ∀ f ∈ es ++ gs, ∀ x ∈ f.ms, ∃ o, H x = some o := fun f hf => (h.sides f hf).has
  rw [app]
  refine ⟨⟨⟨dx, g.hh _ _ (h0 _ (by simp)) o⟩, by rw [updE_kv]; exact g.hh _ _ (h0 _ (by simp)) h.hsd, by rw [updE_kv]; exact g.hh _ _ (h0 _ (by simp)) h.hgd, h.own, fun x hx => by
    obtain ⟨o, ho⟩ := hasO x hx; exact g.fr _ _ ho (h.non x hx), sqT_mono g.rr h.fks, fun f hf => ?_, ?_, ?_, ?_⟩, ⟨g.mono fun x hx => mem_foot.mpr (.inr ⟨e, he, hx⟩), fun x hx => ?_⟩⟩
  · rw [app] at hf
    rcases mem_updE hf with ⟨hf, ne⟩ | ⟨e0, hf0, q, rfl⟩
    · refine (h.sides f hf).frame g fun x hx hx' => ?_
      have : Dj f.ms e.ms ∨ Dj e.ms f.ms := by
        by_cases q : f = e
        · exact absurd (by rw [q]) ne
        · have hp := h.apart.2
          obtain ⟨i, hi, rfl⟩ := List.getElem_of_mem hf
          obtain ⟨j, hj, rfl⟩ := List.getElem_of_mem he
          rw [List.pairwise_iff_getElem] at hp
          rcases Nat.lt_trichotomy i j with l | l | l
          · exact .inl (hp i j hi hj l)
          · subst l; exact absurd rfl q
          · exact .inr (hp j i hj hi l)
      rcases this with d | d
      · exact d x hx hx'
      · exact d x hx' hx
    · have := ent_unique h.keys hf0 he q
      subst this
      exact so
  · rw [app]; exact h.apart.upd h.keys he nw hasO hasS
  · rw [app, updE_z]; exact h.keys
  · rw [app]; unfold updE; rw [List.length_map]; exact h.few
  · rcases mem_foot.mp hx with hx | ⟨f, hf, hx⟩
    · exact .inl (mem_foot.mpr (.inl hx))
    · rcases mem_updE hf with ⟨hf, ne⟩ | ⟨e0, hf0, q, rfl⟩
      · exact .inl (mem_foot.mpr (.inr ⟨f, hf, hx⟩))
      · rcases nw x hx with r | r
        · exact .inl (mem_foot.mpr (.inr ⟨e, he, r⟩))
        · exact .inr r
/-- one row has changed, and with it the law's power -/
theorem LawAt.row {ls : List Ent} (h : LawAt K R H mg sd fa es ls gen fk p) {e : Ent} (he : e ∈ es ++ ls) (g : Gr (mg :: e.ms) R H R' H') {m' : Rows} {ms' : List Addr} (nw : Nw H e.ms ms') {p' : Pow} (ob : ∃ kvs, H' mg = some (.dK kvs) ∧ ModF kvs sd fa gen p') (so : RowOk K R' H' e.s m' ms') :
    LawAt K R' H' mg sd fa (updE e.z m' ms' es) (updE e.z m' ms' ls) gen fk p' ∧ Step (foot [mg, sd] (es ++ ls)) (foot [mg, sd] (updE e.z m' ms' es ++ updE e.z m' ms' ls)) R H R' H' := by
  have app : updE e.z m' ms' es ++ updE e.z m' ms' ls = updE e.z m' ms' (es ++ ls) := by unfold updE; rw [List.map_append]
  have own0 := h.apart.1 e he
  have hasO : ∀ x ∈ [mg, sd], ∃ o, H x = some o := fun x hx => h.has x (mem_foot.mpr (.inl hx))
  have hasS : ∀ f ∈ es ++ ls, ∀ x ∈ f.ms, ∃ o, H x = some o := fun f hf => (h.rows f hf).has
  have sm : sd ∉ mg :: e.ms := fun hx => by
    rcases List.mem_cons.mp hx with q | q
    · have := h.own
      rw [q] at this
      simp at this
    · exact own0 sd (by simp) q
  rw [app]
  refine ⟨⟨ob, by rw [updE_kv]; exact g.hh _ _ sm h.hsd, h.own, fun x hx => by
    obtain ⟨o, ho⟩ := hasO x hx; exact g.fr _ _ ho (h.non x hx), sqT_mono g.rr h.fks, fun f hf => ?_, by rw [app]; exact h.apart.upd h.keys he nw hasO hasS, by rw [app, updE_z]; exact h.keys, by rw [app]; unfold updE; rw [List.length_map]; exact h.few⟩, ⟨g.mono fun x hx => ?_, fun x hx => ?_⟩⟩
  · rw [app] at hf
    rcases mem_updE hf with ⟨hf, ne⟩ | ⟨e0, hf0, q, rfl⟩
    · refine (h.rows f hf).frame g fun x hx hx' => ?_
      rcases List.mem_cons.mp hx' with rfl | hx'
      · exact h.apart.1 f hf x (by simp) hx
      have : Dj f.ms e.ms ∨ Dj e.ms f.ms := by
        by_cases q : f = e
        · exact absurd (by rw [q]) ne
        · have hp := h.apart.2
          obtain ⟨i, hi, rfl⟩ := List.getElem_of_mem hf
          obtain ⟨j, hj, rfl⟩ := List.getElem_of_mem he
          rw [List.pairwise_iff_getElem] at hp
          rcases Nat.lt_trichotomy i j with l | l | l
          · exact .inl (hp i j hi hj l)
          · subst l; exact absurd rfl q
          · exact .inr (hp j i hj hi l)
      rcases this with d | d
      · exact d x hx hx'
      · exact d x hx' hx
    · have := ent_unique h.keys hf0 he q
      subst this
      exact so
  · rcases List.mem_cons.mp hx with rfl | hx
    · exact mem_foot.mpr (.inl (by simp))
    · exact mem_foot.mpr (.inr ⟨e, he, hx⟩)
  · rcases mem_foot.mp hx with hx | ⟨f, hf, hx⟩
    · exact .inl (mem_foot.mpr (.inl hx))
    · rcases mem_updE hf with ⟨hf, ne⟩ | ⟨e0, hf0, q, rfl⟩
      · exact .inl (mem_foot.mpr (.inr ⟨f, hf, hx⟩))
      · rcases nw x hx with r | r
        · exact .inl (mem_foot.mpr (.inr ⟨e, he, r⟩))
        · exact .inr r
end
/-! ### members in order -/
def sortI (l : List Int) : List Int := l.mergeSort (fun a b => decide (a ≤ b))
theorem sortI_eq {l ys : List Int} (hp : ys.Perm l) (ho : ys.Pairwise (· ≤ ·)) : ys = sortI l := by
  have h1 : (sortI l).Perm l := List.mergeSort_perm l _
  have h2 : (sortI l).Pairwise (· ≤ ·) := by
    have := List.pairwise_mergeSort (le := fun a b : Int => decide (a ≤ b)) (fun a b c h1 h2 => by simp at *; omega) (fun a b => by simp; omega) l
    exact this.imp fun {a b} h => by simpa using h
  exact List.Perm.eq_of_pairwise (le := (· ≤ ·)) (fun a b _ _ h1 h2 => by omega) ho h2 (hp.trans h1.symm)
theorem sortI_mem {l : List Int} {x : Int} : x ∈ sortI l ↔ x ∈ l := (List.mergeSort_perm l _).mem_iff
theorem sortI_len {l : List Int} : (sortI l).length = l.length := (List.mergeSort_perm l _).length_eq
def Mst.seats (M : Mst) : List Int := sortI (M.es.map (·.1))
section
variable {K : PySem.W.Frag} {CM CS CD : Addr} {R H R' H' : Hp} {mo a sd gd fa fa' : Addr} {es gs : List Ent} {gen gen' : Int} {fk fk' : List Int} {p p' : Pow}
/-- only the mirror's own fields have changed -/
theorem MirAt.fld (h : MirAt K CM CS CD R H mo a sd gd fa es gs gen fk p) (g : Gr [mo] R H R H') (ob : ∃ dx, H' mo = some (.ins CM dx [("layout", .ref a), ("sides", .ref sd), ("guests", .ref gd), ("generation", .int gen'), ("forks", .ref fa'), ("fuse", fuseV p'.fuse), ("dark", .bl p'.dark)])) (hd : p'.dark = p.dark) (hf : SqT K R fa' (fk'.map V.int)) :
    MirAt K CM CS CD R H' mo a sd gd fa' es gs gen' fk' p' := by
  obtain ⟨o1, o2⟩ := List.nodup_cons.mp h.own
  simp only [List.mem_cons, List.not_mem_nil, or_false, not_or] at o1
  refine ⟨ob, g.hh _ _ (nin1 (Ne.symm o1.1)) h.hsd, g.hh _ _ (nin1 (Ne.symm o1.2)) h.hgd, h.own, h.non, hf, fun e he => ?_, h.apart, h.keys, h.few⟩
  rw [hd]
  exact (h.sides e he).frame g fun x hx hx' => h.apart.1 e he mo (by simp) (by rw [← List.mem_singleton.mp hx']; exact hx)
theorem zs_kv (es : List Ent) : (es.map Ent.kv).map (·.1) = (es.map (·.z)).map Sum.inl := by
  rw [List.map_map, List.map_map]; rfl
theorem seats_eq {es : List Ent} {M : Mst} (h : es.map Ent.zm = M.es) : sortI (es.map (·.z)) = M.seats := by
  unfold Mst.seats
  rw [← h, List.map_map]; rfl
end
theorem g_tListV {te : TE} {σ : St} {H : Hp} {Q : VK} (q : te σ H fun x H1 => rListV x H1 Q) : tListV te σ H Q := q
theorem g_rListV {d : Addr} {kvs : List (Key × V)} {H : Hp} {Q : VK} (h : H d = some (.dK kvs)) (q : ∀ p, H p = none → Q (.ref p) (upd H p (.lst (kvs.map (·.2))))) : rListV (.ref d) H Q := ⟨d, kvs, rfl, h, q⟩
theorem kv_vals (es : List Ent) : (es.map Ent.kv).map (·.2) = es.map fun e => V.ref e.s := by rw [List.map_map]; rfl
theorem updE_za {z : Int} {m : Rows} {ms : List Addr} {es : List Ent} : (updE z m ms es).map Ent.za = es.map Ent.za := by
  unfold updE
  rw [List.map_map]
  refine List.map_congr_left fun e _ => ?_
  show Ent.za (if e.z = z then _ else e) = e.za
  split <;> rfl
theorem putK_len {kvs : List (Key × V)} {k : Key} {v y : V} (h : valV kvs k = some v) : (putK kvs k y).length = kvs.length := by
  unfold putK
  have : (kvs.any fun kv => decide (kv.1 = k)) = true := by rw [valV_any, h]; rfl
  rw [if_pos this, List.length_map]
section
variable {kvs : List (Key × V)} {sd fa fa' : Addr} {gen gen' : Int} {p : Pow}
theorem ModF.setFuse (h : ModF kvs sd fa gen p) (f : Option Int) : ModF (putK kvs (.inr "fuse") (fuseV f)) sd fa gen ⟨f, p.dark⟩ :=
  ⟨by rw [putK_len h.fuse]; exact h.few, by rw [valV_put, if_neg (by decide)]; exact h.sides, by rw [valV_put, if_pos rfl], by rw [valV_put, if_neg (by decide)]; exact h.dark, by rw [valV_put, if_neg (by decide)]; exact h.gen, by rw [valV_put, if_neg (by decide)]; exact h.forks⟩
theorem ModF.setDark (h : ModF kvs sd fa gen p) (b : Bool) : ModF (putK kvs (.inr "dark") (.bl b)) sd fa gen ⟨p.fuse, b⟩ :=
  ⟨by rw [putK_len h.dark]; exact h.few, by rw [valV_put, if_neg (by decide)]; exact h.sides, by rw [valV_put, if_neg (by decide)]; exact h.fuse, by rw [valV_put, if_pos rfl], by rw [valV_put, if_neg (by decide)]; exact h.gen, by rw [valV_put, if_neg (by decide)]; exact h.forks⟩
theorem ModF.setGen (h : ModF kvs sd fa gen p) (g : Int) : ModF (putK kvs (.inr "generation") (.int g)) sd fa g p :=
  ⟨by rw [putK_len h.gen]; exact h.few, by rw [valV_put, if_neg (by decide)]; exact h.sides, by rw [valV_put, if_neg (by decide)]; exact h.fuse, by rw [valV_put, if_neg (by decide)]; exact h.dark, by rw [valV_put, if_pos rfl], by rw [valV_put, if_neg (by decide)]; exact h.forks⟩
end
theorem g_DpS {a : Addr} {kvs : List (Key × V)} {k : Str} {v : V} {H : Hp} {QH : Hp → Prop} (h : H a = some (.dK kvs)) (z : kvs.length ≤ 100000) (q : QH (upd H a (.dK (putK kvs (.inr k) v)))) : DpW (.ref a) (.str k) v H QH :=
  ⟨a, _, rfl, DPut.k (k := .inr k) h (by rw [sizeLine_eq]; omega), q⟩
theorem g_DpI {a : Addr} {kvs : List (Key × V)} {k : Int} {v : V} {H : Hp} {QH : Hp → Prop} (h : H a = some (.dK kvs)) (z : kvs.length ≤ 100000) (q : QH (upd H a (.dK (putK kvs (.inl k) v)))) : DpW (.ref a) (.int k) v H QH :=
  ⟨a, _, rfl, DPut.k (k := .inl k) h (by rw [sizeLine_eq]; omega), q⟩
theorem g_DgI {a : Addr} {kvs : List (Key × V)} {k : Int} {v : V} {H : Hp} {Q : VK} (h : H a = some (.dK kvs)) (e : valV kvs (.inl k) = some v) (q : Q v H) : DgW (.ref a) (.int k) H Q := ⟨a, v, rfl, e ▸ DGet.k (k := .inl k) h, q⟩
theorem getD_rngM {l : List Int} (h : ∀ n ∈ l, 0 ≤ n ∧ n < 256) {i : Nat} (hi : i < l.length) : 0 ≤ l.getD i 0 ∧ l.getD i 0 < 256 := by
  rw [List.getD_eq_getElem?_getD, List.getElem?_eq_getElem hi]; exact h _ (List.getElem_mem hi)
end Sk

namespace Sk
open PySem L2
/-! ### commands -/
def Mst.cmd (z : Int) (f : Bool → Rows → Rows) (M : Mst) : Mst := M.tick.app z (f M.pw.tick.dark)
def Mst.cmds (zs : List Int) (f : Int → Bool → Rows → Rows) (M : Mst) : Mst := zs.foldl (fun S z => S.cmd z (f z)) M
def putF' (n : Nat) (c : Cell) (dk : Bool) (m : Rows) : Rows := m.putD dk n c
def barF (dk : Bool) (m : Rows) : Rows := m.barD dk
def labF (L : Lay) (lb : Lb) (z : Int) (dk : Bool) (m : Rows) : Rows := m.putD dk (L.device.toNat + slotOf L z m) (sealOf L ((L.device.toNat + slotOf L z m : Nat) : Int) (some (labelBlk L z lb)))
def Mst.keys (M : Mst) : List Int := M.es.map (·.1)
theorem updR_keys (z : Int) (f : Rows → Rows) (l : List (Int × Rows)) : (updR z f l).map (·.1) = l.map (·.1) := by
  unfold updR
  rw [List.map_map]
  refine List.map_congr_left fun q _ => ?_
  show (if q.1 = z then (q.1, f q.2) else q).1 = q.1
  split <;> rfl
@[simp] theorem cmd_keys (z : Int) (f : Bool → Rows → Rows) (M : Mst) : (M.cmd z f).keys = M.keys := updR_keys z _ M.es
@[simp] theorem cmd_seats (z : Int) (f : Bool → Rows → Rows) (M : Mst) : (M.cmd z f).seats = M.seats := by
  unfold Mst.seats
  exact congrArg sortI (cmd_keys z f M)
theorem cmds_snoc (zs : List Int) (z : Int) (f : Int → Bool → Rows → Rows) (M : Mst) : M.cmds (zs ++ [z]) f = (M.cmds zs f).cmd z (f z) := by
  unfold Mst.cmds
  rw [List.foldl_append]; rfl
theorem cmds_keys (f : Int → Bool → Rows → Rows) : ∀ (zs : List Int) (M : Mst), (M.cmds zs f).keys = M.keys
  | [], _ => rfl
  | z :: r, M => (cmds_keys f r (M.cmd z (f z))).trans (cmd_keys z (f z) M)
theorem cmds_seats (f : Int → Bool → Rows → Rows) (zs : List Int) (M : Mst) : (M.cmds zs f).seats = M.seats := congrArg sortI (cmds_keys f zs M)
theorem cmd_gen (z : Int) (f : Bool → Rows → Rows) (M : Mst) : (M.cmd z f).gen = M.gen ∧ (M.cmd z f).fk = M.fk := ⟨rfl, rfl⟩
theorem cmds_gen (f : Int → Bool → Rows → Rows) : ∀ (zs : List Int) (M : Mst), (M.cmds zs f).gen = M.gen ∧ (M.cmds zs f).fk = M.fk
  | [], _ => ⟨rfl, rfl⟩
  | z :: r, M => cmds_gen f r (M.cmd z (f z))
theorem seats_keys {M : Mst} {z : Int} : z ∈ M.seats ↔ z ∈ M.keys := sortI_mem
theorem mem_updR {z : Int} {f : Rows → Rows} {l : List (Int × Rows)} {q : Int × Rows} (h : q ∈ updR z f l) : q ∈ l ∨ ∃ m, (z, m) ∈ l ∧ q = (z, f m) := by
  unfold updR at h
  obtain ⟨p, hp, rfl⟩ := List.mem_map.mp h
  by_cases e : p.1 = z
  · rw [if_pos e]
    exact .inr ⟨p.2, by rw [← e]; exact hp, by rw [e]⟩
  · rw [if_neg e]; exact .inl hp
/-- a mirror's rows keep the rules -/
structure MsW (L : Lay) (k : Nat) (M : Mst) : Prop where
  rows : ∀ q ∈ M.es ++ M.gs, RsW L k q.2 ∧ 0 ≤ q.1 ∧ q.1 < 3
  gen : 0 ≤ M.gen ∧ M.gen ≤ k + 100
  few : M.fk.length ≤ 16
  fkr : ∀ x ∈ M.fk, 0 ≤ x ∧ x < 16777216
theorem MsW.up {L : Lay} {k j : Nat} {M : Mst} (h : MsW L k M) (z : k ≤ j) : MsW L j M := ⟨fun q hq => let ⟨a, b⟩ := h.rows q hq; ⟨a.up z, b⟩, ⟨h.gen.1, by have := h.gen.2; omega⟩, h.few, h.fkr⟩
theorem MsW.cmd {L : Lay} {k : Nat} {M : Mst} (h : MsW L k M) {z : Int} {f : Bool → Rows → Rows} (hf : ∀ dk m, (z, m) ∈ M.es ++ M.gs → RsW L k m → RsW L (k + 1) (f dk m)) : MsW L (k + 1) (M.cmd z f) := by
  refine ⟨fun q hq => ?_, ⟨h.gen.1, by have := h.gen.2; show M.gen ≤ _; omega⟩, h.few, h.fkr⟩
  have hq' : q ∈ updR z (f M.pw.tick.dark) M.es ∨ q ∈ updR z (f M.pw.tick.dark) M.gs := List.mem_append.mp hq
  have : q ∈ M.es ++ M.gs ∨ ∃ m, (z, m) ∈ M.es ++ M.gs ∧ q = (z, f M.pw.tick.dark m) := by
    rcases hq' with hq' | hq'
    · rcases mem_updR hq' with h1 | ⟨m, h1, h2⟩
      · exact .inl (List.mem_append_left _ h1)
      · exact .inr ⟨m, List.mem_append_left _ h1, h2⟩
    · rcases mem_updR hq' with h1 | ⟨m, h1, h2⟩
      · exact .inl (List.mem_append_right _ h1)
      · exact .inr ⟨m, List.mem_append_right _ h1, h2⟩
  rcases this with h1 | ⟨m, h1, rfl⟩
  · obtain ⟨a, b⟩ := h.rows q h1; exact ⟨a.up (Nat.le_succ k), b⟩
  · obtain ⟨a, b⟩ := h.rows _ h1; exact ⟨hf _ m h1 a, b⟩
theorem MsW.cmds {L : Lay} {f : Int → Bool → Rows → Rows} (hf : ∀ (k : Nat) z dk m, 0 ≤ z → z < 3 → RsW L k m → RsW L (k + 1) (f z dk m)) : ∀ (zs : List Int) {k : Nat} {M : Mst}, MsW L k M → MsW L (k + zs.length) (M.cmds zs f)
  | [], _, _, h => h
  | z :: r, k, M, h => by
    have h1 := h.cmd (z := z) (f := f z) fun dk m hm w => by
      obtain ⟨_, b⟩ := h.rows _ hm
      exact hf k z dk m b.1 b.2 w
    have := MsW.cmds hf r h1
    rw [List.length_cons, show k + (r.length + 1) = k + 1 + r.length by omega]
    exact this
theorem putF_W {L : Lay} {n : Nat} {c : Cell} (hn : (n : Int) < L.device + 2) (hc : CW L c) : ∀ (k : Nat) (z : Int) dk m, 0 ≤ z → z < 3 → RsW L k m → RsW L (k + 1) (putF' n c dk m) := fun k z dk m _ _ w => w.putD (by have := w.ls; omega) hc
theorem barF_W {L : Lay} : ∀ (k : Nat) (z : Int) dk m, 0 ≤ z → z < 3 → RsW L k m → RsW L (k + 1) (barF dk m) := fun k z dk m _ _ w => w.barD.up (Nat.le_succ k)
theorem slot_le {L : Lay} {z : Int} {m : Rows} : slotOf L z m ≤ 1 := by unfold slotOf; split <;> omega
theorem labF_W {L : Lay} (hL : L.Ok) (d0 : 0 ≤ L.device) {lb : Lb} (g0 : 0 ≤ lb.gen) (g1 : lb.gen < 281474976710656) (few : lb.forks.length ≤ 16) : ∀ (k : Nat) (z : Int) dk m, 0 ≤ z → z < 3 → RsW L k m → RsW L (k + 1) (labF L lb z dk m) := fun k z dk m z0 z3 w => by
  have sl := slot_le (L := L) (z := z) (m := m)
  exact w.putD (by have := w.ls; omega) (sealW fun x e => by cases e; exact labelBlk_W hL z0 z3 g0 g1 few)
section
variable {K : PySem.W.Frag} {CM CS CD : Addr} {R H : Hp} {mo mg a sd : Addr} {M : Mst} {F : List Addr} {A : List (Int × Addr)}
theorem ent_of_za {es : List Ent} {z : Int} {s : Addr} (h : (z, s) ∈ es.map Ent.za) : ∃ e ∈ es, e.z = z ∧ e.s = s := by
  obtain ⟨e, he, q⟩ := List.mem_map.mp h
  have q : (e.z, e.s) = (z, s) := q
  injection q with q1 q2
  exact ⟨e, he, q1, q2⟩
theorem zm_append {es gs : List Ent} {M : Mst} (e1 : es.map Ent.zm = M.es) (e2 : gs.map Ent.zm = M.gs) {e : Ent} (he : e ∈ es ++ gs) : (e.z, e.m) ∈ M.es ++ M.gs := by
  rw [← e1, ← e2, ← List.map_append]
  exact List.mem_map.mpr ⟨e, he, rfl⟩
def Mst.row (M : Mst) (z : Int) : Rows := (((M.es ++ M.gs).find? fun q => decide (q.1 = z)).map (·.2)).getD ⟨[], [], []⟩
theorem find_zm {l : List Ent} (nd : (l.map (·.z)).Nodup) {e : Ent} (he : e ∈ l) : (l.map Ent.zm).find? (fun q => decide (q.1 = e.z)) = some e.zm := by
  induction l with
  | nil => cases he
  | cons f r ih =>
    rw [List.map_cons] at nd ⊢
    obtain ⟨n1, n2⟩ := List.nodup_cons.mp nd
    rcases List.mem_cons.mp he with rfl | he
    · rw [List.find?_cons_of_pos]; show decide (e.z = e.z) = true; simp
    · rw [List.find?_cons_of_neg, ih n2 he]
      show ¬ decide (f.z = e.z) = true
      simp only [decide_eq_true_eq]
      intro q
      exact n1 (List.mem_map.mpr ⟨e, he, q.symm⟩)
theorem row_of {es gs : List Ent} {M : Mst} (e1 : es.map Ent.zm = M.es) (e2 : gs.map Ent.zm = M.gs) (nd : ((es ++ gs).map (·.z)).Nodup) {e : Ent} (he : e ∈ es ++ gs) : M.row e.z = e.m := by
  unfold Mst.row
  rw [← e1, ← e2, ← List.map_append, find_zm nd he]; rfl
/-- what a look at a mirror tells -/
theorem MirOk.at (h : MirOk K CM CS CD R H mo a M F A) : ∃ dx sd gd fa kvs gvs, H mo = some (.ins CM dx [("layout", .ref a), ("sides", .ref sd), ("guests", .ref gd), ("generation", .int M.gen), ("forks", .ref fa), ("fuse", fuseV M.pw.fuse), ("dark", .bl M.pw.dark)]) ∧ H sd = some (.dK kvs) ∧ H gd = some (.dK gvs) ∧ SqT K R fa (M.fk.map V.int) ∧
    kvs.length ≤ 3 ∧ (∀ z ∈ M.keys, ∃ s, valV kvs (.inl z) = some (.ref s) ∧ (z, s) ∈ A) ∧ (∀ z, z ∉ M.keys → valV kvs (.inl z) = none) ∧ R mo = none ∧ kvs.map (·.1) = M.keys.map Sum.inl := by
  obtain ⟨sd, gd, fa, es, gs, rfl, h, e1, e2, eA⟩ := h
  obtain ⟨dx, ho⟩ := h.obj
  have ek : M.keys = es.map (·.z) := by unfold Mst.keys; rw [← e1, List.map_map]; rfl
  have nd : (es.map (·.z)).Nodup := by have := h.keys; rw [List.map_append] at this; exact (List.nodup_append.mp this).1
  have fw := h.few
  rw [List.length_append] at fw
  refine ⟨dx, sd, gd, fa, _, _, ho, h.hsd, h.hgd, h.fks, by rw [List.length_map]; omega, fun z hz => ?_, fun z hz => ?_, h.non mo (by simp), by rw [ek, zs_kv]⟩
  · rw [ek] at hz
    obtain ⟨e, he, rfl⟩ := List.mem_map.mp hz
    exact ⟨e.s, ent_val nd he, by rw [← eA]; exact List.mem_map.mpr ⟨e, List.mem_append_left _ he, rfl⟩⟩
  · rw [ek] at hz
    exact ent_none hz
/-- a command of one side -/
theorem MirOk.side (h : MirOk K CM CS CD R H mo a M F A) {z : Int} {s : Addr} (hz : (z, s) ∈ A) : ∃ m ms, SideOkD M.pw.dark K CS CD R H s a z m ms ∧ (z, m) ∈ M.es ++ M.gs ∧ (∀ x ∈ ms, x ∈ F) ∧ mo ∉ ms ∧ M.row z = m ∧
    ∀ R' H' ms' (f : Rows → Rows), Gr ms R H R' H' → Nw H ms ms' → SideOkD M.pw.dark K CS CD R' H' s a z (f m) ms' → ∃ F', MirOk K CM CS CD R' H' mo a (M.app z f) F' A ∧ Step F F' R H R' H' := by
  obtain ⟨sd, gd, fa, es, gs, rfl, h, e1, e2, eA⟩ := h
  rw [← eA] at hz
  obtain ⟨e, he, rfl, rfl⟩ := ent_of_za hz
  refine ⟨e.m, e.ms, h.sides e he, zm_append e1 e2 he, fun x hx => mem_foot.mpr (.inr ⟨e, he, hx⟩), fun hx => h.apart.1 e he mo (by simp) hx, row_of e1 e2 h.keys he, fun R' H' ms' f g nw so => ?_⟩
  obtain ⟨h', st⟩ := h.side he g nw so
  have uq : ∀ l : List Ent, (∀ x ∈ l, x ∈ es ++ gs) → (updE e.z (f e.m) ms' l).map Ent.zm = updR e.z f (l.map Ent.zm) := fun l hl => updE_zm fun x hx q => by
    have := ent_unique h.keys (hl x hx) he q
    rw [this]
  refine ⟨_, ⟨sd, gd, fa, _, _, rfl, h', ?_, ?_, ?_⟩, st⟩
  · rw [uq es fun x hx => List.mem_append_left _ hx, e1]; rfl
  · rw [uq gs fun x hx => List.mem_append_right _ hx, e2]; rfl
  · rw [List.map_append, updE_za, updE_za, ← List.map_append, eA]
/-- what a look at the law's model tells -/
theorem LawOk.at (h : LawOk K R H mg sd M F A) : ∃ fa kvs vs, H mg = some (.dK kvs) ∧ ModF kvs sd fa M.gen M.pw ∧ H sd = some (.dK vs) ∧ SqT K R fa (M.fk.map V.int) ∧
    vs.length ≤ 3 ∧ (∀ z ∈ M.keys, ∃ s, valV vs (.inl z) = some (.ref s) ∧ (z, s) ∈ A) ∧ (∀ z, z ∉ M.keys → valV vs (.inl z) = none) ∧ R mg = none ∧ vs.map (·.1) = M.keys.map Sum.inl ∧ R sd = none ∧ mg ≠ sd ∧ mg ∈ F ∧ sd ∈ F := by
  obtain ⟨fa, es, ls, rfl, h, e1, e2, eA⟩ := h
  obtain ⟨kvs, ho, mf⟩ := h.obj
  have ek : M.keys = es.map (·.z) := by unfold Mst.keys; rw [← e1, List.map_map]; rfl
  have nd : (es.map (·.z)).Nodup := by have := h.keys; rw [List.map_append] at this; exact (List.nodup_append.mp this).1
  have fw := h.few
  rw [List.length_append] at fw
  have own := h.own
  simp at own
  refine ⟨fa, kvs, _, ho, mf, h.hsd, h.fks, by rw [List.length_map]; omega, fun z hz => ?_, fun z hz => ?_, h.non mg (by simp), by rw [ek, zs_kv], h.non sd (by simp), own, mem_foot.mpr (.inl (by simp)), mem_foot.mpr (.inl (by simp))⟩
  · rw [ek] at hz
    obtain ⟨e, he, rfl⟩ := List.mem_map.mp hz
    exact ⟨e.s, ent_val nd he, by rw [← eA]; exact List.mem_map.mpr ⟨e, List.mem_append_left _ he, rfl⟩⟩
  · rw [ek] at hz
    exact ent_none hz
/-- a command of one row -/
theorem LawOk.row (h : LawOk K R H mg sd M F A) {z : Int} {s : Addr} (hz : (z, s) ∈ A) : ∃ fa kvs m ms, H mg = some (.dK kvs) ∧ ModF kvs sd fa M.gen M.pw ∧ R mg = none ∧ RowOk K R H s m ms ∧ (z, m) ∈ M.es ++ M.gs ∧ mg ∉ ms ∧ (∀ x ∈ ms, x ∈ F) ∧ M.row z = m ∧
    ∀ R' H' kvs' ms' (f : Bool → Rows → Rows), Gr (mg :: ms) R H R' H' → Nw H ms ms' → H' mg = some (.dK kvs') → ModF kvs' sd fa M.gen M.pw.tick → RowOk K R' H' s (f M.pw.tick.dark m) ms' → ∃ F', LawOk K R' H' mg sd (M.cmd z f) F' A ∧ Step F F' R H R' H' := by
  obtain ⟨fa, es, ls, rfl, h, e1, e2, eA⟩ := h
  rw [← eA] at hz
  obtain ⟨e, he, rfl, rfl⟩ := ent_of_za hz
  obtain ⟨kvs, ho, mf⟩ := h.obj
  refine ⟨fa, kvs, e.m, e.ms, ho, mf, h.non mg (by simp), h.rows e he, zm_append e1 e2 he, fun hx => h.apart.1 e he mg (by simp) hx, fun x hx => mem_foot.mpr (.inr ⟨e, he, hx⟩), row_of e1 e2 h.keys he, fun R' H' kvs' ms' f g nw hm mf' so => ?_⟩
  obtain ⟨h', st⟩ := h.row he g nw ⟨kvs', hm, mf'⟩ so
  have uq : ∀ l : List Ent, (∀ x ∈ l, x ∈ es ++ ls) → (updE e.z (f M.pw.tick.dark e.m) ms' l).map Ent.zm = updR e.z (f M.pw.tick.dark) (l.map Ent.zm) := fun l hl => updE_zm fun x hx q => by
    have := ent_unique h.keys (hl x hx) he q
    rw [this]
  refine ⟨_, ⟨fa, _, _, rfl, h', ?_, ?_, ?_⟩, st⟩
  · rw [uq es fun x hx => List.mem_append_left _ hx, e1]; rfl
  · rw [uq ls fun x hx => List.mem_append_right _ hx, e2]; rfl
  · rw [List.map_append, updE_za, updE_za, ← List.map_append, eA]
end
/-! ### what mirrors do -/
def Mst.labs (L : Lay) (zs : List Int) (lb : Lb) (M : Mst) : Mst := (M.cmds zs (labF L lb)).cmds zs fun _ => barF
def Mst.relabel (L : Lay) (bef : List Int) (M : Mst) : Mst := ({ M with gen := M.gen + 1 } : Mst).labs L M.seats ⟨M.gen + 1, M.seats, bef, M.fk⟩
def Mst.clear (L : Lay) (z : Int) (M : Mst) : Mst := ((M.cmd z (putF' L.device.toNat none)).cmd z (putF' (L.device.toNat + 1) none)).cmd z barF
def Mst.copy1 (L : Lay) (z : Int) (bs : List (Option Blk)) (M : Mst) (i : Nat) : Mst := if (M.row z).seen.getD i none = sealOf L i (bs.getD i none) then M else M.cmd z (putF' i (sealOf L i (bs.getD i none)))
def Mst.copies (L : Lay) (z : Int) (bs : List (Option Blk)) (k : Nat) (M : Mst) : Mst := (List.range k).foldl (Mst.copy1 L z bs) M
def Mst.copyTo (L : Lay) (z : Int) (bs : List (Option Blk)) (M : Mst) : Mst := (M.copies L z bs bs.length).cmd z barF
def Mst.read (L : Lay) (M : Mst) (n : Nat) : Option Blk := M.seats.findSome? fun z => readC L n ((M.row z).seen.getD n none)
def Mst.content (L : Lay) (M : Mst) : List (Option Blk) := (List.range L.device.toNat).map (M.read L)
end Sk

namespace Sk
open PySem L2
/-! ### joining -/
def Mst.guest (z : Int) (m : Rows) (M : Mst) : Mst := { M with gs := [(z, m)] }
def Mst.admit (z : Int) (M : Mst) : Mst := { M with es := M.es ++ [(z, M.row z)], gs := [] }
def Mst.joinLb (z : Int) (M : Mst) : Lb := ⟨M.gen, sortI (M.keys ++ [z]), M.seats, M.fk⟩
def Mst.up1 (M : Mst) : Mst := { M with gen := M.gen + 1 }
def Mst.join1 (L : Lay) (z : Int) (stale : Bool) (M : Mst) : Mst := if stale = true then M.clear L z else M
def Mst.join2 (L : Lay) (z : Int) (M : Mst) : Mst := (M.copyTo L z (M.content L)).up1
def Mst.join3 (L : Lay) (z : Int) (M : Mst) : Mst := ((M.labs L [z] (M.joinLb z)).labs L M.seats (M.joinLb z)).admit z
def Mst.join (L : Lay) (z : Int) (stale : Bool) (M : Mst) : Mst := ((M.join1 L z stale).join2 L z).join3 L z
theorem readC_W {L : Lay} {n : Int} {c : Cell} (h : CW L c) {x : Blk} (e : readC L n c = some x) : BW L x := by
  rcases c with _ | ⟨_ | b, k⟩
  · cases e
  · cases e
  · rw [readC] at e
    split at e
    · cases e; exact h _ rfl
    · cases e
theorem row_mem {M : Mst} {z : Int} : M.row z = ⟨[], [], []⟩ ∨ ∃ q ∈ M.es ++ M.gs, q.2 = M.row z ∧ q.1 = z := by
  unfold Mst.row
  cases h : (M.es ++ M.gs).find? fun q => decide (q.1 = z) with
  | none => exact .inl rfl
  | some q =>
    refine .inr ⟨q, List.mem_of_find?_eq_some h, rfl, ?_⟩
    simpa using List.find?_some h
theorem MsW.seen_W {L : Lay} {k : Nat} {M : Mst} (h : MsW L k M) (z : Int) (n : Nat) : CW L ((M.row z).seen.getD n none) := by
  rw [List.getD_eq_getElem?_getD]
  cases e : (M.row z).seen[n]? with
  | none => trivial
  | some c =>
    rcases row_mem (M := M) (z := z) with q | ⟨q, hq, e2, _⟩
    · rw [q] at e; cases e
    · rw [← e2] at e
      exact (h.rows q hq).1.c2 _ (List.mem_of_getElem? e)
theorem MsW.read_W {L : Lay} {k : Nat} {M : Mst} (h : MsW L k M) {n : Nat} {x : Blk} (e : M.read L n = some x) : BW L x := by
  obtain ⟨z, _, hz⟩ := List.exists_of_findSome?_eq_some e
  exact readC_W (h.seen_W z n) hz
theorem MsW.content_W {L : Lay} {k : Nat} {M : Mst} (h : MsW L k M) : ∀ b ∈ M.content L, ∀ x, b = some x → BW L x := fun b hb x e => by
  obtain ⟨n, _, rfl⟩ := List.mem_map.mp hb
  exact h.read_W e
@[simp] theorem content_len (L : Lay) (M : Mst) : (M.content L).length = L.device.toNat := by unfold Mst.content; simp
theorem MsW.copies {L : Lay} {z : Int} {bs : List (Option Blk)} (bl : (bs.length : Int) = L.device) (hb : ∀ b ∈ bs, ∀ x, b = some x → BW L x) {k : Nat} {M : Mst} (h : MsW L k M) : ∀ i, i ≤ bs.length → MsW L (k + i) (M.copies L z bs i)
  | 0, _ => h
  | i + 1, hi => by
    have ih := MsW.copies (z := z) bl hb h i (by omega)
    have e : M.copies L z bs (i + 1) = Mst.copy1 L z bs (M.copies L z bs i) i := by unfold Mst.copies; rw [List.range_succ, List.foldl_append]; rfl
    rw [e]
    unfold Mst.copy1
    split
    · exact ih.up (by omega)
    · refine ih.cmd fun dk m hm w => w.putD (by have := w.ls; omega) (sealW fun x q => ?_)
      refine hb (bs.getD i none) ?_ x q
      rw [List.getD_eq_getElem?_getD, List.getElem?_eq_getElem (by omega)]
      exact List.getElem_mem _
theorem MsW.copyTo {L : Lay} {z : Int} {bs : List (Option Blk)} (bl : (bs.length : Int) = L.device) (hb : ∀ b ∈ bs, ∀ x, b = some x → BW L x) {k : Nat} {M : Mst} (h : MsW L k M) : MsW L (k + bs.length + 1) (M.copyTo L z bs) :=
  (h.copies bl hb _ (Nat.le_refl _)).cmd fun dk m hm w => w.barD.up (by omega)
theorem MsW.clear {L : Lay} (d0 : 0 ≤ L.device) {z : Int} {k : Nat} {M : Mst} (h : MsW L k M) : MsW L (k + 3) (M.clear L z) := by
  unfold Mst.clear
  have h1 := h.cmd (z := z) (f := putF' L.device.toNat none) fun dk m hm w => w.putD (by have := w.ls; omega) trivial
  have h2 := h1.cmd (z := z) (f := putF' (L.device.toNat + 1) none) fun dk m hm w => w.putD (by have := w.ls; omega) trivial
  exact h2.cmd (z := z) (f := barF) fun dk m hm w => w.barD.up (by omega)
theorem MsW.labs {L : Lay} (hL : L.Ok) (d0 : 0 ≤ L.device) {lb : Lb} (g0 : 0 ≤ lb.gen) (g1 : lb.gen < 281474976710656) (few : lb.forks.length ≤ 16) {zs : List Int} {k : Nat} {M : Mst} (h : MsW L k M) : MsW L (k + zs.length + zs.length) (M.labs L zs lb) :=
  MsW.cmds (f := fun _ => barF) barF_W zs (MsW.cmds (f := labF L lb) (labF_W hL d0 g0 g1 few) zs h)
theorem MsW.up1 {L : Lay} {k : Nat} {M : Mst} (h : MsW L k M) : MsW L (k + 1) M.up1 := ⟨fun q hq => let ⟨a, b⟩ := h.rows q hq; ⟨a.up (Nat.le_succ k), b⟩, ⟨by have := h.gen.1; show 0 ≤ M.gen + 1; omega, by have := h.gen.2; show M.gen + 1 ≤ _; omega⟩, h.few, h.fkr⟩
theorem MsW.guest {L : Lay} {k : Nat} {M : Mst} (h : MsW L k M) {z : Int} (z0 : 0 ≤ z) (z3 : z < 3) {m : Rows} (hm : RsW L k m) : MsW L k (M.guest z m) := ⟨fun q hq => by
  rcases List.mem_append.mp hq with hq | hq
  · exact h.rows q (List.mem_append_left _ hq)
  · have hq : q ∈ [(z, m)] := hq
    rw [List.mem_singleton] at hq
    subst hq
    exact ⟨hm, z0, z3⟩, h.gen, h.few, h.fkr⟩
theorem MsW.admit {L : Lay} {k : Nat} {M : Mst} (h : MsW L k M) {z : Int} (hz : ∃ m, (z, m) ∈ M.es ++ M.gs ∧ M.row z = m) : MsW L k (M.admit z) := ⟨fun q hq => by
  have hq : q ∈ M.es ++ [(z, M.row z)] := by simpa [Mst.admit] using hq
  rcases List.mem_append.mp hq with hq | hq
  · exact h.rows q (List.mem_append_left _ hq)
  · rw [List.mem_singleton] at hq
    obtain ⟨m, hm, e⟩ := hz
    rw [hq, e]
    exact h.rows _ hm, h.gen, h.few, h.fkr⟩
section
variable {K : PySem.W.Frag} {CM CS CD : Addr} {R H H' : Hp} {mo mg a sd gd fa : Addr} {es : List Ent} {gen : Int} {fk : List Int} {p : Pow}
/-- a guest has come -/
theorem MirAt.guest (h : MirAt K CM CS CD R H mo a sd gd fa es [] gen fk p) {e : Ent} (ob : ∃ dx, H' mo = some (.ins CM dx [("layout", .ref a), ("sides", .ref sd), ("guests", .ref gd), ("generation", .int gen), ("forks", .ref fa), ("fuse", fuseV p.fuse), ("dark", .bl p.dark)])) (hsd : H' sd = some (.dK (es.map Ent.kv))) (hgd : H' gd = some (.dK [e.kv]))
    (so : ∀ f ∈ es ++ [e], SideOkD p.dark K CS CD R H' f.s a f.z f.m f.ms) (dj : Dj e.ms (foot [mo, sd, gd] es)) (zk : e.z ∉ es.map (·.z)) (fw : es.length ≤ 2) : MirAt K CM CS CD R H' mo a sd gd fa es [e] gen fk p := by
  have ap := h.apart
  rw [List.append_nil] at ap
  have ky := h.keys
  rw [List.append_nil] at ky
  refine ⟨ob, hsd, hgd, h.own, h.non, h.fks, so, ⟨fun f hf => ?_, ?_⟩, ?_, by rw [List.length_append]; simp; omega⟩
  · rcases List.mem_append.mp hf with hf | hf
    · exact ap.1 f hf
    · rw [List.mem_singleton] at hf
      subst hf
      exact fun x hx hx' => dj x hx' (mem_foot.mpr (.inl hx))
  · rw [List.pairwise_append]
    refine ⟨ap.2, List.pairwise_singleton _ _, fun f hf g hg => ?_⟩
    rw [List.mem_singleton] at hg
    subst hg
    exact fun x hx hx' => dj x hx' (mem_foot.mpr (.inr ⟨f, hf, hx⟩))
  · rw [List.map_append, List.nodup_append]
    refine ⟨ky, by simp, fun x hx y hy e => ?_⟩
    have : y = _ := List.mem_singleton.mp hy
    rw [e, this] at hx
    exact zk hx
/-- the guest is a member now -/
theorem MirAt.admit {e : Ent} (h : MirAt K CM CS CD R H mo a sd gd fa es [e] gen fk p) (ob : ∃ dx, H' mo = some (.ins CM dx [("layout", .ref a), ("sides", .ref sd), ("guests", .ref gd), ("generation", .int gen), ("forks", .ref fa), ("fuse", fuseV p.fuse), ("dark", .bl p.dark)])) (hsd : H' sd = some (.dK ((es ++ [e]).map Ent.kv))) (hgd : H' gd = some (.dK []))
    (so : ∀ f ∈ es ++ [e], SideOkD p.dark K CS CD R H' f.s a f.z f.m f.ms) : MirAt K CM CS CD R H' mo a sd gd fa (es ++ [e]) [] gen fk p :=
  ⟨ob, hsd, hgd, h.own, h.non, h.fks, by rw [List.append_nil]; exact so, by rw [List.append_nil]; exact h.apart, by rw [List.append_nil]; exact h.keys, by rw [List.append_nil]; exact h.few⟩
end
theorem nodup_len : ∀ (l m : List Int), l.Nodup → (∀ x ∈ l, x ∈ m) → l.length ≤ m.length
  | [], m, _, _ => Nat.zero_le _
  | a :: r, m, nd, h => by
    obtain ⟨n1, n2⟩ := List.nodup_cons.mp nd
    have ha := h a List.mem_cons_self
    have ih := nodup_len r (m.erase a) n2 fun x hx => (List.mem_erase_of_ne (fun e => n1 (by rw [← e]; exact hx))).mpr (h x (List.mem_cons_of_mem _ hx))
    rw [List.length_erase_of_mem ha] at ih
    have : 0 < m.length := List.length_pos_of_mem ha
    rw [List.length_cons]; omega
/-- three seats at most -/
theorem keys_few {l : List Int} (nd : l.Nodup) (h : ∀ z ∈ l, 0 ≤ z ∧ z < 3) {z : Int} (z0 : 0 ≤ z) (z3 : z < 3) (hz : z ∉ l) : l.length ≤ 2 := by
  have nd' : (z :: l).Nodup := List.nodup_cons.mpr ⟨hz, nd⟩
  have sub : ∀ x ∈ z :: l, x ∈ ([0, 1, 2] : List Int) := fun x hx => by
    have : 0 ≤ x ∧ x < 3 := by
      rcases List.mem_cons.mp hx with rfl | hx
      · exact ⟨z0, z3⟩
      · exact h x hx
    simp; omega
  have := nodup_len _ _ nd' sub
  simp at this
  omega
@[simp] theorem clear_keys (L : Lay) (z : Int) (M : Mst) : (M.clear L z).keys = M.keys := by unfold Mst.clear; simp
theorem copies_keys (L : Lay) (z : Int) (bs : List (Option Blk)) (M : Mst) : ∀ k, (M.copies L z bs k).keys = M.keys
  | 0 => rfl
  | k + 1 => by
    have e : M.copies L z bs (k + 1) = Mst.copy1 L z bs (M.copies L z bs k) k := by unfold Mst.copies; rw [List.range_succ, List.foldl_append]; rfl
    rw [e]
    unfold Mst.copy1
    split
    · exact copies_keys L z bs M k
    · rw [cmd_keys]; exact copies_keys L z bs M k
@[simp] theorem copyTo_keys (L : Lay) (z : Int) (bs : List (Option Blk)) (M : Mst) : (M.copyTo L z bs).keys = M.keys := by unfold Mst.copyTo; rw [cmd_keys, copies_keys]
@[simp] theorem labs_keys (L : Lay) (zs : List Int) (lb : Lb) (M : Mst) : (M.labs L zs lb).keys = M.keys := by unfold Mst.labs; rw [cmds_keys, cmds_keys]
@[simp] theorem labs_seats (L : Lay) (zs : List Int) (lb : Lb) (M : Mst) : (M.labs L zs lb).seats = M.seats := congrArg sortI (labs_keys L zs lb M)
@[simp] theorem join1_keys (L : Lay) (z : Int) (b : Bool) (M : Mst) : (M.join1 L z b).keys = M.keys := by unfold Mst.join1; split <;> simp
@[simp] theorem up1_keys (M : Mst) : M.up1.keys = M.keys := rfl
@[simp] theorem up1_seats (M : Mst) : M.up1.seats = M.seats := rfl
@[simp] theorem join2_keys (L : Lay) (z : Int) (M : Mst) : (M.join2 L z).keys = M.keys := by unfold Mst.join2; simp
theorem MsW.join1 {L : Lay} (d0 : 0 ≤ L.device) {z : Int} {b : Bool} {k : Nat} {M : Mst} (h : MsW L k M) : MsW L (k + 3) (M.join1 L z b) := by
  unfold Mst.join1
  split
  · exact h.clear d0
  · exact h.up (by omega)
section
variable {K : PySem.W.Frag} {CM CS CD : Addr} {R H H' : Hp} {mo a : Addr} {M : Mst} {F : List Addr} {A : List (Int × Addr)}
theorem MirOk.up1 (h : MirOk K CM CS CD R H mo a M F A) (g : Gr [mo] R H R H') (ob : ∀ dx sd gd fa, H mo = some (.ins CM dx [("layout", .ref a), ("sides", .ref sd), ("guests", .ref gd), ("generation", .int M.gen), ("forks", .ref fa), ("fuse", fuseV M.pw.fuse), ("dark", .bl M.pw.dark)]) → H' mo = some (.ins CM dx [("layout", .ref a), ("sides", .ref sd), ("guests", .ref gd), ("generation", .int (M.gen + 1)), ("forks", .ref fa), ("fuse", fuseV M.pw.fuse), ("dark", .bl M.pw.dark)])) :
    MirOk K CM CS CD R H' mo a M.up1 F A ∧ Step F F R H R H' := by
  obtain ⟨sd, gd, fa, es, gs, rfl, h, e1, e2, eA⟩ := h
  obtain ⟨dx, o⟩ := h.obj
  exact ⟨⟨sd, gd, fa, es, gs, rfl, h.fld g ⟨dx, ob _ _ _ _ o⟩ rfl h.fks, e1, e2, eA⟩, Step.of (g.mono fun x hx => by rw [List.mem_singleton.mp hx]; exact mem_foot.mpr (.inl (by simp)))⟩
end
theorem lk_eq {H : Hp} {x C C' dx dx' : Addr} {fs fs' : List (Str × V)} (h : H x = some (.ins C dx fs)) (h' : H x = some (.ins C' dx' fs')) (f : Str) : fs.lookup f = fs'.lookup f := by rw [h] at h'; cases h'; rfl
theorem keys_V {kvs : List (Key × V)} {l : List Int} (h : kvs.map (·.1) = l.map Sum.inl) : (kvs.map fun kv => kV kv.1) = l.map V.int := by
  have := congrArg (List.map kV) h
  rw [List.map_map, List.map_map] at this
  exact this
theorem g_pop1 {td ty : TE} {σ : St} {H : Hp} {Q : VK} (q : td σ H fun x H1 => ∃ a, x = .ref a ∧ IsD H1 a ∧ ty σ H1 fun y H2 => ∃ kvs k v, H2 a = some (.dK kvs) ∧ y = kV k ∧ valV kvs k = some v ∧ Q v (upd H2 a (.dK (dropK kvs k)))) : tDPop1 td ty σ H Q := q
theorem za_split {es gs : List Ent} {A : List (Int × Addr)} {z : Int} {s : Addr} (h : (es ++ gs).map Ent.za = A ++ [(z, s)]) (l : A.length = es.length) : ∃ e, gs = [e] ∧ e.z = z ∧ e.s = s ∧ es.map Ent.za = A := by
  rw [List.map_append] at h
  obtain ⟨h1, h2⟩ := List.append_inj h (by rw [List.length_map]; exact l.symm)
  match gs, h2 with
  | [e], h2 =>
    have q : [(e.z, e.s)] = [(z, s)] := h2
    simp at q
    exact ⟨e, rfl, q.1, q.2, h1⟩
  | [], h2 => simp at h2
  | _ :: _ :: _, h2 => simp at h2
end Sk

namespace Sk
open PySem L2
/-! ### joining and pulling in the law's model -/
def Mst.drop (z : Int) (M : Mst) : Mst := { M with es := M.es.filter fun q => decide (q.1 ≠ z) }
section
variable {K : PySem.W.Frag} {CM CS CD : Addr} {R H R' H' : Hp} {mo mg a sd gd fa g : Addr} {es : List Ent} {gen : Int} {fk : List Int} {p : Pow} {M : Mst} {F : List Addr} {A : List (Int × Addr)}
theorem LawOk.guest (h : LawOk K R H mg sd M F A) (g0 : M.gs = []) {z : Int} (zk : z ∉ M.keys) (fw : M.keys.length ≤ 2) {m : Rows} {ms : List Addr} (ro : RowOk K R H g m ms) (dj : Dj ms F) : LawOk K R H mg sd (M.guest z m) (F ++ ms) (A ++ [(z, g)]) := by
  obtain ⟨fa, es, ls, rfl, h, e1, e2, eA⟩ := h
  obtain rfl : ls = [] := by rw [g0] at e2; exact List.map_eq_nil_iff.mp e2
  have ek : M.keys = es.map (·.z) := by unfold Mst.keys; rw [← e1, List.map_map]; rfl
  have ap := h.apart
  have ky := h.keys
  rw [List.append_nil] at ap ky dj eA
  refine ⟨fa, es, [Ent.mk z g m ms], by unfold foot; rw [List.flatMap_append, List.append_assoc]; simp, ⟨h.obj, h.hsd, h.own, h.non, h.fks, fun e he => ?_, ⟨fun f hf => ?_, ?_⟩, ?_, ?_⟩, e1, rfl, by rw [List.map_append, eA]; rfl⟩
  · rcases List.mem_append.mp he with he | he
    · exact h.rows e (List.mem_append_left _ he)
    · rw [List.mem_singleton] at he
      subst he
      exact ro
  · rcases List.mem_append.mp hf with hf | hf
    · exact ap.1 f hf
    · rw [List.mem_singleton] at hf
      subst hf
      exact fun x hx hx' => dj x hx' (mem_foot.mpr (.inl hx))
  · rw [List.pairwise_append]
    refine ⟨ap.2, List.pairwise_singleton _ _, fun f hf g hg => ?_⟩
    rw [List.mem_singleton] at hg
    subst hg
    exact fun x hx hx' => dj x hx' (mem_foot.mpr (.inr ⟨f, hf, hx⟩))
  · rw [List.map_append, List.nodup_append]
    refine ⟨ky, by simp, fun x hx y hy e => ?_⟩
    have : y = z := List.mem_singleton.mp hy
    rw [e, this] at hx
    exact zk (by rw [ek]; exact hx)
  · rw [ek, List.length_map] at fw
    rw [List.length_append]
    simp
    omega
theorem LawOk.up1 (h : LawOk K R H mg sd M F A) (gr : Gr [mg] R H R H') (ob : ∀ kvs, H mg = some (.dK kvs) → H' mg = some (.dK (putK kvs (.inr "generation") (.int (M.gen + 1))))) : LawOk K R H' mg sd M.up1 F A ∧ Step F F R H R H' := by
  obtain ⟨fa, es, ls, rfl, h, e1, e2, eA⟩ := h
  obtain ⟨kvs, o, mf⟩ := h.obj
  have own := h.own
  simp at own
  refine ⟨⟨fa, es, ls, rfl, ⟨⟨_, ob _ o, mf.setGen _⟩, gr.hh _ _ (nin1 (Ne.symm own)) h.hsd, h.own, h.non, h.fks, fun e he => (h.rows e he).frame gr fun x hx hx' => h.apart.1 e he mg (by simp) (by rw [← List.mem_singleton.mp hx']; exact hx), h.apart, h.keys, h.few⟩, e1, e2, eA⟩,
    Step.of (gr.mono fun x hx => by rw [List.mem_singleton.mp hx]; exact mem_foot.mpr (.inl (by simp)))⟩
theorem LawOk.admit {z : Int} (h : LawOk K R H mg sd M F (A ++ [(z, g)])) (l : A.length = M.keys.length) (zk : z ∉ M.keys) (gr : Gr [sd] R H R H') (ob : ∀ kvs, H sd = some (.dK kvs) → H' sd = some (.dK (putK kvs (.inl z) (.ref g)))) : LawOk K R H' mg sd (M.admit z) F (A ++ [(z, g)]) ∧ Step F F R H R H' := by
  obtain ⟨fa, es, ls, rfl, h, e1, e2, eA⟩ := h
  have ek : M.keys = es.map (·.z) := by unfold Mst.keys; rw [← e1, List.map_map]; rfl
  obtain ⟨e, rfl, q1, q2, eA'⟩ := za_split eA (by rw [l, ek, List.length_map])
  have he : e ∈ es ++ [e] := List.mem_append_right _ (List.mem_singleton_self _)
  have hrow := row_of e1 e2 h.keys he
  obtain ⟨kvs, o, mf⟩ := h.obj
  have own := h.own
  simp at own
  have epk : putK (es.map Ent.kv) (.inl z) (.ref g) = (es ++ [e]).map Ent.kv := by
    rw [putK_new _ (ent_none (by rw [← ek]; exact zk)), List.map_append]
    show _ ++ [(Sum.inl z, V.ref g)] = _ ++ [(Sum.inl e.z, V.ref e.s)]
    rw [q1, q2]
  refine ⟨⟨fa, es ++ [e], [], by rw [List.append_nil], ⟨⟨kvs, gr.hh _ _ (nin1 own) o, mf⟩, by rw [← epk]; exact ob _ h.hsd, h.own, h.non, h.fks, fun f hf => ?_, by rw [List.append_nil]; exact h.apart, by rw [List.append_nil]; exact h.keys, by rw [List.append_nil]; exact h.few⟩, ?_, rfl, by rw [List.append_nil, eA]⟩,
    Step.of (gr.mono fun x hx => by rw [List.mem_singleton.mp hx]; exact mem_foot.mpr (.inl (by simp)))⟩
  · rw [List.append_nil] at hf
    exact (h.rows f hf).frame gr fun x hx hx' => h.apart.1 f hf sd (by simp) (by rw [← List.mem_singleton.mp hx']; exact hx)
  · show (es ++ [e]).map Ent.zm = M.es ++ [(z, M.row z)]
    rw [List.map_append, e1, ← q1, hrow]; rfl
/-! ### a member leaves -/
def dropE (z : Int) (es : List Ent) : List Ent := es.filter fun e => decide (e.z ≠ z)
theorem dropE_kv {z : Int} {es : List Ent} : (dropE z es).map Ent.kv = dropK (es.map Ent.kv) (.inl z) := by
  unfold dropE dropK
  rw [List.filter_map]
  refine congrArg (List.map Ent.kv) (List.filter_congr fun e _ => ?_)
  show decide (e.z ≠ z) = decide ((Sum.inl e.z : Key) ≠ Sum.inl z)
  by_cases q : e.z = z
  · rw [q]; simp
  · have : (Sum.inl e.z : Key) ≠ Sum.inl z := fun h => q (by injection h)
    simp [q]
theorem dropE_zm {z : Int} {es : List Ent} : (dropE z es).map Ent.zm = (es.map Ent.zm).filter fun q => decide (q.1 ≠ z) := by
  unfold dropE
  rw [List.filter_map]; rfl
theorem dropE_za {z : Int} {es : List Ent} : (dropE z es).map Ent.za = (es.map Ent.za).filter fun q => decide (q.1 ≠ z) := by
  unfold dropE
  rw [List.filter_map]; rfl
theorem dropE_sub {z : Int} {es : List Ent} : (dropE z es).Sublist es := List.filter_sublist
theorem mem_dropE {z : Int} {es : List Ent} {e : Ent} (h : e ∈ dropE z es) : e ∈ es ∧ e.z ≠ z := by
  unfold dropE at h
  obtain ⟨a, b⟩ := List.mem_filter.mp h
  exact ⟨a, by simpa using b⟩
theorem Apart.drop {own : List Addr} {es : List Ent} (h : Apart own es) (z : Int) : Apart own (dropE z es) := ⟨fun e he => h.1 e (mem_dropE he).1, h.2.sublist dropE_sub⟩
theorem Apart.two {own : List Addr} {es : List Ent} (h : Apart own es) {e f : Ent} (he : e ∈ es) (hf : f ∈ es) (ne : e.z ≠ f.z) : Dj e.ms f.ms := by
  obtain ⟨i, hi, rfl⟩ := List.getElem_of_mem he
  obtain ⟨j, hj, rfl⟩ := List.getElem_of_mem hf
  have hp := h.2
  rw [List.pairwise_iff_getElem] at hp
  rcases Nat.lt_trichotomy i j with l | l | l
  · exact hp i j hi hj l
  · subst l; exact absurd rfl ne
  · exact (hp j i hj hi l).symm
theorem foot_drop {own : List Addr} {es : List Ent} {z : Int} : ∀ x ∈ foot own (dropE z es), x ∈ foot own es := fun x hx => by
  rcases mem_foot.mp hx with hx | ⟨e, he, hx⟩
  · exact mem_foot.mpr (.inl hx)
  · exact mem_foot.mpr (.inr ⟨e, (mem_dropE he).1, hx⟩)
/-- the side of seat z is popped -/
theorem MirOk.drop (h : MirOk K CM CS CD R H mo a M F A) (g0 : M.gs = []) {z : Int} {s : Addr} (hz : (z, s) ∈ A) : ∃ sd kvs m ms F', H sd = some (.dK kvs) ∧ R sd = none ∧ valV kvs (.inl z) = some (.ref s) ∧ (z, m) ∈ M.es ∧ sd ∈ F ∧ (∀ x ∈ F', x ∈ F) ∧ (∀ x ∈ ms, x ∈ F) ∧ Dj ms F' ∧ SideOkD M.pw.dark K CS CD R H s a z m ms ∧
    (∃ dx gd fa, H mo = some (.ins CM dx [("layout", .ref a), ("sides", .ref sd), ("guests", .ref gd), ("generation", .int M.gen), ("forks", .ref fa), ("fuse", fuseV M.pw.fuse), ("dark", .bl M.pw.dark)])) ∧ sd ∈ F' ∧ mo ≠ sd ∧ sd ∉ ms ∧
    ∀ H', Gr [sd] R H R H' → H' sd = some (.dK (dropK kvs (.inl z))) → MirOk K CM CS CD R H' mo a (M.drop z) F' (A.filter fun q => decide (q.1 ≠ z)) := by
  obtain ⟨sd, gd, fa, es, gs, rfl, h, e1, e2, eA⟩ := h
  obtain rfl : gs = [] := by rw [g0] at e2; exact List.map_eq_nil_iff.mp e2
  have ap := h.apart
  have ky := h.keys
  have fw := h.few
  have sds := h.sides
  rw [List.append_nil] at ap ky eA fw sds
  rw [← eA] at hz
  obtain ⟨e, he, rfl, rfl⟩ := ent_of_za hz
  obtain ⟨dx, o⟩ := h.obj
  obtain ⟨o1, o2⟩ := List.nodup_cons.mp h.own
  simp only [List.mem_cons, List.not_mem_nil, or_false, not_or] at o1
  obtain ⟨o3, _⟩ := List.nodup_cons.mp o2
  simp only [List.mem_cons, List.not_mem_nil, or_false] at o3
  rw [List.append_nil]
  refine ⟨sd, _, e.m, e.ms, foot [mo, sd, gd] (dropE e.z es), h.hsd, h.non sd (by simp), ent_val ky he, by rw [← e1]; exact List.mem_map.mpr ⟨e, he, rfl⟩, mem_foot.mpr (.inl (by simp)), foot_drop, fun x hx => mem_foot.mpr (.inr ⟨e, he, hx⟩), fun x hx hx' => ?_, sds e he, ⟨dx, gd, fa, o⟩, mem_foot.mpr (.inl (by simp)), o1.1, ap.1 e he sd (by simp), fun H' g hs => ?_⟩
  · rcases mem_foot.mp hx' with hx' | ⟨f, hf, hx'⟩
    · exact ap.1 e he x hx' hx
    · obtain ⟨hf, ne⟩ := mem_dropE hf
      exact ap.two hf he ne x hx' hx
  · refine ⟨sd, gd, fa, dropE e.z es, [], by rw [List.append_nil], ⟨⟨dx, g.hh _ _ (nin1 o1.1) o⟩, by rw [dropE_kv]; exact hs, g.hh _ _ (nin1 (Ne.symm o3)) h.hgd, h.own, h.non, h.fks, fun f hf => ?_, by rw [List.append_nil]; exact ap.drop _, by rw [List.append_nil]; exact ky.sublist (dropE_sub.map _), by rw [List.append_nil]; exact Nat.le_trans dropE_sub.length_le fw⟩, by rw [dropE_zm, e1]; rfl, e2, by rw [List.append_nil, dropE_za, eA]⟩
    rw [List.append_nil] at hf
    obtain ⟨hf, _⟩ := mem_dropE hf
    exact (sds f hf).frame g fun x hx hx' => ap.1 f hf sd (by simp) (by rw [← List.mem_singleton.mp hx']; exact hx)
theorem LawOk.drop (h : LawOk K R H mg sd M F A) (g0 : M.gs = []) {z : Int} {s : Addr} (hz : (z, s) ∈ A) : ∃ kvs m ms F', H sd = some (.dK kvs) ∧ valV kvs (.inl z) = some (.ref s) ∧ (z, m) ∈ M.es ∧ (∀ x ∈ F', x ∈ F) ∧ (∀ x ∈ ms, x ∈ F) ∧ Dj ms F' ∧ RowOk K R H s m ms ∧ sd ∉ ms ∧
    ∀ H', Gr [sd] R H R H' → H' sd = some (.dK (dropK kvs (.inl z))) → LawOk K R H' mg sd (M.drop z) F' (A.filter fun q => decide (q.1 ≠ z)) := by
  obtain ⟨fa, es, ls, rfl, h, e1, e2, eA⟩ := h
  obtain rfl : ls = [] := by rw [g0] at e2; exact List.map_eq_nil_iff.mp e2
  have ap := h.apart
  have ky := h.keys
  have fw := h.few
  have rws := h.rows
  rw [List.append_nil] at ap ky eA fw rws
  rw [← eA] at hz
  obtain ⟨e, he, rfl, rfl⟩ := ent_of_za hz
  obtain ⟨kvs, o, mf⟩ := h.obj
  have own := h.own
  simp at own
  rw [List.append_nil]
  refine ⟨_, e.m, e.ms, foot [mg, sd] (dropE e.z es), h.hsd, ent_val ky he, by rw [← e1]; exact List.mem_map.mpr ⟨e, he, rfl⟩, foot_drop, fun x hx => mem_foot.mpr (.inr ⟨e, he, hx⟩), fun x hx hx' => ?_, rws e he, ap.1 e he sd (by simp), fun H' g hs => ?_⟩
  · rcases mem_foot.mp hx' with hx' | ⟨f, hf, hx'⟩
    · exact ap.1 e he x hx' hx
    · obtain ⟨hf, ne⟩ := mem_dropE hf
      exact ap.two hf he ne x hx' hx
  · refine ⟨fa, dropE e.z es, [], by rw [List.append_nil], ⟨⟨kvs, g.hh _ _ (nin1 own) o, mf⟩, by rw [dropE_kv]; exact hs, h.own, h.non, h.fks, fun f hf => ?_, by rw [List.append_nil]; exact ap.drop _, by rw [List.append_nil]; exact ky.sublist (dropE_sub.map _), by rw [List.append_nil]; exact Nat.le_trans dropE_sub.length_le fw⟩, by rw [dropE_zm, e1]; rfl, e2, by rw [List.append_nil, dropE_za, eA]⟩
    rw [List.append_nil] at hf
    obtain ⟨hf, _⟩ := mem_dropE hf
    exact (rws f hf).frame g fun x hx hx' => ap.1 f hf sd (by simp) (by rw [← List.mem_singleton.mp hx']; exact hx)
end
theorem drop_keys (z : Int) (M : Mst) : (M.drop z).keys = M.keys.filter fun y => decide (y ≠ z) := by
  unfold Mst.drop Mst.keys
  rw [List.filter_map]; rfl
theorem MsW.drop {L : Lay} {k : Nat} {M : Mst} (h : MsW L k M) (z : Int) : MsW L k (M.drop z) := ⟨fun q hq => h.rows q (by
  rcases List.mem_append.mp hq with hq | hq
  · exact List.mem_append_left _ (List.mem_filter.mp hq).1
  · exact List.mem_append_right _ hq), h.gen, h.few, h.fkr⟩
/-! ### what a command of another side does not change -/
theorem find_updR {z y : Int} {f : Rows → Rows} {l : List (Int × Rows)} (h : y ≠ z) : (updR z f l).find? (fun q => decide (q.1 = y)) = l.find? fun q => decide (q.1 = y) := by
  unfold updR
  induction l with
  | nil => rfl
  | cons q r ih =>
    rw [List.map_cons]
    by_cases e : q.1 = z
    · rw [if_pos e, List.find?_cons_of_neg, List.find?_cons_of_neg, ih]
      · simp only [decide_eq_true_eq]; exact fun x => h (x.symm.trans e)
      · simp only [decide_eq_true_eq]; exact fun x => h (x.symm.trans e)
    · rw [if_neg e]
      by_cases e' : q.1 = y
      · rw [List.find?_cons_of_pos (by simpa using e'), List.find?_cons_of_pos (by simpa using e')]
      · rw [List.find?_cons_of_neg (by simpa using e'), List.find?_cons_of_neg (by simpa using e'), ih]
theorem cmd_row {z y : Int} {f : Bool → Rows → Rows} {M : Mst} (h : y ≠ z) : (M.cmd z f).row y = M.row y := by
  unfold Mst.row
  show (((updR z _ M.es ++ updR z _ M.gs).find? _).map _).getD _ = _
  rw [show ∀ g : Rows → Rows, updR z g M.es ++ updR z g M.gs = updR z g (M.es ++ M.gs) from fun g => by unfold updR; rw [List.map_append], find_updR h]
theorem fs_congr {α : Type} {f g : Int → Option α} : ∀ {l : List Int}, (∀ x ∈ l, f x = g x) → l.findSome? f = l.findSome? g
  | [], _ => rfl
  | y :: r, h => by rw [List.findSome?_cons, List.findSome?_cons, h y List.mem_cons_self, fs_congr fun x hx => h x (List.mem_cons_of_mem _ hx)]
theorem cmd_read {z : Int} {f : Bool → Rows → Rows} {L : Lay} {M : Mst} (h : z ∉ M.keys) (n : Nat) : (M.cmd z f).read L n = M.read L n := by
  unfold Mst.read
  rw [cmd_seats]
  refine fs_congr fun y hy => ?_
  rw [cmd_row fun e => h (by rw [← e]; exact seats_keys.mp hy)]
theorem clear_content {z : Int} {L : Lay} {M : Mst} (h : z ∉ M.keys) : (M.clear L z).content L = M.content L := by
  unfold Mst.content Mst.clear
  refine List.map_congr_left fun n _ => ?_
  rw [cmd_read (by simpa using h), cmd_read (by simpa using h), cmd_read h]
theorem join1_content {z : Int} {b : Bool} {L : Lay} {M : Mst} (h : z ∉ M.keys) : (M.join1 L z b).content L = M.content L := by
  unfold Mst.join1
  split
  · exact clear_content h
  · rfl
theorem guest_read {z : Int} {m : Rows} {L : Lay} {M : Mst} (g0 : M.gs = []) (n : Nat) : (M.guest z m).read L n = M.read L n := by
  unfold Mst.read
  refine fs_congr fun y hy => ?_
  have hy : y ∈ M.keys := seats_keys.mp hy
  have : (M.guest z m).row y = M.row y := by
    unfold Mst.row
    show (((M.es ++ [(z, m)]).find? _).map _).getD _ = _
    rw [g0, List.append_nil, List.find?_append]
    obtain ⟨q, hq, e⟩ := List.mem_map.mp hy
    have : (M.es.find? fun q => decide (q.1 = y)).isSome = true := List.find?_isSome.mpr ⟨q, hq, by simpa using e⟩
    obtain ⟨w, hw⟩ := Option.isSome_iff_exists.mp this
    rw [hw]; rfl
  rw [this]
theorem guest_content {z : Int} {m : Rows} {L : Lay} {M : Mst} (g0 : M.gs = []) : (M.guest z m).content L = M.content L := List.map_congr_left fun n _ => guest_read g0 n
/-! ### [k for k in d] -/
theorem g_lockKeys {i j : Nat} {σ : St} {H : Hp} {Q : VK} {d : Addr} {kvs : List (Key × V)} {ks : List Int} (hσ : σ[i]? = some (some (.ref d))) (ij : i ≠ j) (hj : j < σ.length) (hd : H d = some (.dK kvs)) (hk : kvs.map (·.1) = ks.map Sum.inl) (hl : ks.length < 1000) (q : ∀ D, H D = none → Q (.ref D) (upd H D (.lst (ks.map V.int)))) :
    tLockE (tLc (iKeys (tVar i)) (gName j) tYes (tVar j) [j]) σ H Q := by
  refine ⟨d, .dK kvs, hd, trivial, fun od => g_lc ?_⟩
  have kl : kvs.length = ks.length := by have := congrArg List.length hk; simpa using this
  show tVar i σ _ _
  refine g_var hσ ⟨d, od, rfl, .inl ⟨kvs, upd_same, fun D nD => ?_⟩⟩
  have nd : D ≠ d := fun e => by rw [e, upd_same] at nD; cases nD
  have nD' : H D = none := by rw [upd_ne nd] at nD; exact nD
  refine lc_it walk_keys (fun n H' => H' = upd (upd H d (.frz od (.dK kvs))) D (.lst ((ks.take n).map V.int))) rfl (fun n H' _ e => by rw [e, upd_ne (Ne.symm nd)]; exact upd_same) ?_ ?_
  · rintro n x H2 H3 hn rfl ⟨rfl, k, v, hkv, rfl⟩
    have hk' := congrArg (fun l => l[n]?) hk
    simp only [List.getElem?_map, hkv] at hk'
    obtain ⟨z, hz, e⟩ : ∃ z, ks[n]? = some z ∧ Sum.inl z = k := by
      cases h : ks[n]? with
      | none => rw [h] at hk'; cases hk'
      | some z => rw [h] at hk'; exact ⟨z, rfl, by simpa using hk'.symm⟩
    subst e
    refine ⟨?_, ?_⟩
    · show ((σ.set j none).set j _).set j none = σ.set j none
      rw [List.set_set, List.set_set]
    · refine g_yes ?_
      simp only [if_true]
      refine g_var (v := .int z) (by show ((σ.set j none).set j _)[j]? = _; rw [List.set_set, List.getElem?_set_self hj]; rfl) ⟨_, upd_same, ?_, ?_⟩
      · rw [List.length_map, List.length_take, sizeLine_eq]; omega
      · show upd (upd _ _ _) _ _ = _
        rw [List.take_add_one, hz, List.map_append]
        funext b
        by_cases e : b = D
        · rw [e, upd_same, upd_same]; rfl
        · rw [upd_ne e, upd_ne e, upd_ne e]
  · rintro H' rfl
    refine ⟨by rw [upd_ne (Ne.symm nd)]; exact upd_same, ?_⟩
    have e : upd (upd (upd H d (.frz od (.dK kvs))) D (.lst ((ks.take kvs.length).map V.int))) d (.dK kvs) = upd H D (.lst (ks.map V.int)) := by
      rw [kl, List.take_length]
      funext b
      by_cases e : b = d
      · rw [e, upd_same, upd_ne (Ne.symm nd), hd]
      · rw [upd_ne e]
        by_cases e' : b = D
        · rw [e', upd_same, upd_same]
        · rw [upd_ne e', upd_ne e', upd_ne e]
    rw [e]
    exact q D nD'
end Sk

namespace Sk
open PySem L2
/-! ### methods that may raise, within a try; isinstance of what was raised -/
section
open PySem.W
variable {X : Cx} {CX : CXT} {k n : Nat} {f C : Addr} {fd : FuncData} {ps ks : List Str} {sp : Sp} {E : St → XK} {m : Str} {pos apos : Pos} {e o : Expr} {es : List Expr} {kws : List Keyword} {ta : TE} {t tk : TA} {g : List Value → List Value → List Value} {gV : List V → List V → List V}
theorem run_fnNS {pins : List (Addr × Obj)} {σ : St} {H : Hp} {s : Shared} {Q : VK} {E : XK} {us ws : List Value} {vs zs : List V} (F : FnOk X.prog X.w X.K X.mg X.base CX k f fd ps sp) (hr : Room k X.A) (hb : KBn X.K fd ps n ks g gV) (hx : PassesAt CX X σ E)
    (I : Inv X pins σ H s) (r : Vals vs us) (rz : Vals zs ws) (l1 : vs.length = n) (l2 : zs.length = ks.length) (h : sp (gV vs zs) H Q E) : wpAny (model X.prog X.w) X.A (call (.ref f) us (ks.zip ws)) (EP X pins σ Q) X.xe s := by
  have r2 := hb.rel r rz
  refine wpAny_call (codeAny_mono (F.run X.A X.stack s H ⟨us, ks.zip ws⟩ (g us ws) (gV vs zs) Q E hr I.env0 (hb.to s us ws I.kIn (r.length.symm.trans l1) (rz.length.symm.trans l2)) r2 h) fun r s' hq => ?_)
  cases r with
  | error e => exact hx pins H s e s' I hq
  | ok fl =>
    cases fl with
    | ret u => exact I.after hq
    | next => exact False.elim hq
    | brk => exact False.elim hq
    | cont => exact False.elim hq
def tMethS (C : Addr) (m : Str) (sp : Sp) (E : St → XK) (ta : TE) (t : TA) : TE := fun σ H Q => ta σ H fun x H1 => ∃ a dx fs, x = .ref a ∧ H1 a = some (.ins C dx fs) ∧ fs.lookup m = none ∧ t σ H1 fun vs H2 => sp (x :: vs) H2 Q (E σ)
theorem pe_methS {pl : Sem Bool} (he : PE X o ta) (c : Cls X.K C) (hm : Meth X.K C m f) (F : FnOk X.prog X.w X.K X.mg X.base CX k f fd ps sp) (hr : Room k X.A) (hb : Binds X.K fd ps []) (hx : ∀ σ, PassesAt CX X σ (E σ)) (ha : PA X (e :: es) t)
    (hst : starEach (e :: es) X.env = (false, eval e X.env) :: starEach es X.env := by rfl) (hpl : (backTo pos (starEach es X.env)).any (·.1) = false := by rfl)
    (ht : eval (.Call (.Attribute o m apos) (e :: es) [] pos) X.env = (do
      let ov ← eval o X.env
      standAt apos.atName
      let (f, first) ← holding [ov] (getMethod ov m pl)
      callWith pos f first (backTo pos (starEach (e :: es) X.env)) (backToKw pos (keywordEach [] X.env))) := by rfl) :
    PE X (.Call (.Attribute o m apos) (e :: es) [] pos) (tMethS C m sp E ta t) := by
  refine ⟨fun pins s σ H Q I h => ?_⟩
  refine PySem.W.methodCall_KW (pl := pl) (thn (he.run pins s σ H _ I h) fun u s1 ⟨x, H1, I1, rx, a, dx, fs, ex, ea, l, q⟩ => ?_) ht
  subst ex
  obtain rfl : u = Value.ref a := rx
  refine getmeth_ok I1 ea c hm l ?_
  refine PySem.W.callWith_K (first := [.ref a]) (h₀ := X.base) I.ok.mod.kin hm.kp (thn (ha.run pos pins s1 σ H1 _ I1 q) fun us s2 ⟨vs, H2, I2, r, q2⟩ => ⟨I2.kIn, ?_⟩) hst hpl
  exact run_fnS (us := .ref a :: us) (vs := .ref a :: vs) F hr hb (hx σ) I2 (.cons rfl r) q2
def tMethNS (C : Addr) (m : Str) (n j : Nat) (sp : Sp) (gV : List V → List V → List V) (E : St → XK) (ta : TE) (t tk : TA) : TE := fun σ H Q => ta σ H fun x H1 => ∃ a dx fs, x = .ref a ∧ H1 a = some (.ins C dx fs) ∧ fs.lookup m = none ∧
  t σ H1 fun vs H2 => tk σ H2 fun zs H3 => vs.length = n ∧ zs.length = j ∧ sp (gV (x :: vs) zs) H3 Q (E σ)
theorem pe_methNS {pl : Sem Bool} (he : PE X o ta) (c : Cls X.K C) (hm : Meth X.K C m f) (F : FnOk X.prog X.w X.K X.mg X.base CX k f fd ps sp) (hr : Room k X.A) (hb : KBn X.K fd ps (n + 1) ks g gV) (hx : ∀ σ, PassesAt CX X σ (E σ)) (ha : PA X (e :: es) t) (hkw : PK X kws tk)
    (hall : (backToKw pos (keywordEach kws X.env)).all (·.1.isSome) = true := by rfl) (hks : (backToKw pos (keywordEach kws X.env)).filterMap (·.1) = ks := by rfl)
    (hst : starEach (e :: es) X.env = (false, eval e X.env) :: starEach es X.env := by rfl)
    (hpl : ((backTo pos (starEach (e :: es) X.env)).any (·.1) || (backToKw pos (keywordEach kws X.env)).any (·.1.isNone)) = false := by rfl)
    (ht : eval (.Call (.Attribute o m apos) (e :: es) kws pos) X.env = (do
      let ov ← eval o X.env
      standAt apos.atName
      let (f, first) ← holding [ov] (getMethod ov m pl)
      callWith pos f first (backTo pos (starEach (e :: es) X.env)) (backToKw pos (keywordEach kws X.env))) := by rfl) :
    PE X (.Call (.Attribute o m apos) (e :: es) kws pos) (tMethNS C m n ks.length sp gV E ta t tk) := by
  refine ⟨fun pins s σ H Q I h => ?_⟩
  refine PySem.W.methodCall_KW (pl := pl) (thn (he.run pins s σ H _ I h) fun u s1 ⟨x, H1, I1, rx, a, dx, fs, ex, ea, l, q⟩ => ?_) ht
  subst ex
  obtain rfl : u = Value.ref a := rx
  refine getmeth_ok I1 ea c hm l ?_
  refine PySem.W.callWith_KW (first := [.ref a]) (h₀ := X.base) I.ok.mod.kin hm.kp hall (thn (ha.run pos pins s1 σ H1 _ I1 q) fun us s2 ⟨vs, H2, I2, r, q2⟩ => ?_) hpl hst
  refine thn (hkw.run pos pins s2 σ H2 _ I2 q2) fun ws s3 ⟨zs, H3, I3, rz, l1, l2, q3⟩ => ⟨I3.kIn, ?_⟩
  rw [hks]
  exact run_fnNS (us := .ref a :: us) (vs := .ref a :: vs) F hr hb (hx σ) I3 (.cons rfl r) rz (by simp [l1]) l2 q3
/-- isinstance of a caught exception and a class of the text -/
def rIsY (K : PySem.W.Frag) (a : Addr) (cls : Value) (d : Option Addr) : List V → Hp → VK → Prop := fun xs H Q => ∃ (D C : Addr) (b : Bool), cls = .ref D ∧ d = none ∧ ExcC K D ∧ xs = [.ref a, .ref C] ∧ PySem.W.kitOne K (.ref D) (.ref C) = some b ∧ Q (.bl b) H
theorem call_isY {X : Cx} {a : Addr} {oe : Obj} {cls : Value} {d : Option Addr} {pn : List (Addr × Obj)} (hz : Zc cls d oe) (hf : ∃ vs, oe.data = .fields vs) : CallR (X.suite a ((a, oe) :: pn)) (.builtin "isinstance") (rIsY X.K a cls d) := by
  intro pins s σ H xs us Q I r h
  obtain ⟨D, C, b, rfl, rfl, ec, rfl, e, q⟩ := h
  exact call_isE ec hz hf pins s σ H _ us Q I r ⟨.ref C, .ref C, b, rfl, fun u ru => ru, e, q⟩
end
section
variable {K : PySem.W.Frag} {σ : St} {H : Hp} {Q : VK} {D : Ends} {ta : TE} {tr tk : TA} {E : St → XK}
theorem g_methS {C : Addr} {m : Str} {sp : Sp} (q : ta σ H fun x H1 => MW C m x H1 (tr σ H1 fun vs H2 => sp (x :: vs) H2 Q (E σ))) : tMethS C m sp E ta tr σ H Q := q
theorem g_methNS {C : Addr} {m : Str} {n j : Nat} {sp : Sp} {gV : List V → List V → List V} (q : ta σ H fun x H1 => MW C m x H1 (tr σ H1 fun vs H2 => tk σ H2 fun zs H3 => vs.length = n ∧ zs.length = j ∧ sp (gV (x :: vs) zs) H3 Q (E σ))) : tMethNS C m n j sp gV E ta tr tk σ H Q := q
end
/-! ### 's' * int(b) -/
def bitV (b : Bool) : Int := if b = true then 1 else 0
def rMulB : R2 := fun x y H Q => ∃ (s : Str) (b : Bool), x = .str s ∧ y = .int (bitV b) ∧ Q (.str (if b = true then s else Str.empty)) H
theorem opMulB {X : Cx} : OpR X (binaryOp .Mult) rMulB := by
  intro pins s σ H x y v u Q I rx ry h
  obtain ⟨z, b, rfl, rfl, q⟩ := h
  obtain ⟨t, rfl⟩ := (show ∃ t, v = Value.str z t from rx)
  obtain ⟨k, rfl⟩ := (show ∃ t, u = Value.int (bitV b) t from ry)
  cases b with
  | true => exact SB.mul ⟨by decide, fun _ h => by simp [bitV] at h, fun _ h => by simp [bitV] at h⟩ fun t' k => ⟨.str _, H, I.kept (t' := k) fun _ _ z => z, ⟨t', rfl⟩, q⟩
  | false => exact SB.mul ⟨by decide, fun h => absurd (by decide) h, fun h => absurd (by decide) h⟩ fun t' k => ⟨.str _, H, I.kept (t' := k) fun _ _ z => z, ⟨t', rfl⟩, q⟩
/-! ### sides that are only read from now on -/
def SideFz (K : PySem.W.Frag) (CL CS CD : Addr) (R : Hp) (s a : Addr) (L : Lay) (z : Int) (m : Rows) : Prop := ∃ R0 ms, Same R0 R ∧ LayAt CL R0 a L ∧ SideOk K CS CD R0 R s a z m ms
section
variable {K : PySem.W.Frag} {CL CS CD : Addr} {R H R' H' : Hp} {s a x : Addr} {L : Lay} {z n : Int} {m : Rows} {ms xs : List Addr}
theorem SideOk.heap (h : SideOk K CS CD R H s a n m ms) (e : ∀ y ∈ ms, H' y = H y) : SideOk K CS CD R H' s a n m ms := by
  obtain ⟨d, ds, rfl, ⟨⟨sx, hs⟩, nin, non, dev⟩⟩ := h
  obtain ⟨l1, l2, l3, rfl, ⟨⟨dx, hd⟩, nd, non', u1, u2, u3, h1, h2, h3, d1, d2, d3⟩⟩ := dev
  exact ⟨d, _, rfl, ⟨⟨sx, by rw [e s (by simp)]; exact hs⟩, nin, non, ⟨l1, l2, l3, rfl, ⟨⟨dx, by rw [e d (by simp)]; exact hd⟩, nd, non', u1, u2, u3, by rw [e l1 (by simp)]; exact h1, by rw [e l2 (by simp)]; exact h2, by rw [e l3 (by simp)]; exact h3, d1, d2, d3⟩⟩⟩⟩
theorem SideOk.re {R0 : Hp} (h : SideOk K CS CD R0 H s a n m ms) (r : Same R0 R) (e : ∀ y ∈ ms, R y = none) : SideOk K CS CD R H s a n m ms := by
  obtain ⟨d, ds, rfl, ⟨⟨sx, hs⟩, nin, non, dev⟩⟩ := h
  obtain ⟨l1, l2, l3, rfl, ⟨⟨dx, hd⟩, nd, non', u1, u2, u3, h1, h2, h3, d1, d2, d3⟩⟩ := dev
  exact ⟨d, _, rfl, ⟨⟨sx, hs⟩, nin, e s (by simp), ⟨l1, l2, l3, rfl, ⟨⟨dx, hd⟩, nd, fun y hy => e y (List.mem_cons_of_mem _ hy), u1, u2, u3, h1, h2, h3, dpAll_mono r d1, dpAll_mono r d2, dpAll_mono r d3⟩⟩⟩⟩
theorem SideFz.mono (h : SideFz K CL CS CD R s a L z m) (r : Same R R') : SideFz K CL CS CD R' s a L z m := by
  obtain ⟨R0, ms, s0, ha, so⟩ := h
  refine ⟨R0, ms, s0.trans r, ha, so.heap fun y hy => ?_⟩
  obtain ⟨o, ho⟩ := so.toD.has y hy
  rw [r _ _ ho, ho]
theorem SideFz.of (sR : Same R H) (ha : LayAt CL R a L) (g : Same H H') (fr : ∀ y ∈ xs, H y = none) (so : SideOk K CS CD R H' x a z m xs) : SideFz K CL CS CD (adopt R H H') x a L z m := by
  refine ⟨R, xs, (adopt_gr sR g).rr, ha, so.heap fun y hy => ?_⟩
  obtain ⟨o, ho⟩ := so.toD.has y hy
  rw [adopt_at (fr y hy) ho, ho]
/-- as it stands in the heap -/
theorem SideFz.at (h : SideFz K CL CS CD R s a L z m) (sR : Same R H) : ∃ R0 ms, Same R0 R ∧ Same R0 H ∧ LayAt CL R0 a L ∧ SideOk K CS CD R0 H s a z m ms := by
  obtain ⟨R0, ms, s0, ha, so⟩ := h
  refine ⟨R0, ms, s0, s0.trans sR, ha, so.heap fun y hy => ?_⟩
  obtain ⟨o, ho⟩ := so.toD.has y hy
  rw [sR _ _ ho, ho]
end
/-! ### k in d -/
def DiW (y x : V) (f : Bool → Bool) (H : Hp) (Q : VK) : Prop := ∃ a o, x = .ref a ∧ DGet H a y o ∧ Q (.bl (f o.isSome)) H
section
variable {σ : St} {H : Hp} {Q : VK} {ty td : TE} {f : Bool → Bool}
theorem g_dnin (q : ty σ H fun y H1 => td σ H1 fun x H2 => DiW y x not H2 Q) : tDNotIn ty td σ H Q := q
theorem g_din (q : ty σ H fun y H1 => td σ H1 fun x H2 => DiW y x id H2 Q) : tDIn ty td σ H Q := q
theorem g_DiI {a : Addr} {kvs : List (Key × V)} {k : Int} {b : Bool} (h : H a = some (.dK kvs)) (e : (valV kvs (.inl k)).isSome = b) (q : Q (.bl (f b)) H) : DiW (.int k) (.ref a) f H Q := by
  subst e
  exact ⟨a, _, rfl, DGet.k (k := .inl k) h, q⟩
end
/-! ### all that is new is only read from now on -/
theorem adopt_grM {M : List Addr} {R H R1 H1 : Hp} (sR : Same R H) (g : Gr M R H R1 H1) : Gr M R H (adopt R H H1) H1 ∧ Same R1 (adopt R H H1) := by
  refine ⟨⟨fun b o e => ?_, fun b o e => ?_, g.hh, fun b o e n => ?_, g.th⟩, fun b o e => ?_⟩
  · unfold adopt; rw [sR b o e]; exact e
  · unfold adopt at e
    split at e
    · exact e
    · exact g.rh b o (g.rr b o e)
  · unfold adopt; rw [e]; exact n
  · unfold adopt
    split
    · exact g.rh b o e
    · rename_i o' eo
      cases hr : R b with
      | none => have := g.fr b o' eo hr; rw [e] at this; cases this
      | some o2 => rw [← e, g.rr b o2 hr]
theorem SideFz.ofM {K : PySem.W.Frag} {CL CS CD : Addr} {R H R1 H1 : Hp} {x a : Addr} {L : Lay} {z : Int} {m : Rows} {xs M : List Addr} (sR : Same R H) (g : Gr M R H R1 H1) (ha : LayAt CL R1 a L) (fr : ∀ y ∈ xs, H y = none) (so : SideOk K CS CD R1 H1 x a z m xs) : SideFz K CL CS CD (adopt R H H1) x a L z m := by
  refine ⟨R1, xs, (adopt_grM sR g).2, ha, so.heap fun y hy => ?_⟩
  obtain ⟨o, ho⟩ := so.toD.has y hy
  rw [adopt_at (fr y hy) ho, ho]
theorem SideOkD.toS {K : PySem.W.Frag} {CS CD : Addr} {R H : Hp} {s a : Addr} {n : Int} {m : Rows} {ms : List Addr} (h : SideOkD false K CS CD R H s a n m ms) : SideOk K CS CD R H s a n m ms := by
  obtain ⟨d, ds, rfl, ⟨side, nin, non, l1, l2, l3, rfl, ⟨⟨dx, f, b, e, ⟨rfl, rfl⟩⟩, nd, non', ls⟩⟩⟩ := h
  exact ⟨d, _, rfl, ⟨side, nin, non, ⟨l1, l2, l3, rfl, ⟨⟨dx, e⟩, nd, non', ls⟩⟩⟩⟩
/-! ### a mirror and the law's model of it, as they are built -/
theorem Apart.snoc {H : Hp} {own : List Addr} {es : List Ent} (h : Apart own es) (ho : ∀ x ∈ own, ∃ o, H x = some o) (hs : ∀ f ∈ es, ∀ x ∈ f.ms, ∃ o, H x = some o) {e : Ent} (fr : ∀ x ∈ e.ms, H x = none) : Apart own (es ++ [e]) := by
  have ne : ∀ l : List Addr, (∀ x ∈ l, ∃ o, H x = some o) → Dj l e.ms := fun l hl x hx hn => by
    obtain ⟨o, ho⟩ := hl x hx
    rw [fr x hn] at ho; cases ho
  refine ⟨fun f hf => ?_, ?_⟩
  · rcases List.mem_append.mp hf with hf | hf
    · exact h.1 f hf
    · rw [List.mem_singleton.mp hf]; exact ne own ho
  · rw [List.pairwise_append]
    refine ⟨h.2, List.pairwise_singleton _ _, fun f hf g hg => ?_⟩
    rw [List.mem_singleton.mp hg]
    exact ne f.ms (hs f hf)
structure LmSt (K : PySem.W.Frag) (CS CD : Addr) (L : Lay) (H0 R H : Hp) (a S sd : Addr) (own : List Addr) (es ls : List Ent) (zs : List Int) : Prop where
  hS : H S = some (.dK (es.map Ent.kv))
  hsd : H sd = some (.dK (ls.map Ent.kv))
  so : ∀ e ∈ es, SideOk K CS CD R H e.s a e.z e.m e.ms
  ro : ∀ e ∈ ls, RowOk K R H e.s e.m e.ms
  ae : Apart own es
  al : Apart own ls
  ax : ∀ e ∈ es, ∀ f ∈ ls, Dj e.ms f.ms
  ez : es.map (·.z) = zs
  eq : es.map Ent.zm = ls.map Ent.zm
  fr : ∀ e ∈ es ++ ls, ∀ x ∈ e.ms, H0 x = none
  mw : ∀ e ∈ es, RsW L 0 e.m
section
variable {K : PySem.W.Frag} {CS CD : Addr} {L : Lay} {H0 R H R' H' : Hp} {a S sd : Addr} {own N : List Addr} {es ls : List Ent} {zs : List Int}
/-- only other things have changed -/
theorem LmSt.frame (h : LmSt K CS CD L H0 R H a S sd own es ls zs) (g : Gr N R H R' H') (n : ∀ x ∈ N, x ∈ own) (hS : S ∉ N) (hsd : sd ∉ N) : LmSt K CS CD L H0 R' H' a S sd own es ls zs :=
  ⟨g.hh _ _ hS h.hS, g.hh _ _ hsd h.hsd, fun e he => (h.so e he).frame g fun x hx hn => h.ae.1 e he x (n x hn) hx, fun e he => (h.ro e he).frame g fun x hx hn => h.al.1 e he x (n x hn) hx, h.ae, h.al, h.ax, h.ez, h.eq, h.fr, h.mw⟩
/-- one more side -/
theorem LmSt.add {H1 H2 R1 R2 : Hp} (h : LmSt K CS CD L H0 R H a S sd own es ls zs) {z : Int} {x y : Addr} {m : Rows} {xs ys : List Addr} (ho : ∀ x ∈ own, ∃ o, H x = some o) (So : S ∈ own) (so' : sd ∈ own) (Ssd : S ≠ sd)
    (g1 : Gr [S] R H R1 H1) (f1 : ∀ x ∈ xs, H x = none) (s1 : SideOk K CS CD R1 H1 x a z m xs) (hS1 : H1 S = some (.dK (putK (es.map Ent.kv) (.inl z) (.ref x))))
    (g2 : Gr [sd] R1 H1 R2 H2) (f2 : ∀ x ∈ ys, H1 x = none) (r2 : RowOk K R2 H2 y m ys) (hsd2 : H2 sd = some (.dK (putK (ls.map Ent.kv) (.inl z) (.ref y)))) (zz : z ∉ zs) (mw : RsW L 0 m) (g0 : ∀ x, H x = none → H0 x = none) :
    LmSt K CS CD L H0 R2 H2 a S sd own (es ++ [⟨z, x, m, xs⟩]) (ls ++ [⟨z, y, m, ys⟩]) (zs ++ [z]) := by
  have ze : z ∉ es.map (·.z) := by rw [h.ez]; exact zz
  have el : es.map (·.z) = ls.map (·.z) := by
    have := congrArg (List.map (·.1)) h.eq
    rw [List.map_map, List.map_map] at this
    exact this
  have zl : z ∉ ls.map (·.z) := by rw [← el]; exact ze
  have hE : ∀ e ∈ es, ∀ x ∈ e.ms, ∃ o, H x = some o := fun e he => (h.so e he).has
  have hL : ∀ e ∈ ls, ∀ x ∈ e.ms, ∃ o, H x = some o := fun e he => (h.ro e he).has
  have up : ∀ {x : Addr}, (∃ o, H x = some o) → ∃ o, H1 x = some o := fun ⟨o, e⟩ => g1.th _ _ e
  have nx : ∀ {l : List Addr} {w : List Addr} {HH : Hp}, (∀ x ∈ l, ∃ o, HH x = some o) → (∀ x ∈ w, HH x = none) → Dj l w := fun hl hw x hx hn => by
    obtain ⟨o, ho⟩ := hl x hx
    rw [hw x hn] at ho; cases ho
  refine ⟨?_, ?_, fun e he => ?_, fun e he => ?_, h.ae.snoc ho hE f1, h.al.snoc (fun x hx => up (ho x hx)) (fun f hf x hx => up (hL f hf x hx)) f2, fun e he f hf => ?_, by rw [List.map_append, h.ez]; rfl, by rw [List.map_append, List.map_append, h.eq]; rfl, fun e he x hx => ?_, fun e he => ?_⟩
  · rw [putK_new _ (ent_none ze)] at hS1
    rw [List.map_append]
    exact g2.hh _ _ (nin1 Ssd) hS1
  · rw [putK_new _ (ent_none zl)] at hsd2
    rw [List.map_append]
    exact hsd2
  · rcases List.mem_append.mp he with he | he
    · exact ((h.so e he).frame g1 fun x hx hn => h.ae.1 e he S So (by rw [← List.mem_singleton.mp hn]; exact hx)).frame g2 fun x hx hn => h.ae.1 e he sd so' (by rw [← List.mem_singleton.mp hn]; exact hx)
    · rw [List.mem_singleton.mp he]
      exact s1.frame g2 fun x' hx hn => by
        rw [List.mem_singleton.mp hn] at hx
        obtain ⟨o, q⟩ := ho sd so'
        rw [f1 _ hx] at q; cases q
  · rcases List.mem_append.mp he with he | he
    · exact ((h.ro e he).frame g1 fun x hx hn => h.al.1 e he S So (by rw [← List.mem_singleton.mp hn]; exact hx)).frame g2 fun x hx hn => h.al.1 e he sd so' (by rw [← List.mem_singleton.mp hn]; exact hx)
    · rw [List.mem_singleton.mp he]; exact r2
  · rcases List.mem_append.mp he with he | he
    · rcases List.mem_append.mp hf with hf | hf
      · exact h.ax e he f hf
      · rw [List.mem_singleton.mp hf]; exact nx (fun x hx => up (hE e he x hx)) f2
    · rw [List.mem_singleton.mp he]
      rcases List.mem_append.mp hf with hf | hf
      · exact (nx (hL f hf) f1).symm
      · rw [List.mem_singleton.mp hf]
        exact nx (fun x hx => s1.has x hx) f2
  · have q : ∀ f : Ent, f ∈ es ++ ls → ∀ x ∈ f.ms, H0 x = none := h.fr
    rcases List.mem_append.mp he with he | he
    · rcases List.mem_append.mp he with he | he
      · exact q e (List.mem_append_left _ he) x hx
      · rw [List.mem_singleton.mp he] at hx; exact g0 _ (f1 x hx)
    · rcases List.mem_append.mp he with he | he
      · exact q e (List.mem_append_right _ he) x hx
      · rw [List.mem_singleton.mp he] at hx; exact g0 _ (g1.free (f2 x hx))
  · rcases List.mem_append.mp he with he | he
    · exact h.mw e he
    · rw [List.mem_singleton.mp he]; exact mw
end
/-! ### rows of a mirror that a guest has joined -/
def Mst.gk (M : Mst) : List Int := M.gs.map (·.1)
theorem cmd_gk (z : Int) (f : Bool → Rows → Rows) (M : Mst) : (M.cmd z f).gk = M.gk := updR_keys z _ M.gs
theorem cmds_gk (f : Int → Bool → Rows → Rows) : ∀ (zs : List Int) (M : Mst), (M.cmds zs f).gk = M.gk
  | [], _ => rfl
  | z :: r, M => (cmds_gk f r (M.cmd z (f z))).trans (cmd_gk z (f z) M)
theorem copies_gk (L : Lay) (z : Int) (bs : List (Option Blk)) (M : Mst) : ∀ k, (M.copies L z bs k).gk = M.gk
  | 0 => rfl
  | k + 1 => by
    have e : M.copies L z bs (k + 1) = Mst.copy1 L z bs (M.copies L z bs k) k := by unfold Mst.copies; rw [List.range_succ, List.foldl_append]; rfl
    rw [e]
    unfold Mst.copy1
    split
    · exact copies_gk L z bs M k
    · rw [cmd_gk]; exact copies_gk L z bs M k
theorem row_in {M : Mst} {z : Int} (h : z ∈ M.gk) : ∃ m, (z, m) ∈ M.es ++ M.gs ∧ M.row z = m := by
  obtain ⟨q, hq, e⟩ := List.mem_map.mp h
  have : ((M.es ++ M.gs).find? fun q => decide (q.1 = z)).isSome = true := List.find?_isSome.mpr ⟨q, List.mem_append_right _ hq, by simpa using e⟩
  obtain ⟨w, hw⟩ := Option.isSome_iff_exists.mp this
  have hz : w.1 = z := by simpa using List.find?_some hw
  refine ⟨w.2, ?_, by unfold Mst.row; rw [hw]; rfl⟩
  rw [← hz]
  exact List.mem_of_find?_eq_some hw
theorem MsW.join {L : Lay} (hL : L.Ok) (d0 : 0 ≤ L.device) (d9 : L.device < 900) {k : Nat} {M : Mst} (h : MsW L k M) (k9 : k ≤ 60000) {z : Int} (z0 : 0 ≤ z) (z3 : z < 3) {m : Rows} (hm : RsW L k m) (kl : M.keys.length ≤ 3) {b : Bool} : MsW L (k + 2000) ((M.guest z m).join L z b) := by
  have h1 := (h.guest z0 z3 hm).join1 d0 (z := z) (b := b)
  have g1 : z ∈ ((M.guest z m).join1 L z b).gk := by
    unfold Mst.join1
    split
    · unfold Mst.clear
      rw [cmd_gk, cmd_gk, cmd_gk]; exact List.mem_singleton_self _
    · exact List.mem_singleton_self _
  have k1 : ((M.guest z m).join1 L z b).keys.length ≤ 3 := by rw [join1_keys]; exact kl
  unfold Mst.join Mst.join2
  generalize (M.guest z m).join1 L z b = M1 at h1 g1 k1
  have h2 := (h1.copyTo (z := z) (bs := M1.content L) (by rw [content_len]; omega) h1.content_W).up1
  have g2 : z ∈ ((M1.copyTo L z (M1.content L)).up1).gk := by
    show z ∈ (M1.copyTo L z (M1.content L)).gk
    unfold Mst.copyTo
    rw [cmd_gk, copies_gk]; exact g1
  have k2 : ((M1.copyTo L z (M1.content L)).up1).keys.length ≤ 3 := by rw [up1_keys, copyTo_keys]; exact k1
  rw [content_len] at h2
  generalize (M1.copyTo L z (M1.content L)).up1 = M2 at h2 g2 k2
  have gg : 0 ≤ (M2.joinLb z).gen ∧ (M2.joinLb z).gen < 281474976710656 := by
    have := h2.gen
    show 0 ≤ M2.gen ∧ M2.gen < _
    omega
  unfold Mst.join3
  have h3 := h2.labs hL d0 gg.1 gg.2 h2.few (zs := [z]) (lb := M2.joinLb z)
  have h4 := h3.labs hL d0 gg.1 gg.2 h2.few (zs := M2.seats) (lb := M2.joinLb z)
  have g4 : z ∈ ((M2.labs L [z] (M2.joinLb z)).labs L M2.seats (M2.joinLb z)).gk := by
    unfold Mst.labs
    rw [cmds_gk, cmds_gk, cmds_gk, cmds_gk]; exact g2
  have sl : M2.seats.length ≤ 3 := by show (sortI _).length ≤ 3; rw [sortI_len]; exact k2
  refine (h4.admit (row_in g4)).up ?_
  simp only [List.length_cons, List.length_nil]
  omega
/-- the shelf's pairs -/
def ShOk (K : PySem.W.Frag) (CL CS CD : Addr) (L : Lay) (R : Hp) (a p : Addr) : Prop := ∃ s c us z m, R p = some (.lst [.ref s, .ref c]) ∧ R c = some (.lst us) ∧ DpAll K R us (m.seen.map cellD) ∧ SideFz K CL CS CD R s a L z m ∧ RsW L 100 m ∧ 0 ≤ z ∧ z < 3
theorem ShOk.mono {K : PySem.W.Frag} {CL CS CD : Addr} {L : Lay} {R R' : Hp} {a p : Addr} (h : ShOk K CL CS CD L R a p) (r : Same R R') : ShOk K CL CS CD L R' a p := by
  obtain ⟨s, c, us, z, m, h1, h2, h3, h4, h5⟩ := h
  exact ⟨s, c, us, z, m, r _ _ h1, r _ _ h2, dpAll_mono r h3, h4.mono r, h5⟩
/-- all that the law holds between two deeds -/
structure WSt (K : PySem.W.Frag) (CL CM CS CD : Addr) (L : Lay) (R H : Hp) (a mo mg sd sh : Addr) (M : Mst) (F FL : List Addr) (A AL : List (Int × Addr)) (ps : List Addr) (k : Nat) : Prop where
  m : MirOk K CM CS CD R H mo a M F A
  l : LawOk K R H mg sd M FL AL
  dj : Dj F FL
  mw : MsW L k M
  g0 : M.gs = []
  hs : H sh = some (.lst (ps.map V.ref))
  Rs : R sh = none
  sF : sh ∉ F
  sL : sh ∉ FL
  ok : ∀ p ∈ ps, ShOk K CL CS CD L R a p
  pl : ps.length ≤ k
def WAt (K : PySem.W.Frag) (CL CM CS CD : Addr) (L : Lay) (R H : Hp) (a mo mg sd sh : Addr) (k : Nat) : Prop := ∃ M F FL A AL ps, WSt K CL CM CS CD L R H a mo mg sd sh M F FL A AL ps k
def WBox (K : PySem.W.Frag) (CL CM CS CD : Addr) (L : Lay) (R H : Hp) (a mo mg sd sh b : Addr) (k : Nat) : Prop := ∃ M F FL A AL ps, WSt K CL CM CS CD L R H a mo mg sd sh M F FL A AL ps k ∧ b ∉ F ∧ b ∉ FL
theorem WSt.frame {K : PySem.W.Frag} {CL CM CS CD : Addr} {L : Lay} {R H R' H' : Hp} {a mo mg sd sh : Addr} {M : Mst} {F FL : List Addr} {A AL : List (Int × Addr)} {ps : List Addr} {k : Nat} {N : List Addr} (h : WSt K CL CM CS CD L R H a mo mg sd sh M F FL A AL ps k) (g : Gr N R H R' H') (nF : ∀ x ∈ F, x ∉ N) (nL : ∀ x ∈ FL, x ∉ N) (nS : sh ∉ N) : WSt K CL CM CS CD L R' H' a mo mg sd sh M F FL A AL ps k :=
  ⟨h.m.frame g nF, h.l.frame g nL, h.dj, h.mw, h.g0, g.hh _ _ nS h.hs, g.fr _ _ h.hs h.Rs, h.sF, h.sL, fun p hp => (h.ok p hp).mono g.rr, h.pl⟩
theorem WSt.up {K : PySem.W.Frag} {CL CM CS CD : Addr} {L : Lay} {R H : Hp} {a mo mg sd sh : Addr} {M : Mst} {F FL : List Addr} {A AL : List (Int × Addr)} {ps : List Addr} {k j : Nat} (h : WSt K CL CM CS CD L R H a mo mg sd sh M F FL A AL ps k) (z : k ≤ j) : WSt K CL CM CS CD L R H a mo mg sd sh M F FL A AL ps j := ⟨h.m, h.l, h.dj, h.mw.up z, h.g0, h.hs, h.Rs, h.sF, h.sL, h.ok, Nat.le_trans h.pl z⟩
/-! ### a deed of the mirror and of the law's model -/
section
variable {K : PySem.W.Frag} {CL CM CS CD : Addr} {L : Lay} {R H R1 H1 R2 H2 : Hp} {a mo mg sd sh : Addr} {M M' : Mst} {F F' FL FL' : List Addr} {A A' AL AL' : List (Int × Addr)} {ps : List Addr} {k k' : Nat}
/-- first the law, then the mirror -/
theorem WSt.lm (w : WSt K CL CM CS CD L R H a mo mg sd sh M F FL A AL ps k) (st1 : Step FL FL' R H R1 H1) (hl : LawOk K R1 H1 mg sd M' FL' AL') (st2 : Step F F' R1 H1 R2 H2) (hm : MirOk K CM CS CD R2 H2 mo a M' F' A') (mw : MsW L k' M') (g0 : M'.gs = []) (kk : k ≤ k') : WSt K CL CM CS CD L R2 H2 a mo mg sd sh M' F' FL' A' AL' ps k' := by
  have d1 : Dj FL' F := w.dj.symm.nw st1.nw w.m.has
  have hasF : ∀ x ∈ F, ∃ o, H1 x = some o := fun x hx => by obtain ⟨o, ho⟩ := w.m.has x hx; exact st1.g.th _ _ ho
  have d2 : Dj F' FL' := d1.symm.nw st2.nw hl.has
  have sh1 := st1.g.hh _ _ w.sL w.hs
  have sL' : sh ∉ FL' := fun h => by
    rcases st1.nw sh h with q | q
    · exact w.sL q
    · rw [w.hs] at q; cases q
  have sF' : sh ∉ F' := fun h => by
    rcases st2.nw sh h with q | q
    · exact w.sF q
    · rw [sh1] at q; cases q
  exact ⟨hm, hl.frame st2.g fun x hx hn => d1 x hx hn, d2, mw, g0, st2.g.hh _ _ w.sF sh1, st2.g.fr _ _ sh1 (st1.g.fr _ _ w.hs w.Rs), sF', sL', fun p hp => (w.ok p hp).mono (st1.g.rr.trans st2.g.rr), Nat.le_trans w.pl kk⟩
/-- first the mirror, then the law -/
theorem WSt.ml (w : WSt K CL CM CS CD L R H a mo mg sd sh M F FL A AL ps k) (st1 : Step F F' R H R1 H1) (hm : MirOk K CM CS CD R1 H1 mo a M' F' A') (st2 : Step FL FL' R1 H1 R2 H2) (hl : LawOk K R2 H2 mg sd M' FL' AL') (mw : MsW L k' M') (g0 : M'.gs = []) (kk : k ≤ k') : WSt K CL CM CS CD L R2 H2 a mo mg sd sh M' F' FL' A' AL' ps k' := by
  have d1 : Dj F' FL := w.dj.nw st1.nw w.l.has
  have d2 : Dj FL' F' := d1.symm.nw st2.nw hm.has
  have sh1 := st1.g.hh _ _ w.sF w.hs
  have sF' : sh ∉ F' := fun h => by
    rcases st1.nw sh h with q | q
    · exact w.sF q
    · rw [w.hs] at q; cases q
  have sL' : sh ∉ FL' := fun h => by
    rcases st2.nw sh h with q | q
    · exact w.sL q
    · rw [sh1] at q; cases q
  exact ⟨hm.frame st2.g fun x hx hn => d1 x hx hn, hl, d2.symm, mw, g0, st2.g.hh _ _ w.sL sh1, st2.g.fr _ _ sh1 (st1.g.fr _ _ w.hs w.Rs), sF', sL', fun p hp => (w.ok p hp).mono (st1.g.rr.trans st2.g.rr), Nat.le_trans w.pl kk⟩
theorem LawOk.fuse (h : LawOk K R H mg sd M F A) {c : Int} (hd : M.pw.dark = false) (gr : Gr [mg] R H R H1) (ob : ∀ kvs, H mg = some (.dK kvs) → H1 mg = some (.dK (putK kvs (.inr "fuse") (.int c)))) : LawOk K R H1 mg sd { M with pw := ⟨some c, false⟩ } F A ∧ Step F F R H R H1 := by
  obtain ⟨fa, es, ls, rfl, h, e1, e2, eA⟩ := h
  obtain ⟨kvs, o, mf⟩ := h.obj
  have own := h.own
  simp at own
  have mf' := mf.setFuse (some c)
  rw [hd] at mf'
  refine ⟨⟨fa, es, ls, rfl, ⟨⟨_, ob _ o, mf'⟩, gr.hh _ _ (nin1 (Ne.symm own)) h.hsd, h.own, h.non, h.fks, fun e he => (h.rows e he).frame gr fun x hx hx' => h.apart.1 e he mg (by simp) (by rw [← List.mem_singleton.mp hx']; exact hx), h.apart, h.keys, h.few⟩, e1, e2, eA⟩,
    Step.of (gr.mono fun x hx => by rw [List.mem_singleton.mp hx]; exact mem_foot.mpr (.inl (by simp)))⟩
end
theorem LawOk.nd {K : PySem.W.Frag} {R H : Hp} {mg sd : Addr} {M : Mst} {F : List Addr} {A : List (Int × Addr)} (h : LawOk K R H mg sd M F A) : M.keys.Nodup := by
  obtain ⟨fa, es, ls, rfl, h, e1, e2, eA⟩ := h
  have ek : M.keys = es.map (·.z) := by unfold Mst.keys; rw [← e1, List.map_map]; rfl
  have := h.keys
  rw [List.map_append] at this
  rw [ek]
  exact (List.nodup_append.mp this).1
theorem pair_uniq : ∀ {l : List (Int × Rows)} {z : Int} {m m' : Rows}, (l.map (·.1)).Nodup → (z, m) ∈ l → (z, m') ∈ l → m = m'
  | [], _, _, _, _, h, _ => nomatch h
  | q :: r, z, m, m', nd, h, h' => by
    rw [List.map_cons] at nd
    obtain ⟨n1, n2⟩ := List.nodup_cons.mp nd
    rcases List.mem_cons.mp h with e | h
    · rcases List.mem_cons.mp h' with e' | h'
      · rw [← e] at e'
        exact (Prod.mk.inj e').2.symm
      · exact absurd (List.mem_map.mpr ⟨_, h', by rw [← e]⟩) n1
    · rcases List.mem_cons.mp h' with e' | h'
      · exact absurd (List.mem_map.mpr ⟨_, h, by rw [← e']⟩) n1
      · exact pair_uniq n2 h h'
theorem MsW.relabel {L : Lay} (hL : L.Ok) (d0 : 0 ≤ L.device) {k : Nat} {M : Mst} (h : MsW L k M) (k9 : k ≤ 90000) (kl : M.keys.length ≤ 3) (bef : List Int) : MsW L (k + 7) (M.relabel L bef) := by
  have h1 := h.up1
  have sl : M.seats.length ≤ 3 := by show (sortI _).length ≤ 3; rw [sortI_len]; exact kl
  have g := h1.gen
  have g0 : 0 ≤ M.gen + 1 := g.1
  have gk : M.gen + 1 ≤ ((k + 1 : Nat) : Int) + 100 := g.2
  have := MsW.labs hL d0 (lb := ⟨M.gen + 1, M.seats, bef, M.fk⟩) g0 (by show M.gen + 1 < _; omega) h.few (zs := M.seats) h1
  exact this.up (by omega)
theorem relabel_gs {L : Lay} {M : Mst} {bef : List Int} (g0 : M.gs = []) : (M.relabel L bef).gs = [] := by
  have key : ∀ (zs : List Int) (f : Int → Bool → Rows → Rows) (N : Mst), N.gs = [] → (N.cmds zs f).gs = [] := by
    intro zs
    induction zs with
    | nil => intro f N h; exact h
    | cons z r ih =>
      intro f N h
      refine ih f _ ?_
      show updR z _ N.gs = []
      rw [h]; rfl
  exact key _ _ _ (key _ _ _ g0)
/-! ### cells as data -/
theorem clean_optD (b : Option Blk) : clean (optD b) = true := by cases b with | none => rfl | some b => exact clean_blk b
theorem optD_inj : ∀ {x y : Option Blk}, optD x = optD y → x = y
  | none, none, _ => rfl
  | none, some l, h => by simp [optD, Blk.d] at h
  | some l, none, h => by simp [optD, Blk.d] at h
  | some l, some e, h => by rw [blk_inj h]
theorem cellD_inj : ∀ {x y : Cell}, cellD x = cellD y → x = y
  | none, none, _ => rfl
  | none, some (b, k), h => by simp [cellD] at h
  | some (b, k), none, h => by simp [cellD] at h
  | some (b, k), some (c, j), h => by
    simp only [cellD, PyData.tuple.injEq, List.cons.injEq, PyData.int.injEq, and_true] at h
    rw [optD_inj h.1, h.2]
theorem la_cell (c : Cell) : LaD (cellD c) 3 := by
  rcases c with _ | ⟨_ | b, k⟩
  · exact la_non
  · exact la_tup (la_cons la_non (la_cons la_int la_non'))
  · exact la_tup (la_cons (la_blk b) (la_cons la_int la_non'))
theorem clean_cell (c : Cell) : clean (cellD c) = true := by
  rcases c with _ | ⟨_ | b, k⟩
  · rfl
  · rfl
  · show clean (.tuple [b.d, .int k]) = true
    rw [clean, cleanAll, clean_blk b]; rfl
theorem eqv_cell (x y : Cell) : PyData.eqv (cellD x) (cellD y) = decide (x = y) :=
  eqv_dec (clean_cell x) (clean_cell y) (by rw [decide_eq_true_iff]; exact ⟨fun h => by rw [h], cellD_inj⟩)
theorem g_neCell {K : PySem.W.Frag} {H : Hp} {Q : VK} {v w : V} {x y : Cell} (hv : Dp K H v (cellD x)) (hw : Dp K H w (cellD y)) (q : Q (.bl (!decide (x = y))) H) : rNeU K v w H Q := by
  refine g_neDa hv hw (la_shaped (la_cell x)) (la_shaped (la_cell y)) ?_ (by rw [eqv_cell]; exact q)
  rcases cellV hv with ⟨_, h⟩ | ⟨_, _, t, _, _, h, _⟩
  · exact .inr h
  · exact .inl ⟨t, h⟩
theorem clean_cells : ∀ cs : List Cell, cleanAll (cs.map cellD) = true
  | [] => rfl
  | c :: r => by rw [List.map_cons, cleanAll, clean_cell c, clean_cells r]; rfl
theorem la_cells {cs : List Cell} : LaD (.list (cs.map cellD)) 4 := la_lst fun d h => by obtain ⟨c, _, rfl⟩ := List.mem_map.mp h; exact la_cell c
theorem readC_no {L : Lay} {n : Int} {c : Cell} (h : whole L n c = false) : readC L n c = none := by
  rcases c with _ | ⟨_ | b, k⟩
  · rfl
  · rfl
  · have h : decide (k = chk L n (some b)) = false := h
    rw [decide_eq_false_iff_not] at h
    show (if k = chk L n (some b) then some b else none) = _
    rw [if_neg h]
theorem readC_yes {L : Lay} {n : Int} {c : Cell} (h : whole L n c = true) : ∃ b k, c = some (some b, k) ∧ readC L n c = some b := by
  rcases c with _ | ⟨_ | b, k⟩
  · cases h
  · cases h
  · have h : decide (k = chk L n (some b)) = true := h
    rw [decide_eq_true_iff] at h
    refine ⟨b, k, rfl, ?_⟩
    show (if k = chk L n (some b) then some b else none) = _
    rw [if_pos h]
theorem la_optD (b : Option Blk) : LaD (optD b) 3 := by cases b with | none => exact la_non | some b => exact la_up (la_blk b) (by decide)
theorem optRef {K : PySem.W.Frag} {H : Hp} {v : V} {b : Option Blk} (h : Dp K H v (optD b)) : (∃ a, v = .ref a) ∨ v = .non := by
  rcases optV h with ⟨_, e⟩ | ⟨c, t, _, e⟩
  · exact .inr e
  · exact .inl ⟨_, e⟩
theorem fs_some {α : Type} {l : List Int} {f : Int → Option α} {i : Nat} {z : Int} {b : α} (h : ∀ y ∈ l.take i, f y = none) (hz : l[i]? = some z) (hb : f z = some b) : l.findSome? f = some b := by
  have hi := (List.getElem?_eq_some_iff.mp hz).1
  have e : l = l.take i ++ z :: l.drop (i + 1) := by
    have := (List.take_append_drop i l).symm
    rw [List.drop_eq_getElem_cons hi] at this
    have hz' : l[i] = z := (List.getElem?_eq_some_iff.mp hz).2
    rw [hz'] at this
    exact this
  rw [e, List.findSome?_append, List.findSome?_eq_none_iff.mpr h]
  simp [hb]
end Sk

namespace Sk
open PySem L2
/-! ### assembly: the plain side -/
def isNextL (l own : Lb) : Bool := decide (own.gen = l.gen - 1 ∧ own.mem = l.bef) && decide (own.forks = l.forks)
def curL (L : Lay) (l : Lb) (q : Int × Rows) : Bool := match labOf L q.1 q.2 with
  | none => false
  | some own => decide (q.1 ∈ l.mem) && (decide (own = l) || isNextL l own)
def folLb (L : Lay) (zs : List (Int × Rows)) : Option Lb := newestOf (zs.map fun q => labOf L q.1 q.2)
def curOf (L : Lay) (l : Lb) (zs : List (Int × Rows)) : List (Int × Rows) := zs.filter (curL L l)
def wholeAt (L : Lay) (cur : List (Int × Rows)) (n : Nat) : Option Blk := cur.findSome? fun q => readC L n (q.2.seen.getD n none)
def missOf (l : Lb) (cur : List (Int × Rows)) : List Int := l.mem.filter fun z => decide (z ∉ cur.map (·.1))
def asmFk (l : Lb) (cur : List (Int × Rows)) (z : Int) : List Int := if missOf l cur = [] then l.forks else l.forks ++ [4 * l.gen + z]
def asmC (L : Lay) (cur : List (Int × Rows)) : List (Option Blk) := (List.range L.device.toNat).map (wholeAt L cur)
/-- the mirror of the leader alone, with its new label -/
def asm1 (L : Lay) (l : Lb) (cur : List (Int × Rows)) (z : Int) (m : Rows) (c : Option Int) : Mst := ((⟨[(z, m)], [], l.gen, asmFk l cur z, ⟨c, false⟩⟩ : Mst).copyTo L z (asmC L cur)).relabel L l.mem
def asmJ (L : Lay) (cur : List (Int × Rows)) (z : Int) (M : Mst) (q : Int × Rows) : Mst := if q.1 = z then M else (M.guest q.1 q.2).join L q.1 (decide (q.1 ∉ cur.map (·.1)))
def asmOf (L : Lay) (l : Lb) (zs : List (Int × Rows)) (z : Int) (m : Rows) (c : Option Int) : Mst := zs.foldl (asmJ L (curOf L l zs) z) (asm1 L l (curOf L l zs) z m c)
theorem g_eqLb {K : PySem.W.Frag} {H : Hp} {Q : VK} {v w : V} {x y : Option Lb} (hv : Dp K H v (lbD x)) (hw : Dp K H w (lbD y)) (q : Q (.bl (decide (x = y))) H) : rEqU K v w H Q := by
  refine g_eqDa hv hw (la_shaped (la_lbD x)) (la_shaped (la_lbD y)) ?_ ?_
  · rcases lbV hv with ⟨_, rfl⟩ | ⟨c, t, _, rfl⟩
    · exact .inr rfl
    · exact .inl ⟨_, rfl⟩
  · rw [eqv_lbD]; exact q
/-- two rows of ints -/
theorem g_eqIntsT {K : PySem.W.Frag} {H : Hp} {Q : VK} {p q : Addr} {l m : List Int} (hp : SqT K H p (l.map V.int)) (hq : SqT K H q (m.map V.int)) (k : Q (.bl (decide (l = m))) H) : rEqU K (.ref p) (.ref q) H Q := by
  refine g_eqDa (.tup hp (dpAll_ints l)) (.tup hq (dpAll_ints m)) (la_shaped (la_tup (n := 0) la_ints)) (la_shaped (la_tup (n := 0) la_ints)) (.inl ⟨_, rfl⟩) ?_
  rw [eqv_dec (b := decide (l = m)) (by rw [clean]; exact clean_ints l) (by rw [clean]; exact clean_ints m)]
  · exact k
  · rw [decide_eq_true_iff, PyData.tuple.injEq]; exact ⟨fun h => by rw [h], ints_inj⟩
theorem la_pair {x : Int} {l : List Int} : LaD (.tuple [.int x, intsD l]) 2 := la_tup (la_cons la_int (la_cons (la_tup la_ints) la_non'))
theorem g_eqPair {K : PySem.W.Frag} {H : Hp} {Q : VK} {p q a b : Addr} {x y : Int} {l m : List Int} (hp : SqT K H p [.int x, .ref a]) (hq : SqT K H q [.int y, .ref b]) (ha : SqT K H a (l.map V.int)) (hb : SqT K H b (m.map V.int)) (k : Q (.bl (decide (x = y ∧ l = m))) H) : rEqU K (.ref p) (.ref q) H Q := by
  refine g_eqDa (.tup hp (.cons (.int x) (.cons (.tup ha (dpAll_ints l)) .nil))) (.tup hq (.cons (.int y) (.cons (.tup hb (dpAll_ints m)) .nil))) (la_shaped la_pair) (la_shaped la_pair) (.inl ⟨_, rfl⟩) ?_
  rw [eqv_dec (b := decide (x = y ∧ l = m)) (by simp [clean, cleanAll, clean_ints]) (by simp [clean, cleanAll, clean_ints])]
  · exact k
  · rw [decide_eq_true_iff]
    constructor
    · rintro ⟨rfl, rfl⟩; rfl
    · intro h
      simp only [PyData.tuple.injEq, List.cons.injEq, PyData.int.injEq, and_true] at h
      exact ⟨h.1, ints_inj h.2⟩
theorem newest_mem : ∀ {ls : List (Option Lb)} {b : Option Lb} {l : Lb}, ls.foldl pickLb b = some l → b = some l ∨ some l ∈ ls
  | [], b, l, h => .inl h
  | x :: r, b, l, h => by
    rcases newest_mem (ls := r) (b := pickLb b x) h with q | q
    · cases x with
      | none => exact .inl q
      | some k =>
        unfold pickLb at q
        simp only at q
        split at q
        · exact .inr (by rw [q]; exact List.mem_cons_self)
        · exact .inl q
    · exact .inr (List.mem_cons_of_mem _ q)
theorem pick_some {b x : Option Lb} (h : b ≠ none ∨ x ≠ none) : pickLb b x ≠ none := by
  cases x with
  | none => rcases h with h | h; exact h; exact absurd rfl h
  | some k =>
    unfold pickLb
    simp only
    split
    · simp
    · rename_i e
      cases b with
      | none => simp [newer] at e
      | some o => simp
theorem newest_some : ∀ {ls : List (Option Lb)} {b : Option Lb}, (b ≠ none ∨ ∃ x ∈ ls, x ≠ none) → ls.foldl pickLb b ≠ none
  | [], b, h => by
    rcases h with h | ⟨x, hx, _⟩
    · exact h
    · cases hx
  | x :: r, b, h => by
    refine newest_some (ls := r) ?_
    rcases h with h | ⟨y, hy, hn⟩
    · exact .inl (pick_some (.inl h))
    · rcases List.mem_cons.mp hy with rfl | hy
      · exact .inl (pick_some (.inr hn))
      · exact .inr ⟨y, hy, hn⟩
theorem labelOf_mem {L : Lay} {z : Int} {b : Option Blk} {l : Lb} (h : labelOf L z b = some l) : z ∈ l.mem ∧ l.gen ≠ 0 ∧ l.forks.length ≤ 16 ∧ l.mem.length ≤ 3 := by
  cases b with
  | none => cases h
  | some k =>
    rw [labelOf] at h
    split at h
    · rename_i c
      cases h
      exact ⟨c.2.2.1, c.2.1, by show ((List.range _).map _).length ≤ 16; rw [List.length_map, List.length_range]; have := c.2.2.2.1; omega, by
        show (seats3 _ _ _).length ≤ 3
        unfold seats3
        split <;> split <;> split <;> simp⟩
    · cases h
theorem labOf_mem {L : Lay} {z : Int} {m : Rows} {l : Lb} (h : labOf L z m = some l) : z ∈ l.mem ∧ l.gen ≠ 0 ∧ l.forks.length ≤ 16 ∧ l.mem.length ≤ 3 := by
  rcases newest_mem (b := none) h with q | q
  · cases q
  · unfold labsOf at q
    simp only [List.mem_cons, List.not_mem_nil, or_false] at q
    rcases q with q | q
    · exact labelOf_mem q.symm
    · exact labelOf_mem q.symm
theorem fol_mem {L : Lay} {zs : List (Int × Rows)} {l : Lb} (h : folLb L zs = some l) : ∃ q ∈ zs, labOf L q.1 q.2 = some l := by
  rcases newest_mem (b := none) h with q | q
  · cases q
  · obtain ⟨x, hx, e⟩ := List.mem_map.mp q
    exact ⟨x, hx, e⟩
/-- there is always a leader -/
theorem cur_head {L : Lay} {zs : List (Int × Rows)} {l : Lb} (h : folLb L zs = some l) : ∃ z m, (curOf L l zs).head? = some (z, m) := by
  obtain ⟨q, hq, e⟩ := fol_mem h
  have hc : q ∈ curOf L l zs := List.mem_filter.mpr ⟨hq, by unfold curL; rw [e]; simp [(labOf_mem e).1]⟩
  cases e2 : curOf L l zs with
  | nil => rw [e2] at hc; cases hc
  | cons x r => exact ⟨x.1, x.2, rfl⟩
theorem gk_nil {M : Mst} (h : M.gs = []) : M.gk = [] := by unfold Mst.gk; rw [h]; rfl
theorem nil_gk {M : Mst} (h : M.gk = []) : M.gs = [] := List.map_eq_nil_iff.mp h
theorem copyTo_gs {L : Lay} {z : Int} {bs : List (Option Blk)} {M : Mst} (h : M.gs = []) : (M.copyTo L z bs).gs = [] := nil_gk (by unfold Mst.copyTo; rw [cmd_gk, copies_gk]; exact gk_nil h)
theorem join_gs (L : Lay) (z : Int) (b : Bool) (M : Mst) : (M.join L z b).gs = [] := rfl
theorem join_keys (L : Lay) (z : Int) (b : Bool) (M : Mst) : (M.join L z b).keys = M.keys ++ [z] := by
  show (((((M.join1 L z b).join2 L z).labs L [z] _).labs L _ _).admit z).keys = _
  have : ∀ N : Mst, (N.admit z).keys = N.keys ++ [z] := fun N => by unfold Mst.keys Mst.admit; rw [List.map_append]; rfl
  rw [this, labs_keys, labs_keys, join2_keys, join1_keys]
section
variable {L : Lay} {l : Lb} {cur zs : List (Int × Rows)} {z : Int} {m : Rows} {c : Option Int}
@[simp] theorem asm1_keys : (asm1 L l cur z m c).keys = [z] := by
  unfold asm1 Mst.relabel
  rw [labs_keys]
  show (Mst.copyTo L z _ _).keys = _
  rw [copyTo_keys]
  rfl
theorem asm1_gs : (asm1 L l cur z m c).gs = [] := relabel_gs (copyTo_gs rfl)
theorem wholeAt_W {k : Nat} (hc : ∀ q ∈ cur, RsW L k q.2) {n : Nat} {x : Blk} (e : wholeAt L cur n = some x) : BW L x := by
  unfold wholeAt at e
  obtain ⟨q, hq, e⟩ := List.exists_of_findSome?_eq_some e
  refine readC_W (c := q.2.seen.getD n none) ?_ e
  rw [List.getD_eq_getElem?_getD]
  cases h : q.2.seen[n]? with
  | none => exact trivial
  | some y => exact (hc q hq).c2 y (List.mem_of_getElem? h)
theorem asmC_W {k : Nat} (hc : ∀ q ∈ cur, RsW L k q.2) : ∀ b ∈ asmC L cur, ∀ x, b = some x → BW L x := fun b hb x e => by
  obtain ⟨n, _, rfl⟩ := List.mem_map.mp hb
  exact wholeAt_W hc e
theorem asmFk_ok (g0 : 0 ≤ l.gen) (g9 : l.gen ≤ 100) (z0 : 0 ≤ z) (z3 : z < 3) (few : l.forks.length < 16) (fr : ∀ x ∈ l.forks, 0 ≤ x ∧ x < 16777216) : (asmFk l cur z).length ≤ 16 ∧ ∀ x ∈ asmFk l cur z, 0 ≤ x ∧ x < 16777216 := by
  unfold asmFk
  split
  · exact ⟨by omega, fr⟩
  · refine ⟨by rw [List.length_append]; simp; omega, fun x hx => ?_⟩
    rcases List.mem_append.mp hx with hx | hx
    · exact fr x hx
    · rw [List.mem_singleton.mp hx]; omega
theorem asm0_W {k : Nat} {fk : List Int} {p : Pow} (hm : RsW L k m) (z0 : 0 ≤ z) (z3 : z < 3) {g : Int} (g0 : 0 ≤ g) (g9 : g ≤ 100) (f1 : fk.length ≤ 16) (f2 : ∀ x ∈ fk, 0 ≤ x ∧ x < 16777216) : MsW L k ⟨[(z, m)], [], g, fk, p⟩ :=
  ⟨fun q hq => by
    rw [List.append_nil, List.mem_singleton] at hq
    subst hq
    exact ⟨hm, z0, z3⟩, ⟨g0, by show g ≤ (k : Int) + 100; omega⟩, f1, f2⟩
theorem asm1_W (hL : L.Ok) (d0 : 0 ≤ L.device) (d9 : L.device < 900) (hm : RsW L 100 m) (hc : ∀ q ∈ cur, RsW L 100 q.2) (z0 : 0 ≤ z) (z3 : z < 3) (g0 : 0 ≤ l.gen) (g9 : l.gen ≤ 100) (few : l.forks.length < 16) (fr : ∀ x ∈ l.forks, 0 ≤ x ∧ x < 16777216) : MsW L 1100 (asm1 L l cur z m c) := by
  obtain ⟨f1, f2⟩ := asmFk_ok (cur := cur) g0 g9 z0 z3 few fr
  have w0 := asm0_W (p := ⟨c, false⟩) hm z0 z3 g0 g9 f1 f2
  have cl : ((asmC L cur).length : Int) = L.device := by unfold asmC; rw [List.length_map, List.length_range]; omega
  have w1 := w0.copyTo (z := z) cl (asmC_W hc)
  exact (w1.relabel hL d0 (by omega) (by rw [copyTo_keys]; show 1 ≤ 3; omega) l.mem).up (by omega)
structure AsmW (L : Lay) (z : Int) (zs : List (Int × Rows)) (k : Nat) (M : Mst) : Prop where
  w : MsW L k M
  gs : M.gs = []
  keys : ∀ y, y ∈ M.keys ↔ y = z ∨ y ∈ zs.map (·.1)
  len : M.keys.length ≤ 3
theorem asmJ_W (hL : L.Ok) (d0 : 0 ≤ L.device) (d9 : L.device < 900) {M : Mst} {k : Nat} (k9 : k ≤ 60000) {ys : List (Int × Rows)} {q : Int × Rows} (h : AsmW L z ys k M) (hq : RsW L 100 q.2) (k1 : 100 ≤ k) (q0 : 0 ≤ q.1) (q3 : q.1 < 3) (nd : M.keys.Nodup) (no : q.1 ∉ ys.map (·.1)) : AsmW L z (ys ++ [q]) (k + 2000) (asmJ L cur z M q) ∧ (asmJ L cur z M q).keys.Nodup := by
  unfold asmJ
  split
  · rename_i e
    refine ⟨⟨h.w.up (by omega), h.gs, fun y => ?_, h.len⟩, nd⟩
    rw [h.keys, List.map_append, List.mem_append]
    constructor
    · rintro (r | r)
      · exact .inl r
      · exact .inr (.inl r)
    · rintro (r | r | r)
      · exact .inl r
      · exact .inr r
      · exact .inl (by rw [List.map_singleton, List.mem_singleton] at r; rw [r, e])
  · rename_i e
    have nk : q.1 ∉ M.keys := fun hk => by
      rcases (h.keys _).mp hk with r | r
      · exact e r
      · exact no r
    have hz : ∀ y ∈ M.keys, 0 ≤ y ∧ y < 3 := fun y hy => by
      obtain ⟨r, hr, rfl⟩ := List.mem_map.mp hy
      exact (h.w.rows r (List.mem_append_left _ hr)).2
    have l2 := keys_few nd hz q0 q3 nk
    have kk : ((M.guest q.1 q.2).join L q.1 (decide (q.1 ∉ cur.map (·.1)))).keys = M.keys ++ [q.1] := join_keys _ _ _ _
    refine ⟨⟨h.w.join hL d0 d9 k9 q0 q3 (hq.up k1) h.len, rfl, fun y => ?_, by rw [kk, List.length_append]; simp; omega⟩, ?_⟩
    · rw [kk, List.mem_append, h.keys, List.map_append, List.mem_append, List.map_singleton, or_assoc]
    · rw [kk]
      refine List.nodup_append.mpr ⟨nd, by simp, fun a ha b hb => ?_⟩
      rw [List.mem_singleton.mp hb]
      exact fun r => nk (by rw [← r]; exact ha)
end
theorem opCatAK {X : Cx} {K : PySem.W.Frag} (hK : X.K = K := by rfl) : OpR X (binaryOp .Add) (rCatA K) := hK ▸ op_catA
theorem g_catA {K : PySem.W.Frag} {H : Hp} {Q : VK} {a b : Addr} {xs ys : List V} (ha : SqT K H a xs) (hb : SqT K H b ys) (z : xs.length + ys.length ≤ sizeLine) (yn : ys ≠ []) (q : ∀ p H', Same H H' → SqT K H' p (xs ++ ys) → Q (.ref p) H') : rCatA K (.ref a) (.ref b) H Q := by
  refine ⟨a, b, xs, ys, rfl, rfl, ha, hb, z, fun e => ?_, fun _ e => absurd e yn, fun _ _ p np => ?_⟩
  · subst e; exact q b H (Same.refl H) hb
  · exact q p _ (fun c o e => by rw [upd_ne (ne_of_none e np)]; exact e) (SqT.of upd_same)
/-! ### all tuples, and all that is new, are only read from now on -/
def TupIn (R H : Hp) : Prop := ∀ x us, Rd H x (.tup us) → Rd R x (.tup us)
theorem rd_mono {R R' : Hp} (s : Same R R') {x : Addr} {u : HO} (h : Rd R x u) : Rd R' x u := by
  rcases h with h | ⟨o, h⟩
  · exact .inl (s _ _ h)
  · exact .inr ⟨o, s _ _ h⟩
theorem sqT_in {K : PySem.W.Frag} {R H : Hp} {a : Addr} {xs : List V} (t : TupIn R H) (h : SqT K H a xs) : SqT K R a xs := by
  rcases h with h | h
  · exact .inl (t a xs h)
  · exact .inr h
def adoptU (U : List Addr) (R H H' : Hp) : Hp := fun b => if b ∈ U then R b else adopt R H H' b
section
variable {U : List Addr} {R H H' : Hp} {b : Addr} {o : HO}
theorem adoptU_gr (sR : Same R H) (s : Same H H') : Gr [] R H (adoptU U R H H') H' := by
  have g := adopt_gr sR s
  refine ⟨fun b o e => ?_, fun b o e => ?_, g.hh, fun b o e n => ?_, g.th⟩
  · unfold adoptU
    split
    · exact e
    · exact g.rr b o e
  · unfold adoptU at e
    split at e
    · exact s b o (sR b o e)
    · exact g.rh b o e
  · unfold adoptU
    split
    · exact n
    · exact g.fr b o e n
theorem adoptU_U (h : b ∈ U) (n : R b = none) : adoptU U R H H' b = none := by unfold adoptU; rw [if_pos h]; exact n
theorem adoptU_new (h : b ∉ U) (n : H b = none) (e : H' b = some o) : adoptU U R H H' b = some o := by unfold adoptU; rw [if_neg h]; exact adopt_at n e
theorem TupIn.adoptU (t : TupIn R H) (sR : Same R H) (s : Same H H') (hU : ∀ x ∈ U, ∀ us, ¬ Rd H' x (.tup us)) : TupIn (adoptU U R H H') H' := fun x us e => by
  have nu : x ∉ U := fun h => hU x h us e
  cases h : H x with
  | none =>
    rcases e with e | ⟨o, e⟩
    · exact .inl (adoptU_new nu h e)
    · exact .inr ⟨o, adoptU_new nu h e⟩
  | some o =>
    have h2 := s x o h
    have : Rd H x (.tup us) := by
      rcases e with e | ⟨o', e⟩
      · exact .inl (by rw [h, ← h2, e])
      · exact .inr ⟨o', by rw [h, ← h2, e]⟩
    exact rd_mono (adoptU_gr sR s).rr (t x us this)
theorem SideOkD.re {dk : Bool} {K : PySem.W.Frag} {CS CD : Addr} {R0 R H : Hp} {s a : Addr} {n : Int} {m : Rows} {ms : List Addr} (h : SideOkD dk K CS CD R0 H s a n m ms) (r : Same R0 R) (e : ∀ y ∈ ms, R y = none) : SideOkD dk K CS CD R H s a n m ms := by
  obtain ⟨d, ds, rfl, ⟨side, nin, non, l1, l2, l3, rfl, dev, nd, non', u1, u2, u3, ls⟩⟩ := h
  exact ⟨d, _, rfl, ⟨side, nin, e _ (by simp), l1, l2, l3, rfl, dev, nd, fun x hx => e x (List.mem_cons_of_mem _ hx), u1, u2, u3, ls.h1, ls.h2, ls.h3, dpAll_mono r ls.d1, dpAll_mono r ls.d2, dpAll_mono r ls.d3⟩⟩
theorem SideOkD.notup {dk : Bool} {K : PySem.W.Frag} {CS CD : Addr} {R H : Hp} {s a : Addr} {n : Int} {m : Rows} {ms : List Addr} (h : SideOkD dk K CS CD R H s a n m ms) : ∀ y ∈ ms, ∀ us, ¬ Rd H y (.tup us) := by
  obtain ⟨d, ds, rfl, ⟨⟨sx, hs⟩, nin, non, l1, l2, l3, rfl, ⟨dx, f, b, hd, pw⟩, nd, non', u1, u2, u3, ls⟩⟩ := h
  have no : ∀ {y : Addr} {o : HO} {us : List V}, H y = some o → (∀ us, o ≠ .tup us) → (∀ o' us, o ≠ .frz o' (.tup us)) → ¬ Rd H y (.tup us) := fun h n1 n2 e => by
    rcases e with e | ⟨o', e⟩
    · rw [h] at e; exact n1 _ (Option.some.inj e)
    · rw [h] at e; exact n2 _ _ (Option.some.inj e)
  intro y hy us
  simp only [List.mem_cons, List.not_mem_nil, or_false] at hy
  rcases hy with rfl | rfl | rfl | rfl | rfl
  · exact no hs (fun _ => by simp) (fun _ _ => by simp)
  · exact no hd (fun _ => by simp) (fun _ _ => by simp)
  · exact no ls.h1 (fun _ => by simp) (fun _ _ => by simp)
  · exact no ls.h2 (fun _ => by simp) (fun _ _ => by simp)
  · exact no ls.h3 (fun _ => by simp) (fun _ _ => by simp)
end
theorem nod3A {a b c : Addr} (ab : a ≠ b) (ac : a ≠ c) (bc : b ≠ c) : [a, b, c].Nodup := by simp [ab, ac, bc]
/-! ### the leader alone: as a member, as a guest -/
def oneM (z : Int) (m : Rows) (g : Int) (fk : List Int) (p : Pow) : Mst := ⟨[(z, m)], [], g, fk, p⟩
def twoM (z : Int) (m : Rows) (g : Int) (fk : List Int) (p : Pow) : Mst := ⟨[], [(z, m)], g, fk, p⟩
section
variable {z : Int} {m : Rows} {g g' : Int} {fk : List Int} {p : Pow} {f : Bool → Rows → Rows} {L : Lay} {bs : List (Option Blk)}
theorem cmd_one : (oneM z m g fk p).cmd z f = oneM z (f p.tick.dark m) g fk p.tick := by simp [oneM, Mst.cmd, Mst.tick, Mst.app, updR]
theorem cmd_two : (twoM z m g fk p).cmd z f = twoM z (f p.tick.dark m) g fk p.tick := by simp [twoM, Mst.cmd, Mst.tick, Mst.app, updR]
theorem row_one : (oneM z m g fk p).row z = m := by simp [oneM, Mst.row]
theorem row_two : (twoM z m g fk p).row z = m := by simp [twoM, Mst.row]
theorem putF_seen {n k : Nat} {c : Cell} {dk : Bool} (h : n < k) : (putF' n c dk m).seen.getD k none = m.seen.getD k none := by
  have e : (putF' n c dk m).seen = m.seen.set n c := by
    unfold putF' Rows.putD
    split <;> rfl
  rw [e, List.getD_eq_getElem?_getD, List.getD_eq_getElem?_getD, List.getElem?_set_ne (by omega)]
theorem copies_two : ∀ k, ∃ m' p', (oneM z m g fk p).copies L z bs k = oneM z m' g fk p' ∧ (twoM z m g' fk p).copies L z bs k = twoM z m' g' fk p' ∧ ∀ n, k ≤ n → m'.seen.getD n none = m.seen.getD n none
  | 0 => ⟨m, p, rfl, rfl, fun _ _ => rfl⟩
  | k + 1 => by
    obtain ⟨m', p', h1, h2, h3⟩ := copies_two k
    have sn : ∀ M : Mst, M.copies L z bs (k + 1) = Mst.copy1 L z bs (M.copies L z bs k) k := fun M => by unfold Mst.copies; rw [List.range_succ, List.foldl_append]; rfl
    rw [sn, sn, h1, h2]
    unfold Mst.copy1
    rw [row_one, row_two]
    split
    · exact ⟨m', p', rfl, rfl, fun n hn => h3 n (by omega)⟩
    · refine ⟨_, _, cmd_one, cmd_two, fun n hn => ?_⟩
      rw [putF_seen (by omega)]
      exact h3 n (by omega)
theorem copies_two_seen (i : Nat) : (((twoM z m g fk p).copies L z bs i).row z).seen.getD i none = m.seen.getD i none := by
  obtain ⟨m', p', _, h2, h3⟩ := copies_two (z := z) (m := m) (g := g) (g' := g) (fk := fk) (p := p) (L := L) (bs := bs) i
  rw [h2, row_two]
  exact h3 i (Nat.le_refl i)
theorem copyTo_two : ∃ m' p', (oneM z m g fk p).copyTo L z bs = oneM z m' g fk p' ∧ (twoM z m g' fk p).copyTo L z bs = twoM z m' g' fk p' := by
  obtain ⟨m', p', h1, h2, _⟩ := copies_two (z := z) (m := m) (g := g) (g' := g') (fk := fk) (p := p) (L := L) (bs := bs) bs.length
  unfold Mst.copyTo
  rw [h1, h2]
  exact ⟨_, _, cmd_one, cmd_two⟩
theorem admit_two : (twoM z m g fk p).admit z = oneM z m g fk p := by
  unfold Mst.admit
  rw [row_two]
  rfl
theorem sortI_one : sortI [z] = [z] := by unfold sortI; simp
theorem asm1_law {l : Lb} {cur : List (Int × Rows)} {c : Option Int} : (((twoM z m (l.gen + 1) (asmFk l cur z) ⟨c, false⟩).copyTo L z (asmC L cur)).admit z).labs L (sortI [z]) ⟨l.gen + 1, [z], l.mem, asmFk l cur z⟩ = asm1 L l cur z m c := by
  obtain ⟨m', p', h1, h2⟩ := copyTo_two (z := z) (m := m) (g := l.gen) (g' := l.gen + 1) (fk := asmFk l cur z) (p := ⟨c, false⟩) (L := L) (bs := asmC L cur)
  unfold asm1
  have h1' : (⟨[(z, m)], [], l.gen, asmFk l cur z, ⟨c, false⟩⟩ : Mst).copyTo L z (asmC L cur) = oneM z m' l.gen (asmFk l cur z) p' := h1
  rw [h1', h2, admit_two]
  unfold Mst.relabel
  have e : (oneM z m' l.gen (asmFk l cur z) p').seats = [z] := sortI_one
  rw [e, sortI_one]
  rfl
end
theorem notup_dK {H : Hp} {y : Addr} {kvs : List (Key × V)} (h : H y = some (.dK kvs)) (us : List V) : ¬ Rd H y (.tup us) := fun e => by
  rcases e with e | ⟨o', e⟩ <;> rw [h] at e <;> cases e
theorem notup_lst {H : Hp} {y : Addr} {l : List V} (h : H y = some (.lst l)) (us : List V) : ¬ Rd H y (.tup us) := fun e => by
  rcases e with e | ⟨o', e⟩ <;> rw [h] at e <;> cases e
theorem RowOk.notup {K : PySem.W.Frag} {R H : Hp} {g : Addr} {m : Rows} {ms : List Addr} (h : RowOk K R H g m ms) : ∀ y ∈ ms, ∀ us, ¬ Rd H y (.tup us) := by
  obtain ⟨n1, n2, n3, rfl, ⟨hr, nd, non, u1, u2, u3, ls⟩⟩ := h
  intro y hy us
  simp only [List.mem_cons, List.not_mem_nil, or_false] at hy
  rcases hy with rfl | rfl | rfl | rfl
  · exact notup_dK hr us
  · exact notup_lst ls.h1 us
  · exact notup_lst ls.h2 us
  · exact notup_lst ls.h3 us
theorem RowOk.re {K : PySem.W.Frag} {R0 R H : Hp} {g : Addr} {m : Rows} {ms : List Addr} (h : RowOk K R0 H g m ms) (r : Same R0 R) (e : ∀ y ∈ ms, R y = none) : RowOk K R H g m ms := by
  obtain ⟨n1, n2, n3, rfl, ⟨hr, nd, non, u1, u2, u3, ls⟩⟩ := h
  exact ⟨n1, n2, n3, rfl, ⟨hr, nd, e, u1, u2, u3, ls.h1, ls.h2, ls.h3, dpAll_mono r ls.d1, dpAll_mono r ls.d2, dpAll_mono r ls.d3⟩⟩
theorem two0_W {L : Lay} {z : Int} {m : Rows} {k : Nat} {fk : List Int} {p : Pow} (hm : RsW L k m) (z0 : 0 ≤ z) (z3 : z < 3) {g : Int} (g0 : 0 ≤ g) (g9 : g ≤ 101) (f1 : fk.length ≤ 16) (f2 : ∀ x ∈ fk, 0 ≤ x ∧ x < 16777216) (k1 : 1 ≤ k := by decide) : MsW L k (twoM z m g fk p) :=
  ⟨fun q hq => by
    have hq : q ∈ [(z, m)] := hq
    rw [List.mem_singleton] at hq
    subst hq
    exact ⟨hm, z0, z3⟩, ⟨g0, show g ≤ (k : Int) + 100 by omega⟩, f1, f2⟩
theorem wo_mu {D : Addr} {R H H' : Hp} (g : Mu [D] R H H') : Same (wo H D) H' := fun x o e => by
  unfold wo at e
  split at e
  · cases e
  · rename_i h
    exact g.g.hh _ _ (fun h2 => h (List.mem_singleton.mp h2)) e
/-! ### a label that was written is read again -/
theorem readLb_label {L : Lay} {z : Int} {l : Lb} (hm : seats3 (bit l.mem 0) (bit l.mem 1) (bit l.mem 2) = l.mem) (hb : seats3 (bit l.bef 0) (bit l.bef 1) (bit l.bef 2) = l.bef) (hf : l.forks = [] ∨ l.forks = [2]) : readLb (labelBlk L z l) = l := by
  obtain ⟨g, m, b, f⟩ := l
  have e1 : memOf (labelBlk L z ⟨g, m, b, f⟩).body = m := hm
  have e2 : befOf (labelBlk L z ⟨g, m, b, f⟩).body = b := hb
  have e3 : forksOf (labelBlk L z ⟨g, m, b, f⟩).body = f := by
    rcases hf with hf | hf
    · have hf : f = [] := hf
      subst hf
      rfl
    · have hf : f = [2] := hf
      subst hf
      rfl
  show (⟨g, memOf _, befOf _, forksOf _⟩ : Lb) = _
  rw [e1, e2, e3]
theorem labelOf_label {L : Lay} {z : Int} {l : Lb} (hm : seats3 (bit l.mem 0) (bit l.mem 1) (bit l.mem 2) = l.mem) (hb : seats3 (bit l.bef 0) (bit l.bef 1) (bit l.bef 2) = l.bef) (hf : l.forks = [] ∨ l.forks = [2]) : labelOf L z (some (labelBlk L z l)) = if l.gen ≠ 0 ∧ z ∈ l.mem then some l else none := by
  have e := readLb_label (L := L) (z := z) hm hb hf
  have em : memOf (labelBlk L z l).body = l.mem := hm
  have ec : (labelBlk L z l).body.getD 12 0 = (l.forks.length : Int) := rfl
  have fl : (l.forks.length : Int) ≤ 16 := by rcases hf with h | h <;> rw [h] <;> decide
  rw [labelOf, e, em, ec]
  by_cases c : l.gen ≠ 0 ∧ z ∈ l.mem
  · rw [if_pos c, if_pos ⟨rfl, c.1, c.2, fl, rfl⟩]
  · rw [if_neg c, if_neg fun h => c ⟨h.2.1, h.2.2.1⟩]
/-- what is made, and changed no more, is only read from now on -/
theorem Gr.adopt1 {M : List Addr} {R H R1 H1 : Hp} {D : Addr} {o : HO} (g : Gr M R H R1 H1) (nH : H D = none) (n1 : R1 D = none) (e : H1 D = some o) : Gr M R H (upd R1 D o) H1 := by
  refine ⟨fun b u q => ?_, fun b u q => ?_, g.hh, fun b u q z => ?_, g.th⟩
  · have := g.rr b u q
    rw [upd_ne (ne_of_none this n1)]; exact this
  · by_cases hb : b = D
    · subst hb; rw [upd_same] at q; cases q; exact e
    · rw [upd_ne hb] at q; exact g.rh b u q
  · rw [upd_ne (ne_of_none q nH)]; exact g.fr b u q z
theorem adopt1_up {R1 : Hp} {D : Addr} {o : HO} (n : R1 D = none) : Same R1 (upd R1 D o) := fun b u q => by rw [upd_ne (ne_of_none q n)]; exact q
theorem getD_set_self {cs : List Cell} {i : Nat} {c : Cell} (h : i < cs.length) : (cs.set i c).getD i none = c := by
  rw [List.getD_eq_getElem?_getD, List.getElem?_set_self h]; rfl
theorem getD_set_ne {cs : List Cell} {i j : Nat} {c : Cell} (h : i ≠ j) : (cs.set i c).getD j none = cs.getD j none := by
  rw [List.getD_eq_getElem?_getD, List.getElem?_set_ne h, ← List.getD_eq_getElem?_getD]
theorem readC_seal {L : Lay} {n : Int} {b : Blk} : readC L n (sealOf L n (some b)) = some b := by
  show (if chk L n (some b) = chk L n (some b) then some b else none) = _
  rw [if_pos rfl]
theorem readC_nil {L : Lay} {n : Int} : readC L n none = none := rfl
theorem labelOf_none {L : Lay} {z : Int} : labelOf L z none = none := rfl
def lab2 (L : Lay) (z : Int) (c0 c1 : Cell) : List (Option Lb) := [labelOf L z (readC L L.device c0), labelOf L z (readC L (L.device + 1) c1)]
theorem labsOf_eq {L : Lay} {z : Int} {cs : List Cell} : labsOf L z ⟨cs, cs, []⟩ = lab2 L z (cs.getD L.device.toNat none) (cs.getD (L.device.toNat + 1) none) := rfl
theorem seats3_012 : seats3 (bit [0, 1, 2] 0) (bit [0, 1, 2] 1) (bit [0, 1, 2] 2) = [0, 1, 2] := by decide
/-- the newest label is the one that all others are older than -/
theorem newest_top {l : Lb} : ∀ {ls : List (Option Lb)} {b : Option Lb}, (b = some l ∨ some l ∈ ls) → (∀ x, b = some x → x = l ∨ x.gen < l.gen) → (∀ x, some x ∈ ls → x = l ∨ x.gen < l.gen) → ls.foldl pickLb b = some l
  | [], b, h, _, _ => by rcases h with h | h; exact h; cases h
  | x :: r, b, h, hb, hl => by
    have hr : ∀ y, some y ∈ r → y = l ∨ y.gen < l.gen := fun y hy => hl y (List.mem_cons_of_mem _ hy)
    have pk : ∀ y, pickLb b x = some y → y = l ∨ y.gen < l.gen := fun y e => by
      cases x with
      | none => exact hb y e
      | some k =>
        unfold pickLb at e
        simp only at e
        split at e
        · cases e; exact hl _ List.mem_cons_self
        · exact hb y e
    refine newest_top (ls := r) (b := pickLb b x) ?_ pk hr
    rcases h with h | h
    · subst h
      left
      cases x with
      | none => rfl
      | some k =>
        rcases hl k List.mem_cons_self with rfl | h
        · unfold pickLb; simp
        · unfold pickLb
          simp only
          rw [if_neg]
          show ¬ ((if k.gen = l.gen then decide (k.mem.length < l.mem.length) else decide (k.gen > l.gen)) = true)
          rw [if_neg (by omega)]
          simp; omega
    · rcases List.mem_cons.mp h with h | h
      · subst h
        left
        unfold pickLb
        simp only
        cases b with
        | none => simp [newer]
        | some k =>
          rcases hb k rfl with rfl | h
          · split <;> rfl
          · rw [if_pos]
            show (if l.gen = k.gen then decide (l.mem.length < k.mem.length) else decide (l.gen > k.gen)) = true
            rw [if_neg (by omega)]
            simp; omega
      · exact .inr h
def lbAt (L : Lay) (z : Int) (cs : List Cell) (i : Nat) : Option Lb := labelOf L z (readC L (L.device + (i : Int)) (cs.getD (L.device.toNat + i) none))
theorem labsOf_at {L : Lay} {z : Int} {cs : List Cell} : labsOf L z ⟨cs, cs, []⟩ = [lbAt L z cs 0, lbAt L z cs 1] := by
  unfold labsOf lbAt
  rw [show L.device + ((0 : Nat) : Int) = L.device by omega]
  rfl
theorem lbAt_set {L : Lay} {z : Int} {cs : List Cell} {i j : Nat} {b : Blk} (h : L.device.toNat + j < cs.length) : lbAt L z (cs.set (L.device.toNat + j) (sealOf L (L.device + (j : Int)) (some b))) i = if i = j then labelOf L z (some b) else lbAt L z cs i := by
  unfold lbAt
  by_cases e : i = j
  · subst e
    rw [if_pos rfl, getD_set_self h, readC_seal]
  · rw [if_neg e, getD_set_ne (by omega)]
theorem lbAt_mem {L : Lay} {z : Int} {cs : List Cell} {i : Nat} (h : i < 2) : lbAt L z cs i ∈ labsOf L z ⟨cs, cs, []⟩ := by
  rw [labsOf_at]
  match i, h with
  | 0, _ => simp
  | 1, _ => simp
theorem lbAt_all {L : Lay} {z : Int} {cs : List Cell} {P : Option Lb → Prop} {i : Nat} (hi : i < 2) (h : P (lbAt L z cs i)) (g : P (lbAt L z cs (1 - i))) : ∀ x ∈ labsOf L z ⟨cs, cs, []⟩, P x := by
  rw [labsOf_at]
  intro x hx
  simp only [List.mem_cons, List.not_mem_nil, or_false] at hx
  match i, hi with
  | 0, _ => rcases hx with rfl | rfl; exact h; exact g
  | 1, _ => rcases hx with rfl | rfl; exact g; exact h
end Sk

namespace Sk
open PySem L2
/-! ### all that stands there, but for some places, is only read from now on -/
def off (H : Hp) (U : List Addr) : Hp := fun b => if b ∈ U then none else H b
section
variable {K : PySem.W.Frag} {CL CM CS CD : Addr} {R H R' H' : Hp} {U : List Addr} {b mo mg a sd gd fa : Addr} {o : HO} {M : Mst} {F : List Addr} {A : List (Int × Addr)}
theorem off_in (h : b ∈ U) : off H U b = none := if_pos h
theorem off_out (h : b ∉ U) : off H U b = H b := if_neg h
theorem off_same : Same (off H U) H := fun b o e => by
  unfold off at e
  split at e
  · cases e
  · exact e
theorem same_off (s : Same R H) (n : ∀ y ∈ U, R y = none) : Same R (off H U) := fun b o e => by
  have : b ∉ U := fun h => by rw [n b h] at e; cases e
  rw [off_out this]
  exact s b o e
theorem tupIn_off (n : ∀ y ∈ U, ∀ us, ¬ Rd H y (.tup us)) : TupIn (off H U) H := fun x us h => by
  have : x ∉ U := fun hx => n x hx us h
  rcases h with h | ⟨o, h⟩
  · exact .inl (by rw [off_out this]; exact h)
  · exact .inr ⟨o, by rw [off_out this]; exact h⟩
theorem notup_ins {y C dx : Addr} {fs : List (Str × V)} (h : H y = some (.ins C dx fs)) (us : List V) : ¬ Rd H y (.tup us) := fun e => by
  rcases e with e | ⟨o', e⟩ <;> rw [h] at e <;> cases e
theorem MirOk.notup (h : MirOk K CM CS CD R H mo a M F A) : ∀ y ∈ F, ∀ us, ¬ Rd H y (.tup us) := by
  obtain ⟨sd, gd, fa, es, gs, rfl, h, _⟩ := h
  intro y hy us
  rcases mem_foot.mp hy with hy | ⟨e, he, hy⟩
  · simp only [List.mem_cons, List.not_mem_nil, or_false] at hy
    rcases hy with rfl | rfl | rfl
    · obtain ⟨dx, ho⟩ := h.obj; exact notup_ins ho us
    · exact notup_dK h.hsd us
    · exact notup_dK h.hgd us
  · exact (h.sides e he).notup y hy us
theorem LawOk.notup (h : LawOk K R H mg sd M F A) : ∀ y ∈ F, ∀ us, ¬ Rd H y (.tup us) := by
  obtain ⟨fa, es, ls, rfl, h, _⟩ := h
  intro y hy us
  rcases mem_foot.mp hy with hy | ⟨e, he, hy⟩
  · simp only [List.mem_cons, List.not_mem_nil, or_false] at hy
    rcases hy with rfl | rfl
    · obtain ⟨kvs, ho, _⟩ := h.obj; exact notup_dK ho us
    · exact notup_dK h.hsd us
  · exact (h.rows e he).notup y hy us
theorem MirOk.re (h : MirOk K CM CS CD R H mo a M F A) (r : Same R R') (e : ∀ y ∈ F, R' y = none) : MirOk K CM CS CD R' H mo a M F A := by
  obtain ⟨sd, gd, fa, es, gs, rfl, h, hh⟩ := h
  exact ⟨sd, gd, fa, es, gs, rfl, ⟨h.obj, h.hsd, h.hgd, h.own, fun x hx => e x (mem_foot.mpr (.inl hx)), sqT_mono r h.fks, fun f hf => (h.sides f hf).re r fun y hy => e y (mem_foot.mpr (.inr ⟨f, hf, hy⟩)), h.apart, h.keys, h.few⟩, hh⟩
theorem LawOk.re (h : LawOk K R H mg sd M F A) (r : Same R R') (e : ∀ y ∈ F, R' y = none) : LawOk K R' H mg sd M F A := by
  obtain ⟨fa, es, ls, rfl, h, hh⟩ := h
  exact ⟨fa, es, ls, rfl, ⟨h.obj, h.hsd, h.own, fun x hx => e x (mem_foot.mpr (.inl hx)), sqT_mono r h.fks, fun f hf => (h.rows f hf).re r fun y hy => e y (mem_foot.mpr (.inr ⟨f, hf, hy⟩)), h.apart, h.keys, h.few⟩, hh⟩
end
/-! ### sides and rows by seat, as they are built -/
def mz (cs : List Cell) : Rows := ⟨cs, cs, []⟩
def esOf (os : List (Option (Ent × Ent))) : List Ent := (os.filterMap id).map (·.1)
def lsOf (os : List (Option (Ent × Ent))) : List Ent := (os.filterMap id).map (·.2)
/-- what stands at a place of the list: a side and a row with the same cells -/
structure SeatOk (K : PySem.W.Frag) (CS CD : Addr) (L : Lay) (R H : Hp) (a : Addr) (own : List Addr) (z : Int) (q : Ent × Ent) (cs : List Cell) : Prop where
  side : SideOkD false K CS CD R H q.1.s a q.1.z q.1.m q.1.ms
  row : RowOk K R H q.2.s q.2.m q.2.ms
  z1 : q.1.z = z
  z2 : q.2.z = z
  m1 : q.1.m = mz cs
  m2 : q.2.m = mz cs
  len : (cs.length : Int) = L.device + 2
  cw : ∀ c ∈ cs, CW L c
  o1 : Dj own q.1.ms
  o2 : Dj own q.2.ms
def SeatsOk (K : PySem.W.Frag) (CS CD : Addr) (L : Lay) (R H : Hp) (a : Addr) (own : List Addr) (os : List (Option (Ent × Ent))) : Prop :=
  (∀ (i : Nat) (q : Ent × Ent), os[i]? = some (some q) → ∃ cs, SeatOk K CS CD L R H a own (i : Int) q cs) ∧ ∀ (i j : Nat) (q r : Ent × Ent), os[i]? = some (some q) → os[j]? = some (some r) → Dj q.1.ms r.2.ms ∧ (i ≠ j → Dj q.2.ms r.2.ms)
section
variable {K : PySem.W.Frag} {CS CD : Addr} {L : Lay} {R H R' H' : Hp} {a : Addr} {own N : List Addr} {os : List (Option (Ent × Ent))} {z : Int} {q : Ent × Ent} {cs : List Cell}
theorem SeatOk.w (h : SeatOk K CS CD L R H a own z q cs) : RsW L 0 (mz cs) := ⟨h.len, h.len, Nat.le_refl 0, fun q hq => absurd hq List.not_mem_nil, h.cw, h.cw, fun q hq => absurd hq List.not_mem_nil⟩
theorem SeatOk.frame (h : SeatOk K CS CD L R H a own z q cs) (g : Gr N R H R' H') (n : ∀ x ∈ N, x ∈ own) : SeatOk K CS CD L R' H' a own z q cs :=
  ⟨h.side.frame g fun x hx hn => h.o1 x (n x hn) hx, h.row.frame g fun x hx hn => h.o2 x (n x hn) hx, h.z1, h.z2, h.m1, h.m2, h.len, h.cw, h.o1, h.o2⟩
theorem SeatsOk.frame (h : SeatsOk K CS CD L R H a own os) (g : Gr N R H R' H') (n : ∀ x ∈ N, x ∈ own) : SeatsOk K CS CD L R' H' a own os :=
  ⟨fun i q e => let ⟨cs, s⟩ := h.1 i q e; ⟨cs, s.frame g n⟩, h.2⟩
theorem SeatsOk.re (h : SeatsOk K CS CD L R H a own os) (r : Same R R') (e : ∀ (i : Nat) (q : Ent × Ent), os[i]? = some (some q) → ∀ y ∈ q.1.ms ++ q.2.ms, R' y = none) : SeatsOk K CS CD L R' H a own os :=
  ⟨fun i q hq => let ⟨cs, s⟩ := h.1 i q hq; ⟨cs, ⟨s.side.re r fun y hy => e i q hq y (List.mem_append_left _ hy), s.row.re r fun y hy => e i q hq y (List.mem_append_right _ hy), s.z1, s.z2, s.m1, s.m2, s.len, s.cw, s.o1, s.o2⟩⟩, h.2⟩
theorem SeatsOk.nil : SeatsOk K CS CD L R H a own [] := ⟨fun i q e => by simp at e, fun i j q r e => by simp at e⟩
theorem SeatsOk.reown {own' : List Addr} (h : SeatsOk K CS CD L R H a own os) (n : ∀ x ∈ own', x ∈ own ∨ H x = none) : SeatsOk K CS CD L R H a own' os := by
  refine ⟨fun i q e => ?_, h.2⟩
  obtain ⟨cs, s⟩ := h.1 i q e
  refine ⟨cs, ⟨s.side, s.row, s.z1, s.z2, s.m1, s.m2, s.len, s.cw, fun x hx hn => ?_, fun x hx hn => ?_⟩⟩
  · rcases n x hx with h | h
    · exact s.o1 x h hn
    · obtain ⟨o, ho⟩ := s.side.has x hn
      rw [h] at ho; cases ho
  · rcases n x hx with h | h
    · exact s.o2 x h hn
    · obtain ⟨o, ho⟩ := s.row.has x hn
      rw [h] at ho; cases ho
/-- a side and a row, both new, come to place i -/
theorem SeatsOk.set {H0 H1 : Hp} {i : Nat} (h : SeatsOk K CS CD L R H a own os) (hq : SeatOk K CS CD L R H a own (i : Int) q cs) (th0 : ∀ x o, H0 x = some o → ∃ o', H1 x = some o') (old : ∀ (j : Nat) (r : Ent × Ent), os[j]? = some (some r) → (∀ x ∈ r.1.ms ++ r.2.ms, ∃ o, H0 x = some o)) (n1 : ∀ x ∈ q.1.ms, H0 x = none) (n2 : ∀ x ∈ q.2.ms, H1 x = none) (h1 : ∀ x ∈ q.1.ms, ∃ o, H1 x = some o) {os' : List (Option (Ent × Ent))} (ho : ∀ (j : Nat) (r : Ent × Ent), os'[j]? = some (some r) → (j = i ∧ r = q) ∨ (j ≠ i ∧ os[j]? = some (some r))) : SeatsOk K CS CD L R H a own os' := by
  have n2' : ∀ x ∈ q.2.ms, H0 x = none := fun x hx => by
    cases e : H0 x with
    | none => rfl
    | some o => obtain ⟨o', e'⟩ := th0 x o e; rw [n2 x hx] at e'; cases e'
  have old1 : ∀ {j : Nat} {r : Ent × Ent}, os[j]? = some (some r) → Dj q.1.ms r.2.ms ∧ Dj r.1.ms q.2.ms ∧ Dj q.2.ms r.2.ms := fun {j r} e => by
    refine ⟨fun x hx hn => ?_, fun x hx hn => ?_, fun x hx hn => ?_⟩
    · obtain ⟨o, ho⟩ := old j r e x (List.mem_append_right _ hn); rw [n1 x hx] at ho; cases ho
    · obtain ⟨o, ho⟩ := old j r e x (List.mem_append_left _ hx); rw [n2' x hn] at ho; cases ho
    · obtain ⟨o, ho⟩ := old j r e x (List.mem_append_right _ hn); rw [n2' x hx] at ho; cases ho
  refine ⟨fun j r e => ?_, fun j k r s e e' => ?_⟩
  · rcases ho j r e with ⟨rfl, rfl⟩ | ⟨_, e⟩
    · exact ⟨cs, hq⟩
    · exact h.1 j r e
  · rcases ho j r e with ⟨rfl, rfl⟩ | ⟨_, e⟩ <;> rcases ho k s e' with ⟨rfl, rfl⟩ | ⟨_, e'⟩
    · refine ⟨fun x hx hn => ?_, fun c => absurd rfl c⟩
      obtain ⟨o, ho⟩ := h1 x hx
      rw [n2 x hn] at ho; cases ho
    · exact ⟨(old1 e').1, fun _ => (old1 e').2.2⟩
    · exact ⟨(old1 e).2.1, fun _ => (old1 e).2.2.symm⟩
    · exact h.2 j k r s e e'
theorem SeatsOk.sub (h : SeatsOk K CS CD L R H a own os) {os' : List (Option (Ent × Ent))} (ho : ∀ (j : Nat) (r : Ent × Ent), os'[j]? = some (some r) → os[j]? = some (some r)) : SeatsOk K CS CD L R H a own os' :=
  ⟨fun j r e => h.1 j r (ho j r e), fun j k r s e e' => h.2 j k r s (ho j r e) (ho k s e')⟩
theorem SeatsOk.has (h : SeatsOk K CS CD L R H a own os) {j : Nat} {r : Ent × Ent} (e : os[j]? = some (some r)) : ∀ x ∈ r.1.ms ++ r.2.ms, ∃ o, H x = some o := fun x hx => by
  obtain ⟨cs, s⟩ := h.1 j r e
  rcases List.mem_append.mp hx with hx | hx
  · exact s.side.has x hx
  · exact s.row.has x hx
end
theorem seat_of {os : List (Option (Ent × Ent))} {q : Ent × Ent} (h : q ∈ os.filterMap id) : ∃ i : Nat, os[i]? = some (some q) := by
  obtain ⟨o, ho, e⟩ := List.mem_filterMap.mp h
  have : o = some q := e
  subst this
  obtain ⟨i, hi⟩ := List.mem_iff_getElem?.mp ho
  exact ⟨i, hi⟩
theorem seat_in {os : List (Option (Ent × Ent))} {q : Ent × Ent} {i : Nat} (h : os[i]? = some (some q)) : q ∈ os.filterMap id := List.mem_filterMap.mpr ⟨some q, List.mem_of_getElem? h, rfl⟩
/-- the seats ascend -/
theorem seats_asc : ∀ {os : List (Option (Ent × Ent))} (n : Nat) {f : Ent × Ent → Ent}, (∀ (i : Nat) (q : Ent × Ent), os[i]? = some (some q) → (f q).z = ((n + i : Nat) : Int)) → (((os.filterMap id).map f).map (·.z)).Pairwise (· < ·) ∧ ∀ x ∈ ((os.filterMap id).map f).map (·.z), (n : Int) ≤ x
  | [], n, f, _ => ⟨by simp, by simp⟩
  | o :: r, n, f, h => by
    have hr := seats_asc (os := r) (n + 1) (f := f) fun i q e => by
      have := h (i + 1) q (by simpa using e)
      rw [this]; omega
    cases o with
    | none => exact ⟨by simpa using hr.1, fun x hx => by
        have := hr.2 x (by simpa using hx)
        omega⟩
    | some q =>
      have h0 := h 0 q rfl
      have e : ((some q :: r).filterMap id) = q :: r.filterMap id := rfl
      rw [e, List.map_cons, List.map_cons]
      refine ⟨List.pairwise_cons.mpr ⟨fun x hx => ?_, hr.1⟩, fun x hx => ?_⟩
      · have := hr.2 x hx
        omega
      · rcases List.mem_cons.mp hx with rfl | hx
        · omega
        · have := hr.2 x hx
          omega
theorem seat_at {os : List (Option (Ent × Ent))} {f : Ent × Ent → Ent} (h : ∀ (i : Nat) (q : Ent × Ent), os[i]? = some (some q) → (f q).z = (i : Int)) {q : Ent × Ent} (hq : q ∈ os.filterMap id) {i : Nat} (e : (f q).z = (i : Int)) : os[i]? = some (some q) := by
  obtain ⟨j, hj⟩ := seat_of hq
  have := h j q hj
  have : j = i := by omega
  rw [← this]; exact hj
/-! ### labels that share one generation, but for one that may be older -/
def LabM (L : Lay) (G : Int) (M fk : List Int) (q : Int × Rows) : Prop := (q.1 ∈ M → ∃ e : Int, (e = 0 ∨ e = 1) ∧ labOf L q.1 q.2 = some ⟨G - e, M, M, fk⟩) ∧ (q.1 ∉ M → ∀ x, labOf L q.1 q.2 = some x → 0 ≤ x.gen ∧ x.gen ≤ G - 1 ∧ (x.forks = [] ∨ x.forks = [2]))
section
variable {L : Lay} {G : Int} {M fk : List Int} {zs : List (Int × Rows)}
theorem fol_top (h : ∀ q ∈ zs, LabM L G M fk q) {q0 : Int × Rows} (h0 : q0 ∈ zs) (e0 : labOf L q0.1 q0.2 = some ⟨G, M, M, fk⟩) : folLb L zs = some ⟨G, M, M, fk⟩ := by
  refine newest_top (b := none) (.inr (List.mem_map.mpr ⟨q0, h0, e0⟩)) (fun x e => by cases e) fun x hx => ?_
  obtain ⟨q, hq, e⟩ := List.mem_map.mp hx
  by_cases hm : q.1 ∈ M
  · obtain ⟨d, hd, e2⟩ := (h q hq).1 hm
    rw [e] at e2
    cases e2
    rcases hd with rfl | rfl
    · left; simp
    · right; show G - 1 < G; omega
  · have := (h q hq).2 hm x e
    right; show x.gen < G; omega
theorem miss_none (h : ∀ q ∈ zs, LabM L G M fk q) (hM : ∀ z ∈ M, ∃ m, (z, m) ∈ zs) : missOf ⟨G, M, M, fk⟩ (curOf L ⟨G, M, M, fk⟩ zs) = [] := by
  unfold missOf
  rw [List.filter_eq_nil_iff]
  intro z hz
  obtain ⟨m, hm⟩ := hM z hz
  obtain ⟨e, he, e2⟩ := (h _ hm).1 hz
  have e2 : labOf L z m = some ⟨G - e, M, M, fk⟩ := e2
  have hc : (z, m) ∈ curOf L ⟨G, M, M, fk⟩ zs := List.mem_filter.mpr ⟨hm, by
    unfold curL
    simp only [e2]
    rw [decide_eq_true (show z ∈ M from hz), Bool.true_and]
    rcases he with rfl | rfl
    · rw [decide_eq_true (by simp), Bool.true_or]
    · rw [show isNextL ⟨G, M, M, fk⟩ ⟨G - 1, M, M, fk⟩ = true by unfold isNextL; simp, Bool.or_true]⟩
  simp only [decide_eq_true_eq, Classical.not_not]
  exact List.mem_map.mpr ⟨_, hc, rfl⟩
theorem fol_some (h : ∀ q ∈ zs, LabM L G M fk q) (G1 : 1 ≤ G) (ffk : fk = [] ∨ fk = [2]) {q0 : Int × Rows} (h0 : q0 ∈ zs) (m0 : q0.1 ∈ M) : ∃ l, folLb L zs = some l ∧ 0 ≤ l.gen ∧ l.gen ≤ G ∧ (l.forks = [] ∨ l.forks = [2]) := by
  obtain ⟨e, he, e2⟩ := (h _ h0).1 m0
  cases hf : folLb L zs with
  | none =>
    have := newest_some (ls := zs.map fun q => labOf L q.1 q.2) (b := none) (.inr ⟨_, List.mem_map.mpr ⟨q0, h0, rfl⟩, by rw [e2]; simp⟩)
    exact absurd hf this
  | some l =>
    refine ⟨l, rfl, ?_⟩
    obtain ⟨q, hq, e3⟩ := fol_mem hf
    by_cases hm : q.1 ∈ M
    · obtain ⟨d, hd, e4⟩ := (h q hq).1 hm
      rw [e3] at e4
      cases e4
      refine ⟨show 0 ≤ G - d by omega, show G - d ≤ G by omega, ffk⟩
    · have := (h q hq).2 hm l e3
      exact ⟨this.1, by omega, this.2.2⟩
theorem labOf_labs {z : Int} {m : Rows} {x : Lb} (h : labOf L z m = some x) : some x ∈ labsOf L z m := by
  rcases newest_mem (b := none) h with q | q
  · cases q
  · exact q
def ownLb (g b z : Int) (M fk : List Int) : Option Lb := if g - b ≠ 0 ∧ z ∈ M then some ⟨g - b, M, M, fk⟩ else none
theorem own_lab {z g e : Int} {cs : List Cell} (he : e = 0 ∨ e = 1) (g2 : 2 ≤ g) (hz : z ∈ M) (ho : ownLb g e z M fk ∈ labsOf L z ⟨cs, cs, []⟩) (ha : ∀ x ∈ labsOf L z ⟨cs, cs, []⟩, x = none ∨ x = ownLb g e z M fk ∨ (2 < g ∧ x = some ⟨g - 2, [0, 1, 2], [0, 1, 2], fk⟩)) : labOf L z (mz cs) = some ⟨g - e, M, M, fk⟩ := by
  have eo : ownLb g e z M fk = some ⟨g - e, M, M, fk⟩ := if_pos ⟨by omega, hz⟩
  rw [eo] at ho ha
  refine newest_top (b := none) (.inr ho) (fun x e => by cases e) fun x hx => ?_
  rcases ha _ hx with h | h | ⟨_, h⟩
  · cases h
  · left; simpa using h
  · right
    have : x = ⟨g - 2, [0, 1, 2], [0, 1, 2], fk⟩ := by simpa using h
    rw [this]
    show g - 2 < g - e
    omega
theorem own_low {z g e : Int} {cs : List Cell} (he : e = 0 ∨ e = 1) (g1 : 1 ≤ g) (ffk : fk = [] ∨ fk = [2]) (ha : ∀ x ∈ labsOf L z ⟨cs, cs, []⟩, x = none ∨ x = ownLb g e z M fk ∨ (2 < g ∧ x = some ⟨g - 2, [0, 1, 2], [0, 1, 2], fk⟩)) : ∀ x, labOf L z (mz cs) = some x → 0 ≤ x.gen ∧ x.gen ≤ g ∧ (x.forks = [] ∨ x.forks = [2]) := by
  intro x hx
  rcases ha _ (labOf_labs hx) with h | h | ⟨_, h⟩
  · cases h
  · unfold ownLb at h
    split at h
    · cases h
      refine ⟨show 0 ≤ g - e by omega, show g - e ≤ g by omega, ffk⟩
    · cases h
  · have : x = ⟨g - 2, [0, 1, 2], [0, 1, 2], fk⟩ := by simpa using h
    rw [this]
    exact ⟨show 0 ≤ g - 2 by omega, show g - 2 ≤ g by omega, ffk⟩
theorem newest_ge {l : Lb} : ∀ {ls : List (Option Lb)} {b : Option Lb}, ls.foldl pickLb b = some l → (∀ x, b = some x → x.gen ≤ l.gen) ∧ ∀ x, some x ∈ ls → x.gen ≤ l.gen
  | [], b, h => ⟨fun x e => by
      have h : b = some l := h
      rw [e] at h; cases h; exact Int.le_refl _, fun x e => by cases e⟩
  | o :: r, b, h => by
    obtain ⟨h1, h2⟩ := newest_ge (ls := r) (b := pickLb b o) h
    have up : ∀ x, (b = some x ∨ o = some x) → ∃ y, pickLb b o = some y ∧ x.gen ≤ y.gen := fun x e => by
      cases o with
      | none => exact ⟨x, e.resolve_right (by simp), Int.le_refl _⟩
      | some k =>
        cases b with
        | none =>
          have : k = x := by simpa using e
          exact ⟨k, rfl, by rw [this]; exact Int.le_refl _⟩
        | some m =>
          show ∃ y, (if newer k (some m) = true then some k else some m) = some y ∧ _
          have e : m = x ∨ k = x := by simpa using e
          by_cases c : newer k (some m) = true
          · rw [if_pos c]
            refine ⟨k, rfl, ?_⟩
            rcases e with rfl | rfl
            · have c : (if k.gen = m.gen then decide (k.mem.length < m.mem.length) else decide (k.gen > m.gen)) = true := c
              split at c
              · omega
              · simp at c; omega
            · exact Int.le_refl _
          · rw [if_neg c]
            refine ⟨m, rfl, ?_⟩
            rcases e with rfl | rfl
            · exact Int.le_refl _
            · have c : ¬ ((if k.gen = m.gen then decide (k.mem.length < m.mem.length) else decide (k.gen > m.gen)) = true) := c
              split at c
              · omega
              · simp at c; omega
    refine ⟨fun x e => ?_, fun x e => ?_⟩
    · obtain ⟨y, hy, le⟩ := up x (.inl e)
      have := h1 y hy
      omega
    · rcases List.mem_cons.mp e with e | e
      · obtain ⟨y, hy, le⟩ := up x (.inr e.symm)
        have := h1 y hy
        omega
      · exact h2 x e
/-- one label is written anew -/
theorem fix_lab {z g : Int} {cs : List Cell} {i : Nat} (hi : i < 2) (g1 : 1 ≤ g) (hz : z ∈ M) (hM : seats3 (bit M 0) (bit M 1) (bit M 2) = M) (ffk : fk = [] ∨ fk = [2]) (len : (cs.length : Int) = L.device + 2) (d0 : 0 ≤ L.device) {l0 : Lb} (h0 : labOf L z (mz cs) = some l0) (lt : l0.gen < g) :
    labOf L z (mz (cs.set (L.device.toNat + i) (sealOf L (L.device + (i : Int)) (some (labelBlk L z ⟨g, M, M, fk⟩))))) = some ⟨g, M, M, fk⟩ := by
  have ha : ∀ x, some x ∈ labsOf L z ⟨cs, cs, []⟩ → x.gen < g := fun x hx => by
    have := (newest_ge (b := none) h0).2 x hx
    omega
  have eO : labelOf L z (some (labelBlk L z ⟨g, M, M, fk⟩)) = some ⟨g, M, M, fk⟩ := by
    rw [labelOf_label hM hM ffk]
    exact if_pos ⟨show g ≠ 0 by omega, hz⟩
  generalize labelBlk L z ⟨g, M, M, fk⟩ = b at eO
  have at' : ∀ j, lbAt L z (cs.set (L.device.toNat + i) (sealOf L (L.device + (i : Int)) (some b))) j = if j = i then some ⟨g, M, M, fk⟩ else lbAt L z cs j := fun j => by rw [lbAt_set (by omega), eO]
  refine newest_top (b := none) (.inr ?_) (fun x e => by cases e) fun x hx => ?_
  · have := lbAt_mem (L := L) (z := z) (cs := cs.set (L.device.toNat + i) (sealOf L (L.device + (i : Int)) (some b))) hi
    rw [at', if_pos rfl] at this
    exact this
  · have := lbAt_all (L := L) (z := z) (cs := cs.set (L.device.toNat + i) (sealOf L (L.device + (i : Int)) (some b))) (P := fun o => ∀ x, o = some x → x = ⟨g, M, M, fk⟩ ∨ x.gen < g) hi (by
      rw [at', if_pos rfl]; intro x e; left; simpa using e.symm) (by
      rw [at', if_neg (by omega)]
      intro x e'
      right
      have := lbAt_mem (L := L) (z := z) (cs := cs) (i := 1 - i) (by omega)
      rw [e'] at this
      exact ha x this)
    exact this _ hx x rfl
end
theorem g_callN {n j : Nat} {sp : Sp} {gV : List V → List V → List V} {E : XK} {σ : St} {H : Hp} {Q : VK} {tr tk : TA} (q : tr σ H fun vs H1 => tk σ H1 fun zs H2 => vs.length = n ∧ zs.length = j ∧ sp (gV vs zs) H2 Q E) : tCallN n j sp gV E tr tk σ H Q := q
theorem seats_set {l : List V} {i : Nat} (h : l.length = i) (i3 : i < 3) (v : V) : (l ++ List.replicate (3 - i) V.non).set i v = (l ++ [v]) ++ List.replicate (3 - (i + 1)) V.non := by
  rw [show 3 - i = (3 - (i + 1)) + 1 by omega, List.replicate_succ, List.set_append_right _ _ (by omega), h, Nat.sub_self, List.set_cons_zero, List.append_assoc]
  rfl
theorem fmap_snoc (os : List (Option (Ent × Ent))) (o : Option (Ent × Ent)) : (os ++ [o]).filterMap id = os.filterMap id ++ o.toList := by
  rw [List.filterMap_append]
  cases o <;> rfl
theorem fm_mem {os : List (Option (Ent × Ent))} {n : Nat} (h : ∀ (i : Nat) (r : Ent × Ent), os[i]? = some (some r) → r.2.z = ((n + i : Nat) : Int)) : ∀ r ∈ os.filterMap id, (n : Int) ≤ r.2.z := fun r hr => by
  obtain ⟨i, hi⟩ := seat_of hr
  have := h i r hi
  omega
theorem fm_set {q q' : Ent × Ent} : ∀ {os : List (Option (Ent × Ent))} (n k : Nat), (∀ (i : Nat) (r : Ent × Ent), os[i]? = some (some r) → r.2.z = ((n + i : Nat) : Int)) → os[k]? = some (some q) → (os.set k (some q')).filterMap id = (os.filterMap id).map fun r => if r.2.z = ((n + k : Nat) : Int) then q' else r
  | [], n, k, _, e => by simp at e
  | o :: r, n, 0, h, e => by
    have e : o = some q := by simpa using e
    subst e
    have hr : ∀ (i : Nat) (s : Ent × Ent), r[i]? = some (some s) → s.2.z = ((n + 1 + i : Nat) : Int) := fun i s e => by have := h (i + 1) s (by simpa using e); omega
    have h0 := h 0 q rfl
    show q' :: r.filterMap id = List.map _ (q :: r.filterMap id)
    rw [List.map_cons, if_pos h0]
    congr 1
    symm
    refine (List.map_congr_left fun s hs => ?_).trans (List.map_id _)
    have := fm_mem hr s hs
    rw [if_neg (by omega)]; rfl
  | o :: r, n, k + 1, h, e => by
    have hr : ∀ (i : Nat) (s : Ent × Ent), r[i]? = some (some s) → s.2.z = ((n + 1 + i : Nat) : Int) := fun i s e => by have := h (i + 1) s (by simpa using e); omega
    have ih := fm_set (q' := q') (os := r) (n + 1) k hr (by simpa using e)
    have ee : n + 1 + k = n + (k + 1) := by omega
    rw [ee] at ih
    cases o with
    | none => exact ih
    | some q0 =>
      have h0 := h 0 q0 rfl
      show q0 :: (r.set k (some q')).filterMap id = List.map _ (q0 :: r.filterMap id)
      rw [List.map_cons, if_neg (by omega), ih]
theorem fm_none {q : Ent × Ent} : ∀ {os : List (Option (Ent × Ent))} (n k : Nat), (∀ (i : Nat) (r : Ent × Ent), os[i]? = some (some r) → r.2.z = ((n + i : Nat) : Int)) → (os.set k none).filterMap id = (os.filterMap id).filter fun r => decide (r.2.z ≠ ((n + k : Nat) : Int))
  | [], n, k, _ => rfl
  | o :: r, n, 0, h => by
    have hr : ∀ (i : Nat) (s : Ent × Ent), r[i]? = some (some s) → s.2.z = ((n + 1 + i : Nat) : Int) := fun i s e => by have := h (i + 1) s (by simpa using e); omega
    have keep : (r.filterMap id).filter (fun r => decide (r.2.z ≠ ((n + 0 : Nat) : Int))) = r.filterMap id := List.filter_eq_self.mpr fun s hs => by
      have := fm_mem hr s hs
      rw [decide_eq_true_iff]; omega
    cases o with
    | none => exact keep.symm
    | some q0 =>
      have h0 := h 0 q0 rfl
      show r.filterMap id = List.filter _ (q0 :: r.filterMap id)
      rw [List.filter_cons_of_neg (by rw [decide_eq_true_iff]; simpa using h0), keep]
  | o :: r, n, k + 1, h => by
    have hr : ∀ (i : Nat) (s : Ent × Ent), r[i]? = some (some s) → s.2.z = ((n + 1 + i : Nat) : Int) := fun i s e => by have := h (i + 1) s (by simpa using e); omega
    have ih := fm_none (q := q) (os := r) (n + 1) k hr
    have ee : n + 1 + k = n + (k + 1) := by omega
    rw [ee] at ih
    cases o with
    | none => exact ih
    | some q0 =>
      have h0 := h 0 q0 rfl
      show q0 :: (r.set k none).filterMap id = List.filter _ (q0 :: r.filterMap id)
      rw [List.filter_cons_of_pos (by rw [decide_eq_true_iff]; omega), ih]
theorem putK_set {os : List (Option (Ent × Ent))} {k : Nat} {q q' : Ent × Ent} (h : ∀ (i : Nat) (r : Ent × Ent), os[i]? = some (some r) → r.2.z = (i : Int)) (hq : os[k]? = some (some q)) (hz : q'.2.z = (k : Int)) : putK ((lsOf os).map Ent.kv) (.inl (k : Int)) (.ref q'.2.s) = (lsOf (os.set k (some q'))).map Ent.kv := by
  have e := fm_set (q' := q') (os := os) 0 k (fun i r hr => by have := h i r hr; omega) hq
  rw [Nat.zero_add] at e
  unfold lsOf
  rw [e]
  unfold putK
  rw [if_pos]
  · rw [List.map_map, List.map_map, List.map_map, List.map_map]
    refine List.map_congr_left fun r _ => ?_
    show (if (Sum.inl r.2.z : Key) = Sum.inl (k : Int) then ((Sum.inl r.2.z : Key), V.ref q'.2.s) else (Sum.inl r.2.z, V.ref r.2.s)) = Ent.kv (if r.2.z = (k : Int) then q' else r).2
    by_cases c : r.2.z = (k : Int)
    · rw [if_pos c, if_pos (by rw [c]), c]
      unfold Ent.kv
      rw [hz]
    · rw [if_neg c, if_neg (fun x => c (by injection x))]
      rfl
  · rw [List.any_eq_true]
    exact ⟨q.2.kv, List.mem_map.mpr ⟨q.2, List.mem_map.mpr ⟨q, seat_in hq, rfl⟩, rfl⟩, by
      rw [decide_eq_true_iff]
      show (Sum.inl q.2.z : Key) = _
      rw [h k q hq]⟩
theorem dropK_set {os : List (Option (Ent × Ent))} {k : Nat} (h : ∀ (i : Nat) (r : Ent × Ent), os[i]? = some (some r) → r.2.z = (i : Int)) (q : Ent × Ent) : dropK ((lsOf os).map Ent.kv) (.inl (k : Int)) = (lsOf (os.set k none)).map Ent.kv := by
  have e := fm_none (q := q) (os := os) 0 k (fun i r hr => by have := h i r hr; omega)
  rw [Nat.zero_add] at e
  unfold lsOf dropK
  rw [e, List.map_map, List.map_map, List.filter_map]
  refine congrArg (List.map _) (List.filter_congr fun r _ => ?_)
  show decide ((Sum.inl r.2.z : Key) ≠ Sum.inl (k : Int)) = decide (r.2.z ≠ (k : Int))
  by_cases c : r.2.z = (k : Int)
  · rw [c]; simp
  · have : (Sum.inl r.2.z : Key) ≠ Sum.inl (k : Int) := fun x => c (by injection x)
    simp [c]
def rowAt (os : List (Option (Ent × Ent))) (z : Int) : Rows := match os[z.toNat]? with
  | some (some q) => q.2.m
  | _ => mz []
theorem rowAt_of {os : List (Option (Ent × Ent))} {z : Int} {q : Ent × Ent} (h : os[z.toNat]? = some (some q)) : rowAt os z = q.2.m := by unfold rowAt; rw [h]
theorem asmF_W {L : Lay} {z : Int} {cur : List (Int × Rows)} (hL : L.Ok) (d0 : 0 ≤ L.device) (d9 : L.device < 900) : ∀ (zs ys : List (Int × Rows)) (M : Mst) (k : Nat), AsmW L z ys k M → M.keys.Nodup → k + 2000 * zs.length ≤ 62000 → 100 ≤ k → (∀ q ∈ zs, RsW L 100 q.2 ∧ 0 ≤ q.1 ∧ q.1 < 3) → ((ys ++ zs).map (·.1)).Nodup → MsW L (k + 2000 * zs.length) (zs.foldl (asmJ L cur z) M) ∧ (zs.foldl (asmJ L cur z) M).gs = []
  | [], ys, M, k, h, _, _, _, _, _ => ⟨h.w, h.gs⟩
  | q :: r, ys, M, k, h, nd, k9, k1, hz, no => by
    rw [List.length_cons] at k9 ⊢
    obtain ⟨w, z0, z3⟩ := hz q List.mem_cons_self
    have no' : q.1 ∉ ys.map (·.1) := fun hm => by
      rw [List.map_append, List.map_cons] at no
      exact (List.nodup_append.mp no).2.2 _ hm _ List.mem_cons_self rfl
    obtain ⟨h2, nd2⟩ := asmJ_W (cur := cur) hL d0 d9 (show k ≤ 60000 by omega) h w k1 z0 z3 nd no'
    have ih := asmF_W (cur := cur) hL d0 d9 r (ys ++ [q]) _ (k + 2000) h2 nd2 (by omega) (by omega) (fun q hq => hz q (List.mem_cons_of_mem _ hq)) (by rw [List.append_assoc]; exact no)
    rw [show k + 2000 * (r.length + 1) = k + 2000 + 2000 * r.length by omega]
    exact ih
theorem asmOf_W {L : Lay} {z : Int} {m : Rows} {l : Lb} {c : Option Int} {zs : List (Int × Rows)} (hL : L.Ok) (d0 : 0 ≤ L.device) (d9 : L.device < 900) (hz : ∀ q ∈ zs, RsW L 100 q.2 ∧ 0 ≤ q.1 ∧ q.1 < 3) (nd : (zs.map (·.1)).Nodup) (l3 : zs.length ≤ 3) (hm : (z, m) ∈ curOf L l zs) (g0 : 0 ≤ l.gen) (g9 : l.gen ≤ 100) (few : l.forks.length < 16) (fr : ∀ x ∈ l.forks, 0 ≤ x ∧ x < 16777216) : MsW L 7100 (asmOf L l zs z m c) ∧ (asmOf L l zs z m c).gs = [] := by
  have sub : ∀ q ∈ curOf L l zs, q ∈ zs := fun q hq => (List.mem_filter.mp hq).1
  obtain ⟨wm, z0, z3⟩ := hz _ (sub _ hm)
  have w1 := asm1_W (c := c) hL d0 d9 wm (fun q hq => (hz q (sub q hq)).1) z0 z3 g0 g9 few fr
  have aw : AsmW L z [] 1100 (asm1 L l (curOf L l zs) z m c) := ⟨w1, asm1_gs, fun y => by simp, by simp⟩
  have := asmF_W (cur := curOf L l zs) hL d0 d9 zs [] _ 1100 aw (by simp) (by omega) (by omega) hz (by simpa using nd)
  exact ⟨this.1.up (by omega), this.2⟩
theorem settle_mz (cs : List Cell) : (mz cs).settle = mz cs := rfl
theorem atI_last {M : List Int} {z : Int} (h : M[M.length - 1]? = some z) : atI (M.map V.int) (-1) = some (.int z) := by
  have l1 : 0 < M.length := by
    have := (List.getElem?_eq_some_iff.mp h).1
    omega
  have e : ixN (M.map V.int).length (-1) = some (M.length - 1) := by
    unfold ixN
    rw [List.length_map]
    rw [if_neg (by omega), if_pos (by omega)]
    congr 1
    omega
  unfold atI
  rw [e]
  show (M.map V.int)[M.length - 1]? = _
  rw [List.getElem?_map, h]; rfl
/-- the same with another R (kept apart so that a search does not find it) -/
structure Mu' (M : List Addr) (R H R1 H1 : Hp) : Prop where
  g : Gr M R H R1 H1
end Sk

namespace Sk
open PySem L2
/-! ### a label that was written is read again -/
theorem num3 {n : Int} (h0 : 0 ≤ n) (h1 : n < 16777216) : numOf [n % 256, n / 256 % 256, n / 256 / 256 % 256] = n := by
  show ((0 * 256 + n / 256 / 256 % 256) * 256 + n / 256 % 256) * 256 + n % 256 = n
  omega
theorem fork3_at : ∀ (l : List Int) (r : List Int) (i : Nat) (f : Int), l[i]? = some f → (fork3 l ++ r).getD (3 * i) 0 = f % 256 ∧ (fork3 l ++ r).getD (3 * i + 1) 0 = f / 256 % 256 ∧ (fork3 l ++ r).getD (3 * i + 2) 0 = f / 256 / 256 % 256
  | [], r, i, f, h => by simp at h
  | n :: t, r, 0, f, h => by
    have e : n = f := by simpa using h
    subst e
    exact ⟨rfl, rfl, rfl⟩
  | n :: t, r, i + 1, f, h => by
    have ih := fork3_at t r i f (by simpa using h)
    have e : fork3 (n :: t) ++ r = n % 256 :: n / 256 % 256 :: n / 256 / 256 % 256 :: (fork3 t ++ r) := rfl
    rw [e]
    have s : ∀ (a b c : Int) (l : List Int) (j : Nat), (a :: b :: c :: l).getD (j + 3) 0 = l.getD j 0 := fun _ _ _ _ _ => rfl
    rw [show 3 * (i + 1) = 3 * i + 3 by omega, show 3 * i + 3 + 1 = 3 * i + 1 + 3 by omega, show 3 * i + 3 + 2 = 3 * i + 2 + 3 by omega, s, s, s]
    exact ih
/-- what a label must be -/
structure LbOk (l : Lb) : Prop where
  mem : seats3 (bit l.mem 0) (bit l.mem 1) (bit l.mem 2) = l.mem
  bef : seats3 (bit l.bef 0) (bit l.bef 1) (bit l.bef 2) = l.bef
  few : l.forks.length ≤ 16
  frk : ∀ f ∈ l.forks, 0 ≤ f ∧ f < 16777216
theorem forks_read {L : Lay} {z : Int} {l : Lb} (h : LbOk l) : forksOf (labelBlk L z l).body = l.forks := by
  have ec : (labelBlk L z l).body.getD 12 0 = (l.forks.length : Int) := rfl
  unfold forksOf
  rw [ec, Int.toNat_natCast]
  refine List.ext_getElem? fun i => ?_
  by_cases hi : i < l.forks.length
  · rw [List.getElem?_map, List.getElem?_range hi]
    have hf : l.forks[i]? = some l.forks[i] := List.getElem?_eq_getElem hi
    rw [hf]
    have eb : (labelBlk L z l).body = labelHead z l ++ (fork3 l.forks ++ List.replicate (L.oct - ((labelFront z l).length : Int)).toNat 0) := by
      show labelFront z l ++ _ = _
      rw [labelFront, List.append_assoc]
    have sh : ∀ (j : Nat), (labelBlk L z l).body.getD (13 + j) 0 = (fork3 l.forks ++ List.replicate (L.oct - ((labelFront z l).length : Int)).toNat 0).getD j 0 := fun j => by
      rw [eb, List.getD_eq_getElem?_getD, List.getElem?_append_right (by rw [labelHead_len]; omega), labelHead_len, show 13 + j - 13 = j by omega, ← List.getD_eq_getElem?_getD]
    obtain ⟨a, b, c⟩ := fork3_at l.forks (List.replicate (L.oct - ((labelFront z l).length : Int)).toNat 0) i _ hf
    have r := h.frk _ (List.getElem_mem hi)
    show some (forkOf _ i) = _
    unfold forkOf
    rw [sh, show 14 + 3 * i = 13 + (3 * i + 1) by omega, sh, show 15 + 3 * i = 13 + (3 * i + 2) by omega, sh, a, b, c, num3 r.1 r.2]
  · rw [List.getElem?_eq_none (by simpa using hi), List.getElem?_eq_none (by omega)]
theorem label_read {L : Lay} {z : Int} {l : Lb} (h : LbOk l) : labelOf L z (some (labelBlk L z l)) = if l.gen ≠ 0 ∧ z ∈ l.mem then some l else none := by
  have e1 : memOf (labelBlk L z l).body = l.mem := h.mem
  have e2 : befOf (labelBlk L z l).body = l.bef := h.bef
  have e : readLb (labelBlk L z l) = l := by
    show (⟨l.gen, memOf _, befOf _, forksOf _⟩ : Lb) = _
    rw [e1, e2, forks_read h]
  have ec : (labelBlk L z l).body.getD 12 0 = (l.forks.length : Int) := rfl
  have fl : (l.forks.length : Int) ≤ 16 := by have := h.few; omega
  rw [labelOf, e, e1, ec]
  by_cases c : l.gen ≠ 0 ∧ z ∈ l.mem
  · rw [if_pos c, if_pos ⟨rfl, c.1, c.2, fl, rfl⟩]
  · rw [if_neg c, if_neg fun h => c ⟨h.2.1, h.2.2.1⟩]
/-- seats in order are what a label keeps -/
theorem asc_bits {l : List Int} (h : l.Pairwise (· < ·)) (r : ∀ z ∈ l, 0 ≤ z ∧ z < 3) : seats3 (bit l 0) (bit l 1) (bit l 2) = l := by
  have key : ∀ (a : List Int), a.Pairwise (· < ·) → (∀ z ∈ a, 0 ≤ z ∧ z < 3) → a = (if (0 : Int) ∈ a then [0] else []) ++ (if (1 : Int) ∈ a then [1] else []) ++ (if (2 : Int) ∈ a then [2] else []) := by
    intro a ha hr
    have nd : a.Nodup := ha.imp fun h => by omega
    refine List.Perm.eq_of_pairwise (le := (· < ·)) (fun x y _ _ h1 h2 => by omega) ha ?_ ?_
    · split <;> split <;> split <;> simp
    · refine (List.perm_ext_iff_of_nodup nd ?_).mpr fun x => ?_
      · split <;> split <;> split <;> simp
      · constructor
        · intro hx
          have := hr x hx
          have c : x = 0 ∨ x = 1 ∨ x = 2 := by omega
          rcases c with rfl | rfl | rfl <;> simp [hx]
        · intro hx
          rcases List.mem_append.mp hx with hx | hx
          · rcases List.mem_append.mp hx with hx | hx
            · split at hx
              · rename_i h; rw [List.mem_singleton.mp hx]; exact h
              · cases hx
            · split at hx
              · rename_i h; rw [List.mem_singleton.mp hx]; exact h
              · cases hx
          · split at hx
            · rename_i h; rw [List.mem_singleton.mp hx]; exact h
            · cases hx
  refine Eq.trans ?_ (key l h r).symm
  unfold seats3 bit
  by_cases h0 : (0 : Int) ∈ l <;> by_cases h1 : (1 : Int) ∈ l <;> by_cases h2 : (2 : Int) ∈ l <;> simp [h0, h1, h2]
/-! ### a row whose waiting writes are seen -/
def Syn (m : Rows) : Prop := m.seen = barL m.sure m.wait
def Still (m : Rows) : Prop := m.wait = [] ∧ m.seen = m.sure
theorem Still.syn {m : Rows} (h : Still m) : Syn m := by unfold Syn; rw [h.1, h.2]; rfl
theorem Syn.put {m : Rows} (h : Syn m) (n : Nat) (c : Cell) : Syn (m.put n c) := by
  unfold Syn Rows.put
  rw [barL_snoc, h]
theorem Syn.bar {m : Rows} (h : Syn m) : Still m.bar := ⟨rfl, h⟩
/-! ### labels of a row -/
def labD (L : Lay) (lb : Lb) (z : Int) (m : Rows) : Rows := m.put (L.device.toNat + slotOf L z m) (sealOf L ((L.device.toNat + slotOf L z m : Nat) : Int) (some (labelBlk L z lb)))
theorem labF_D {L : Lay} {lb : Lb} {z : Int} {m : Rows} : labF L lb z false m = labD L lb z m := rfl
/-- the label at a slot, as it is seen -/
def lbSn (L : Lay) (z : Int) (m : Rows) (i : Nat) : Option Lb := labelOf L z (readC L (L.device + (i : Int)) (m.seen.getD (L.device.toNat + i) none))
theorem labsOf_sn {L : Lay} {z : Int} {m : Rows} : labsOf L z m = [lbSn L z m 0, lbSn L z m 1] := by
  unfold labsOf lbSn
  rw [show L.device + ((0 : Nat) : Int) = L.device by omega]
  rfl
theorem labOf_top {L : Lay} {z : Int} {m : Rows} {l : Lb} (h : some l ∈ labsOf L z m) (g : ∀ x, some x ∈ labsOf L z m → x = l ∨ x.gen < l.gen) : labOf L z m = some l :=
  newest_top (b := none) (.inr h) (fun x e => by cases e) g
theorem labOf_none {L : Lay} {z : Int} {m : Rows} (h : ∀ x ∈ labsOf L z m, x = none) : labOf L z m = none := by
  cases e : labOf L z m with
  | none => rfl
  | some l => have := h _ (labOf_labs e); cases this
/-- a newer label is written: it is read then, and the other slot is as it was -/
theorem labD_sn {L : Lay} {z : Int} {m : Rows} {lb : Lb} (d0 : 0 ≤ L.device) (ln : (m.seen.length : Int) = L.device + 2) (ok : LbOk lb) (g1 : lb.gen ≠ 0) (hz : z ∈ lb.mem) (i : Nat) : lbSn L z (labD L lb z m) i = if i = slotOf L z m then some lb else lbSn L z m i := by
  have sl := slot_le (L := L) (z := z) (m := m)
  have es : (labD L lb z m).seen = m.seen.set (L.device.toNat + slotOf L z m) (sealOf L ((L.device.toNat + slotOf L z m : Nat) : Int) (some (labelBlk L z lb))) := rfl
  have er := label_read (L := L) (z := z) ok
  rw [if_pos ⟨g1, hz⟩] at er
  unfold lbSn
  rw [es]
  generalize slotOf L z m = s at sl
  generalize labelBlk L z lb = b at er
  by_cases e : i = s
  · subst e
    rw [if_pos rfl, getD_set_self (by omega), show ((L.device.toNat + i : Nat) : Int) = L.device + (i : Int) by omega, readC_seal, er]
  · rw [if_neg e, getD_set_ne (by omega)]
theorem labD_labs {L : Lay} {z : Int} {m : Rows} {lb : Lb} (d0 : 0 ≤ L.device) (ln : (m.seen.length : Int) = L.device + 2) (ok : LbOk lb) (g1 : lb.gen ≠ 0) (hz : z ∈ lb.mem) : some lb ∈ labsOf L z (labD L lb z m) ∧ ∀ x ∈ labsOf L z (labD L lb z m), x = some lb ∨ x ∈ labsOf L z m := by
  have sl := slot_le (L := L) (z := z) (m := m)
  have e := fun i => labD_sn (i := i) d0 ln ok g1 hz
  rw [labsOf_sn, labsOf_sn, e 0, e 1]
  have : slotOf L z m = 0 ∨ slotOf L z m = 1 := by omega
  rcases this with h | h
  · rw [h]; simp
  · rw [h]; simp
theorem labD_lab {L : Lay} {z : Int} {m : Rows} {lb : Lb} (d0 : 0 ≤ L.device) (ln : (m.seen.length : Int) = L.device + 2) (ok : LbOk lb) (g1 : lb.gen ≠ 0) (hz : z ∈ lb.mem) (lt : ∀ x, some x ∈ labsOf L z m → x.gen < lb.gen) : labOf L z (labD L lb z m) = some lb := by
  obtain ⟨h1, h2⟩ := labD_labs (z := z) (m := m) d0 ln ok g1 hz
  refine labOf_top h1 fun x hx => ?_
  rcases h2 _ hx with e | e
  · left; simpa using e
  · right; exact lt x e
theorem labOf_le {L : Lay} {z : Int} {m : Rows} {l : Lb} (h : labOf L z m = some l) : ∀ x, some x ∈ labsOf L z m → x.gen ≤ l.gen := (newest_ge (b := none) h).2
theorem labOf_non {L : Lay} {z : Int} {m : Rows} (h : labOf L z m = none) : ∀ x, some x ∈ labsOf L z m → False := fun x hx => by
  have := newest_some (ls := labsOf L z m) (b := none) (.inr ⟨_, hx, by simp⟩)
  exact this h
/-- labels lie behind the data -/
theorem labs_same {L : Lay} {z : Int} {m m' : Rows} (h : ∀ n, L.device.toNat ≤ n → m'.seen.getD n none = m.seen.getD n none) : labsOf L z m' = labsOf L z m := by
  unfold labsOf
  rw [h _ (Nat.le_refl _), h _ (by omega)]
theorem labOf_same {L : Lay} {z : Int} {m m' : Rows} (h : ∀ n, L.device.toNat ≤ n → m'.seen.getD n none = m.seen.getD n none) : labOf L z m' = labOf L z m := by
  unfold labOf
  rw [labs_same h]
/-! ### rows of a mirror, by seat -/
def Mst.all (M : Mst) : List Int := M.keys ++ M.gk
theorem find_updS {z : Int} {f : Rows → Rows} : ∀ {l : List (Int × Rows)}, (updR z f l).find? (fun q => decide (q.1 = z)) = (l.find? fun q => decide (q.1 = z)).map fun q => (q.1, f q.2)
  | [] => rfl
  | q :: r => by
    have ih := find_updS (z := z) (f := f) (l := r)
    unfold updR at ih ⊢
    rw [List.map_cons]
    by_cases e : q.1 = z
    · rw [if_pos e, List.find?_cons_of_pos (by simpa using e), List.find?_cons_of_pos (by simpa using e)]; rfl
    · rw [if_neg e, List.find?_cons_of_neg (by simpa using e), List.find?_cons_of_neg (by simpa using e), ih]
theorem all_find {M : Mst} {z : Int} (h : z ∈ M.all) : ∃ q, (M.es ++ M.gs).find? (fun q => decide (q.1 = z)) = some q ∧ q.1 = z := by
  have : ∃ q ∈ M.es ++ M.gs, q.1 = z := by
    rcases List.mem_append.mp h with h | h
    · obtain ⟨q, hq, e⟩ := List.mem_map.mp h; exact ⟨q, List.mem_append_left _ hq, e⟩
    · obtain ⟨q, hq, e⟩ := List.mem_map.mp h; exact ⟨q, List.mem_append_right _ hq, e⟩
  obtain ⟨q, hq, e⟩ := this
  have : ((M.es ++ M.gs).find? fun q => decide (q.1 = z)).isSome = true := List.find?_isSome.mpr ⟨q, hq, by simpa using e⟩
  obtain ⟨w, hw⟩ := Option.isSome_iff_exists.mp this
  exact ⟨w, hw, by simpa using List.find?_some hw⟩
theorem updR_app (z : Int) (f : Rows → Rows) (l m : List (Int × Rows)) : updR z f l ++ updR z f m = updR z f (l ++ m) := by unfold updR; rw [List.map_append]
theorem cmd_self {M : Mst} {z : Int} {f : Bool → Rows → Rows} (h : z ∈ M.all) : (M.cmd z f).row z = f M.pw.tick.dark (M.row z) := by
  obtain ⟨q, hq, e⟩ := all_find h
  unfold Mst.row
  show (((updR z _ M.es ++ updR z _ M.gs).find? _).map _).getD _ = _
  rw [updR_app, find_updS, hq]
  rfl
theorem cmd_all (z : Int) (f : Bool → Rows → Rows) (M : Mst) : (M.cmd z f).all = M.all := by unfold Mst.all; rw [cmd_keys, cmd_gk]
/-- no power cut is set -/
structure Mst.On (M : Mst) : Prop where
  off : M.pw = ⟨none, false⟩
theorem Mst.On.tick {M : Mst} (h : M.On) : M.pw.tick = ⟨none, false⟩ := by rw [h.off]; rfl
theorem Mst.On.cmd {M : Mst} (h : M.On) (z : Int) (f : Bool → Rows → Rows) : (M.cmd z f).On := ⟨h.tick⟩
theorem Mst.On.row {M : Mst} (h : M.On) {z : Int} {f : Bool → Rows → Rows} (hz : z ∈ M.all) : (M.cmd z f).row z = f false (M.row z) := by rw [cmd_self hz, h.tick]
theorem Mst.On.cmds {f : Int → Bool → Rows → Rows} : ∀ (zs : List Int) {M : Mst}, M.On → (M.cmds zs f).On
  | [], _, h => h
  | z :: r, M, h => Mst.On.cmds r (h.cmd z (f z))
theorem cmds_all (f : Int → Bool → Rows → Rows) : ∀ (zs : List Int) (M : Mst), (M.cmds zs f).all = M.all
  | [], _ => rfl
  | z :: r, M => (cmds_all f r (M.cmd z (f z))).trans (cmd_all z (f z) M)
theorem cmds_out {f : Int → Bool → Rows → Rows} {y : Int} : ∀ (zs : List Int) {M : Mst}, y ∉ zs → (M.cmds zs f).row y = M.row y
  | [], _, _ => rfl
  | z :: r, M, h => by
    have h1 : y ≠ z := fun e => h (by rw [e]; exact List.mem_cons_self)
    have h2 : y ∉ r := fun e => h (List.mem_cons_of_mem _ e)
    show ((M.cmd z (f z)).cmds r f).row y = _
    rw [cmds_out r h2, cmd_row h1]
theorem cmds_in {f : Int → Bool → Rows → Rows} {y : Int} : ∀ (zs : List Int) {M : Mst}, M.On → zs.Nodup → y ∈ zs → y ∈ M.all → (M.cmds zs f).row y = f y false (M.row y)
  | [], _, _, _, h, _ => nomatch h
  | z :: r, M, on, nd, h, ha => by
    obtain ⟨n1, n2⟩ := List.nodup_cons.mp nd
    show ((M.cmd z (f z)).cmds r f).row y = _
    by_cases e : y = z
    · subst e
      rw [cmds_out r n1, on.row ha]
    · have hr : y ∈ r := by rcases List.mem_cons.mp h with h | h; exact absurd h e; exact h
      rw [cmds_in r (on.cmd z (f z)) n2 hr (by rw [cmd_all]; exact ha), cmd_row e]
theorem labs_out {L : Lay} {zs : List Int} {lb : Lb} {M : Mst} {y : Int} (h : y ∉ zs) : (M.labs L zs lb).row y = M.row y := by
  unfold Mst.labs
  rw [cmds_out zs h, cmds_out zs h]
theorem labs_in {L : Lay} {zs : List Int} {lb : Lb} {M : Mst} {y : Int} (on : M.On) (nd : zs.Nodup) (h : y ∈ zs) (ha : y ∈ M.all) : (M.labs L zs lb).row y = (labD L lb y (M.row y)).bar := by
  unfold Mst.labs
  rw [cmds_in (f := fun _ => barF) zs (Mst.On.cmds zs on) nd h (by rw [cmds_all]; exact ha), cmds_in (f := labF L lb) zs on nd h ha]
  rfl
theorem labs_all (L : Lay) (zs : List Int) (lb : Lb) (M : Mst) : (M.labs L zs lb).all = M.all := by unfold Mst.labs; rw [cmds_all, cmds_all]
theorem Mst.On.labs {L : Lay} {zs : List Int} {lb : Lb} {M : Mst} (on : M.On) : (M.labs L zs lb).On := Mst.On.cmds zs (Mst.On.cmds zs on)
/-! ### copying -/
theorem copies_all (L : Lay) (z : Int) (bs : List (Option Blk)) (M : Mst) (k : Nat) : (M.copies L z bs k).all = M.all := by unfold Mst.all; rw [copies_keys, copies_gk]
theorem copies_snoc (L : Lay) (z : Int) (bs : List (Option Blk)) (M : Mst) (k : Nat) : M.copies L z bs (k + 1) = Mst.copy1 L z bs (M.copies L z bs k) k := by unfold Mst.copies; rw [List.range_succ, List.foldl_append]; rfl
theorem copies_on {L : Lay} {z : Int} {bs : List (Option Blk)} {M : Mst} (on : M.On) : ∀ k, (M.copies L z bs k).On
  | 0 => on
  | k + 1 => by
    rw [copies_snoc]
    unfold Mst.copy1
    split
    · exact copies_on on k
    · exact (copies_on on k).cmd _ _
theorem copies_out {L : Lay} {z y : Int} {bs : List (Option Blk)} {M : Mst} (h : y ≠ z) : ∀ k, (M.copies L z bs k).row y = M.row y
  | 0 => rfl
  | k + 1 => by
    rw [copies_snoc]
    unfold Mst.copy1
    split
    · exact copies_out h k
    · rw [cmd_row h]; exact copies_out h k
/-- what the copied row is -/
structure Copied (L : Lay) (bs : List (Option Blk)) (m m' : Rows) (k : Nat) : Prop where
  syn : Syn m'
  len : m'.seen.length = m.seen.length
  slen : m'.sure.length = m.sure.length
  lo : ∀ n, n < k → m'.seen.getD n none = sealOf L n (bs.getD n none)
  hi : ∀ n, k ≤ n → m'.seen.getD n none = m.seen.getD n none
theorem copies_in {L : Lay} {z : Int} {bs : List (Option Blk)} {M : Mst} (on : M.On) (hz : z ∈ M.all) (sy : Syn (M.row z)) : ∀ k, k ≤ (M.row z).seen.length → Copied L bs (M.row z) ((M.copies L z bs k).row z) k
  | 0, _ => ⟨sy, rfl, rfl, fun n h => absurd h (Nat.not_lt_zero n), fun n _ => rfl⟩
  | k + 1, hk => by
    have ih := copies_in (L := L) (bs := bs) on hz sy k (by omega)
    rw [copies_snoc]
    unfold Mst.copy1
    split
    · rename_i e
      exact ⟨ih.syn, ih.len, ih.slen, fun n hn => by
        by_cases c : n = k
        · subst c; exact e
        · exact ih.lo n (by omega), fun n hn => ih.hi n (by omega)⟩
    · rw [(copies_on on k).row (by rw [copies_all]; exact hz)]
      have es : (putF' k (sealOf L k (bs.getD k none)) false ((M.copies L z bs k).row z)) = ((M.copies L z bs k).row z).put k (sealOf L k (bs.getD k none)) := rfl
      rw [es]
      refine ⟨ih.syn.put _ _, by show (List.set _ _ _).length = _; rw [List.length_set]; exact ih.len, ih.slen, fun n hn => ?_, fun n hn => ?_⟩
      · show (List.set _ _ _).getD n none = _
        by_cases c : n = k
        · subst c; rw [getD_set_self (by rw [ih.len]; omega)]
        · rw [getD_set_ne (Ne.symm c)]; exact ih.lo n (by omega)
      · show (List.set _ _ _).getD n none = _
        rw [getD_set_ne (by omega)]; exact ih.hi n (by omega)
theorem copyTo_in {L : Lay} {z : Int} {bs : List (Option Blk)} {M : Mst} (on : M.On) (hz : z ∈ M.all) (sy : Syn (M.row z)) (hk : bs.length ≤ (M.row z).seen.length) : Copied L bs (M.row z) ((M.copyTo L z bs).row z) bs.length ∧ Still ((M.copyTo L z bs).row z) := by
  have c := copies_in (L := L) (bs := bs) on hz sy bs.length hk
  have e : (M.copyTo L z bs).row z = ((M.copies L z bs bs.length).row z).bar := by
    unfold Mst.copyTo
    rw [(copies_on on _).row (by rw [copies_all]; exact hz)]
    rfl
  rw [e]
  have b := c.syn.bar
  exact ⟨⟨b.syn, c.len, by show (barL _ _).length = _; rw [barL_len]; exact c.slen, c.lo, c.hi⟩, b⟩
theorem copyTo_out {L : Lay} {z y : Int} {bs : List (Option Blk)} {M : Mst} (h : y ≠ z) : (M.copyTo L z bs).row y = M.row y := by
  unfold Mst.copyTo
  rw [cmd_row h, copies_out h]
theorem copyTo_all (L : Lay) (z : Int) (bs : List (Option Blk)) (M : Mst) : (M.copyTo L z bs).all = M.all := by unfold Mst.copyTo; rw [cmd_all, copies_all]
theorem copyTo_on {L : Lay} {z : Int} {bs : List (Option Blk)} {M : Mst} (on : M.On) : (M.copyTo L z bs).On := (copies_on on _).cmd _ _
/-! ### assembly that is not cut, to its end -/
theorem sortI_asc {l : List Int} (nd : l.Nodup) : (sortI l).Pairwise (· < ·) := by
  have h2 : (sortI l).Pairwise (· ≤ ·) := by
    have := List.pairwise_mergeSort (le := fun a b : Int => decide (a ≤ b)) (fun a b c h1 h2 => by simp at *; omega) (fun a b => by simp; omega) l
    exact this.imp fun {a b} h => by simpa using h
  have nd2 : (sortI l).Nodup := (List.mergeSort_perm l _).nodup_iff.mpr nd
  exact (h2.and nd2).imp fun h => by omega
theorem sortI_nd {l : List Int} (nd : l.Nodup) : (sortI l).Nodup := (List.mergeSort_perm l _).nodup_iff.mpr nd
theorem sortI_asc_eq {l m : List Int} (nd : l.Nodup) (h : m.Pairwise (· < ·)) (e : ∀ x, x ∈ l ↔ x ∈ m) : sortI l = m := by
  have p : m.Perm l := (List.perm_ext_iff_of_nodup (h.imp fun h => by omega) nd).mpr fun x => (e x).symm
  exact (sortI_eq p (h.imp fun h => by omega)).symm
structure Fin0 (L : Lay) (fk : List Int) (G : Int) (M : Mst) : Prop where
  on : M.On
  gs : M.gs = []
  gen : M.gen = G
  fk : M.fk = fk
  nd : M.keys.Nodup
  rng : ∀ y ∈ M.keys, 0 ≤ y ∧ y < 3
  still : ∀ y ∈ M.keys, Still (M.row y) ∧ ((M.row y).seen.length : Int) = L.device + 2
  lab : ∀ y ∈ M.keys, ∃ bef, labOf L y (M.row y) = some ⟨G, M.seats, bef, M.fk⟩
theorem bar_seen (m : Rows) : m.bar.seen = m.seen := rfl
theorem labOf_bar {L : Lay} {z : Int} {m : Rows} : labOf L z m.bar = labOf L z m := rfl
theorem labsOf_bar {L : Lay} {z : Int} {m : Rows} : labsOf L z m.bar = labsOf L z m := rfl
theorem labD_len {L : Lay} {lb : Lb} {z : Int} {m : Rows} : (labD L lb z m).seen.length = m.seen.length := List.length_set
theorem labD_syn {L : Lay} {lb : Lb} {z : Int} {m : Rows} (h : Syn m) : Syn (labD L lb z m) := h.put _ _
theorem guest_row {M : Mst} {z : Int} {m : Rows} (g0 : M.gs = []) (hz : z ∉ M.keys) : (M.guest z m).row z = m ∧ ∀ y, y ≠ z → (M.guest z m).row y = M.row y := by
  constructor
  · unfold Mst.row Mst.guest
    have : M.es.find? (fun q => decide (q.1 = z)) = none := List.find?_eq_none.mpr fun q hq e => hz (List.mem_map.mpr ⟨q, hq, by simpa using e⟩)
    rw [List.find?_append, this]
    simp
  · intro y hy
    unfold Mst.row Mst.guest
    rw [g0, List.append_nil, List.find?_append, List.find?_cons_of_neg (by simpa using fun e : z = y => hy e.symm)]
    simp
theorem admit_row {M : Mst} {z : Int} (hg : M.gk = [z]) (hz : z ∉ M.keys) (y : Int) (hy : y ∈ M.keys ∨ y = z) : (M.admit z).row y = M.row y := by
  have e : ∀ N : Mst, N.row y = (((N.es ++ N.gs).find? fun q => decide (q.1 = y)).map (·.2)).getD ⟨[], [], []⟩ := fun _ => rfl
  by_cases hk : y ∈ M.keys
  · obtain ⟨q, hq, eq⟩ := List.mem_map.mp hk
    have : (M.es.find? fun q => decide (q.1 = y)).isSome = true := List.find?_isSome.mpr ⟨q, hq, by simpa using eq⟩
    obtain ⟨w, hw⟩ := Option.isSome_iff_exists.mp this
    rw [e, e]
    show (((M.es ++ [(z, M.row z)] ++ []).find? _).map _).getD _ = _
    rw [List.append_nil, List.find?_append, hw, List.find?_append, hw]
    rfl
  · have ez : y = z := hy.resolve_left hk
    subst ez
    have n0 : M.es.find? (fun q => decide (q.1 = y)) = none := List.find?_eq_none.mpr fun q hq e => hk (List.mem_map.mpr ⟨q, hq, by simpa using e⟩)
    rw [e]
    show (((M.es ++ [(y, M.row y)] ++ []).find? _).map _).getD _ = _
    rw [List.append_nil, List.find?_append, n0]
    simp
/-- labels are taken away -/
theorem clear_in {L : Lay} {z : Int} {M : Mst} (d0 : 0 ≤ L.device) (on : M.On) (hz : z ∈ M.all) (sy : Syn (M.row z)) (ln : ((M.row z).seen.length : Int) = L.device + 2) : Still ((M.clear L z).row z) ∧ ((M.clear L z).row z).seen.length = (M.row z).seen.length ∧ ∀ x ∈ labsOf L z ((M.clear L z).row z), x = none := by
  have e : (M.clear L z).row z = (((M.row z).put L.device.toNat none).put (L.device.toNat + 1) none).bar := by
    unfold Mst.clear
    rw [((on.cmd _ _).cmd _ _).row (by rw [cmd_all, cmd_all]; exact hz), (on.cmd _ _).row (by rw [cmd_all]; exact hz), on.row hz]
    rfl
  rw [e]
  refine ⟨((sy.put _ _).put _ _).bar, ?_, fun x hx => ?_⟩
  · show (List.set (List.set _ _ _) _ _).length = _
    rw [List.length_set, List.length_set]
  · have s0 : (((M.row z).put L.device.toNat none).put (L.device.toNat + 1) none).bar.seen = ((M.row z).seen.set L.device.toNat none).set (L.device.toNat + 1) none := rfl
    unfold labsOf at hx
    rw [s0, getD_set_ne (by omega), getD_set_self (by omega), getD_set_self (by rw [List.length_set]; omega)] at hx
    simp only [List.mem_cons, List.not_mem_nil, or_false] at hx
    rcases hx with rfl | rfl <;> rfl
theorem clear_out {L : Lay} {z y : Int} {M : Mst} (h : y ≠ z) : (M.clear L z).row y = M.row y := by
  unfold Mst.clear
  rw [cmd_row h, cmd_row h, cmd_row h]
theorem clear_all (L : Lay) (z : Int) (M : Mst) : (M.clear L z).all = M.all := by unfold Mst.clear; rw [cmd_all, cmd_all, cmd_all]
theorem clear_on {L : Lay} {z : Int} {M : Mst} (on : M.On) : (M.clear L z).On := ((on.cmd _ _).cmd _ _).cmd _ _
theorem Fin0.join {L : Lay} {fk : List Int} {G : Int} {M : Mst} (d0 : 0 ≤ L.device) (h : Fin0 L fk G M) {z : Int} {m : Rows} {b : Bool} (G0 : 0 ≤ G) (few : fk.length ≤ 16) (fr : ∀ f ∈ fk, 0 ≤ f ∧ f < 16777216) (z0 : 0 ≤ z) (z3 : z < 3) (hz : z ∉ M.keys) (st : Still m) (ln : (m.seen.length : Int) = L.device + 2) (gl : ∀ x, some x ∈ labsOf L z m → x.gen ≤ G) : Fin0 L fk (G + 1) ((M.guest z m).join L z b) ∧ ((M.guest z m).join L z b).keys = M.keys ++ [z] := by
  obtain ⟨r0, ro⟩ := guest_row (m := m) h.gs hz
  have on0 : (M.guest z m).On := ⟨h.on.off⟩
  have k0 : (M.guest z m).keys = M.keys := rfl
  have gk0 : (M.guest z m).gk = [z] := rfl
  have gen0 : (M.guest z m).gen = G := h.gen
  have fk0 : (M.guest z m).fk = fk := h.fk
  generalize M.guest z m = N0 at *
  -- the labels are taken away, or not
  have s1 : ∃ N1 : Mst, N0.join1 L z b = N1 ∧ N1.On ∧ N1.keys = M.keys ∧ N1.gk = [z] ∧ N1.gen = G ∧ N1.fk = fk ∧ Still (N1.row z) ∧ ((N1.row z).seen.length : Int) = L.device + 2 ∧ (∀ x, some x ∈ labsOf L z (N1.row z) → x.gen ≤ G) ∧ ∀ y, y ≠ z → N1.row y = M.row y := by
    refine ⟨_, rfl, ?_⟩
    unfold Mst.join1
    have hza : z ∈ N0.all := by unfold Mst.all; rw [gk0]; exact List.mem_append_right _ (List.mem_singleton_self _)
    split
    · obtain ⟨c1, c2, c3⟩ := clear_in d0 on0 hza (by rw [r0]; exact st.syn) (by rw [r0]; exact ln)
      refine ⟨clear_on on0, by rw [clear_keys, k0], ?_, gen0, fk0, c1, by rw [c2, r0]; exact ln, fun x hx => (by have := c3 _ hx; cases this), fun y hy => by rw [clear_out hy, ro y hy]⟩
      unfold Mst.clear
      rw [cmd_gk, cmd_gk, cmd_gk, gk0]
    · exact ⟨on0, k0, gk0, gen0, fk0, by rw [r0]; exact st, by rw [r0]; exact ln, by rw [r0]; exact gl, ro⟩
  obtain ⟨N1, e1, on1, k1, gk1, gen1, fk1, st1, ln1, gl1, ro1⟩ := s1
  -- the copy
  have hz1 : z ∈ N1.all := by unfold Mst.all; rw [gk1]; exact List.mem_append_right _ (List.mem_singleton_self _)
  have cl := content_len L N1
  obtain ⟨cp, st2⟩ := copyTo_in (L := L) (bs := N1.content L) on1 hz1 st1.syn (by omega)
  have e2 : N1.join2 L z = (N1.copyTo L z (N1.content L)).up1 := rfl
  have on2 : (N1.join2 L z).On := ⟨(copyTo_on (L := L) (z := z) (bs := N1.content L) on1).off⟩
  have k2 : (N1.join2 L z).keys = M.keys := by rw [join2_keys, k1]
  have gk2 : (N1.join2 L z).gk = [z] := by
    show (N1.copyTo L z (N1.content L)).gk = _
    unfold Mst.copyTo
    rw [cmd_gk, copies_gk, gk1]
  have gf : ∀ k, (N1.copies L z (N1.content L) k).gen = N1.gen ∧ (N1.copies L z (N1.content L) k).fk = N1.fk := fun k => by
    induction k with
    | zero => exact ⟨rfl, rfl⟩
    | succ k ih =>
      rw [copies_snoc]
      unfold Mst.copy1
      split
      · exact ih
      · exact ih
  have gen2 : (N1.join2 L z).gen = G + 1 := by
    show (N1.copies L z (N1.content L) (N1.content L).length).gen + 1 = _
    rw [(gf _).1, gen1]
  have fk2 : (N1.join2 L z).fk = fk := by
    show (N1.copies L z (N1.content L) (N1.content L).length).fk = _
    rw [(gf _).2, fk1]
  have r2 : (N1.join2 L z).row z = (N1.copyTo L z (N1.content L)).row z := rfl
  have ro2 : ∀ y, y ≠ z → (N1.join2 L z).row y = M.row y := fun y hy => by
    show (N1.copyTo L z (N1.content L)).row y = _
    rw [copyTo_out hy, ro1 y hy]
  have st2' : Still ((N1.join2 L z).row z) := st2
  have ln2 : (((N1.join2 L z).row z).seen.length : Int) = L.device + 2 := by rw [r2, cp.len]; exact ln1
  have gl2 : ∀ x, some x ∈ labsOf L z ((N1.join2 L z).row z) → x.gen ≤ G := fun x hx => by
    rw [r2, labs_same (m := N1.row z) fun n hn => cp.hi n (by omega)] at hx
    exact gl1 x hx
  have ej : N0.join L z b = (N1.join2 L z).join3 L z := by unfold Mst.join; rw [e1]
  rw [ej]
  generalize N1.join2 L z = N2 at *
  -- the labels
  have nd' : (M.keys ++ [z]).Nodup := List.nodup_append.mpr ⟨h.nd, by simp, fun a ha c hc => by
    rw [List.mem_singleton.mp hc]
    exact fun r => hz (by rw [← r]; exact ha)⟩
  have rng' : ∀ y ∈ M.keys ++ [z], 0 ≤ y ∧ y < 3 := fun y hy => by
    rcases List.mem_append.mp hy with hy | hy
    · exact h.rng y hy
    · rw [List.mem_singleton.mp hy]; exact ⟨z0, z3⟩
  have elb : N2.joinLb z = ⟨G + 1, sortI (M.keys ++ [z]), N2.seats, fk⟩ := by unfold Mst.joinLb; rw [gen2, fk2, k2]
  have seats2 : N2.seats = sortI M.keys := by
    show sortI N2.keys = _
    rw [k2]
  have ok : LbOk (N2.joinLb z) := by
    rw [elb]
    exact ⟨asc_bits (sortI_asc nd') fun y hy => rng' y (sortI_mem.mp hy), by rw [seats2]; exact asc_bits (sortI_asc h.nd) fun y hy => h.rng y (sortI_mem.mp hy), few, fr⟩
  have g1 : (N2.joinLb z).gen ≠ 0 := by rw [elb]; show G + 1 ≠ 0; omega
  have inlb : ∀ y ∈ M.keys ++ [z], y ∈ (N2.joinLb z).mem := fun y hy => by rw [elb]; exact sortI_mem.mpr hy
  have hz2 : z ∈ N2.all := by unfold Mst.all; rw [gk2]; exact List.mem_append_right _ (List.mem_singleton_self _)
  have nds : N2.seats.Nodup := by rw [seats2]; exact sortI_nd h.nd
  have zns : z ∉ N2.seats := fun hh => hz (by rw [seats2] at hh; exact sortI_mem.mp hh)
  have onA : (N2.labs L [z] (N2.joinLb z)).On := on2.labs
  have rz : (N2.labs L [z] (N2.joinLb z)).row z = (labD L (N2.joinLb z) z (N2.row z)).bar := labs_in on2 (by simp) (List.mem_singleton_self _) hz2
  have rzB : ((N2.labs L [z] (N2.joinLb z)).labs L N2.seats (N2.joinLb z)).row z = (labD L (N2.joinLb z) z (N2.row z)).bar := by rw [labs_out zns, rz]
  have ry : ∀ y ∈ M.keys, ((N2.labs L [z] (N2.joinLb z)).labs L N2.seats (N2.joinLb z)).row y = (labD L (N2.joinLb z) y (M.row y)).bar := fun y hy => by
    have yz : y ≠ z := fun e => hz (by rw [← e]; exact hy)
    rw [labs_in onA nds (by rw [seats2]; exact sortI_mem.mpr hy) (by rw [labs_all]; unfold Mst.all; rw [k2]; exact List.mem_append_left _ hy), labs_out (by simpa using yz), ro2 y yz]
  have kB : ((N2.labs L [z] (N2.joinLb z)).labs L N2.seats (N2.joinLb z)).keys = M.keys := by rw [labs_keys, labs_keys, k2]
  have gkB : ((N2.labs L [z] (N2.joinLb z)).labs L N2.seats (N2.joinLb z)).gk = [z] := by unfold Mst.labs; rw [cmds_gk, cmds_gk, cmds_gk, cmds_gk, gk2]
  have onB : ((N2.labs L [z] (N2.joinLb z)).labs L N2.seats (N2.joinLb z)).On := onA.labs
  have genB : ((N2.labs L [z] (N2.joinLb z)).labs L N2.seats (N2.joinLb z)).gen = G + 1 := by
    unfold Mst.labs
    rw [(cmds_gen _ _ _).1, (cmds_gen _ _ _).1, (cmds_gen _ _ _).1, (cmds_gen _ _ _).1, gen2]
  have fkB : ((N2.labs L [z] (N2.joinLb z)).labs L N2.seats (N2.joinLb z)).fk = fk := by
    unfold Mst.labs
    rw [(cmds_gen _ _ _).2, (cmds_gen _ _ _).2, (cmds_gen _ _ _).2, (cmds_gen _ _ _).2, fk2]
  unfold Mst.join3
  have ar := fun y hy => admit_row gkB (by rw [kB]; exact hz) y hy
  have ka : (((N2.labs L [z] (N2.joinLb z)).labs L N2.seats (N2.joinLb z)).admit z).keys = M.keys ++ [z] := by
    rw [← kB]
    show (_ ++ [(z, _)]).map _ = _
    rw [List.map_append]; rfl
  generalize (N2.labs L [z] (N2.joinLb z)).labs L N2.seats (N2.joinLb z) = NB at *
  have main : ∀ y ∈ M.keys ++ [z], ∃ m0 : Rows, (NB.admit z).row y = (labD L (N2.joinLb z) y m0).bar ∧ Still m0 ∧ (m0.seen.length : Int) = L.device + 2 ∧ ∀ x, some x ∈ labsOf L y m0 → x.gen ≤ G := fun y hy => by
    rcases List.mem_append.mp hy with hy | hy
    · obtain ⟨s, l⟩ := h.still y hy
      obtain ⟨bef, hl⟩ := h.lab y hy
      exact ⟨M.row y, by rw [ar y (.inl (by rw [kB]; exact hy)), ry y hy], s, l, fun x hx => labOf_le hl x hx⟩
    · rw [List.mem_singleton.mp hy]
      exact ⟨N2.row z, by rw [ar z (.inr rfl), rzB], st2', ln2, gl2⟩
  refine ⟨⟨⟨onB.off⟩, rfl, genB, fkB, by rw [ka]; exact nd', by rw [ka]; exact rng', fun y hy => ?_, fun y hy => ?_⟩, ka⟩
  · rw [ka] at hy
    obtain ⟨m0, e, s, l, _⟩ := main y hy
    rw [e]
    exact ⟨(labD_syn s.syn).bar, by show ((labD L _ y m0).seen.length : Int) = _; rw [labD_len]; exact l⟩
  · rw [ka] at hy
    obtain ⟨m0, e, s, l, gg⟩ := main y hy
    refine ⟨N2.seats, ?_⟩
    rw [e, labOf_bar, labD_lab d0 l ok g1 (inlb y hy) fun x hx => by rw [elb]; have := gg x hx; show x.gen < G + 1; omega]
    rw [elb]
    show some (⟨G + 1, sortI (M.keys ++ [z]), N2.seats, fk⟩ : Lb) = some ⟨G + 1, sortI (NB.admit z).keys, N2.seats, NB.fk⟩
    rw [ka, fkB]
theorem seats3_norm (a b c : Int) : seats3 (bit (seats3 a b c) 0) (bit (seats3 a b c) 1) (bit (seats3 a b c) 2) = seats3 a b c := by
  by_cases ha : a = 0 <;> by_cases hb : b = 0 <;> by_cases hc : c = 0 <;> simp [seats3, bit, ha, hb, hc]
theorem labelOf_ok {L : Lay} {z : Int} {b : Option Blk} {l : Lb} (h : labelOf L z b = some l) : seats3 (bit l.mem 0) (bit l.mem 1) (bit l.mem 2) = l.mem ∧ seats3 (bit l.bef 0) (bit l.bef 1) (bit l.bef 2) = l.bef := by
  cases b with
  | none => cases h
  | some k =>
    rw [labelOf] at h
    split at h
    · cases h; exact ⟨seats3_norm _ _ _, seats3_norm _ _ _⟩
    · cases h
theorem labsOf_ok {L : Lay} {z : Int} {m : Rows} {l : Lb} (h : some l ∈ labsOf L z m) : seats3 (bit l.mem 0) (bit l.mem 1) (bit l.mem 2) = l.mem ∧ seats3 (bit l.bef 0) (bit l.bef 1) (bit l.bef 2) = l.bef := by
  unfold labsOf at h
  simp only [List.mem_cons, List.not_mem_nil, or_false] at h
  rcases h with h | h <;> exact labelOf_ok h.symm
theorem fol_le {L : Lay} {zs : List (Int × Rows)} {l : Lb} (h : folLb L zs = some l) {q : Int × Rows} (hq : q ∈ zs) : ∀ x, some x ∈ labsOf L q.1 q.2 → x.gen ≤ l.gen := fun x hx => by
  cases e : labOf L q.1 q.2 with
  | none => exact absurd hx (fun hx => labOf_non e x hx)
  | some y =>
    have h1 := labOf_le e x hx
    have h2 := (newest_ge (b := none) h).2 y (List.mem_map.mpr ⟨q, hq, e⟩)
    omega
section
variable {L : Lay} {l : Lb} {zs : List (Int × Rows)} {z : Int} {m : Rows}
/-- what the sides of an assembly are -/
structure ZsOk (L : Lay) (zs : List (Int × Rows)) : Prop where
  still : ∀ q ∈ zs, Still q.2 ∧ (q.2.seen.length : Int) = L.device + 2 ∧ 0 ≤ q.1 ∧ q.1 < 3
  asc : (zs.map (·.1)).Pairwise (· < ·)
theorem cur_in (h : (curOf L l zs).head? = some (z, m)) : (z, m) ∈ zs := (List.mem_filter.mp (List.mem_of_mem_head? h)).1
theorem asm1_fin (d0 : 0 ≤ L.device) (ok : ZsOk L zs) (hf : folLb L zs = some l) (hh : (curOf L l zs).head? = some (z, m)) (g0 : 0 ≤ l.gen) {fk : List Int} (ef : fk = asmFk l (curOf L l zs) z) (few : fk.length ≤ 16) (fr : ∀ f ∈ fk, 0 ≤ f ∧ f < 16777216) : Fin0 L fk (l.gen + 1) (asm1 L l (curOf L l zs) z m none) := by
  have hz := cur_in hh
  obtain ⟨st, ln, z0, z3⟩ := ok.still _ hz
  have st : Still m := st
  have ln : (m.seen.length : Int) = L.device + 2 := ln
  unfold asm1
  rw [← ef]
  have e0 : (⟨[(z, m)], [], l.gen, fk, ⟨none, false⟩⟩ : Mst) = oneM z m l.gen fk ⟨none, false⟩ := rfl
  rw [e0]
  have on0 : (oneM z m l.gen fk ⟨none, false⟩).On := ⟨rfl⟩
  have r0 : (oneM z m l.gen fk ⟨none, false⟩).row z = m := row_one
  have a0 : z ∈ (oneM z m l.gen fk ⟨none, false⟩).all := List.mem_append_left _ (List.mem_singleton_self _)
  have cl : (asmC L (curOf L l zs)).length = L.device.toNat := by unfold asmC; rw [List.length_map, List.length_range]
  obtain ⟨cp, st1⟩ := copyTo_in (L := L) (bs := asmC L (curOf L l zs)) on0 a0 (by rw [r0]; exact st.syn) (by rw [r0]; omega)
  obtain ⟨m', p', e1, _⟩ := copyTo_two (z := z) (m := m) (g := l.gen) (g' := l.gen) (fk := fk) (p := ⟨none, false⟩) (L := L) (bs := asmC L (curOf L l zs))
  have on1 := copyTo_on (L := L) (z := z) (bs := asmC L (curOf L l zs)) on0
  rw [e1] at cp st1 on1 ⊢
  rw [r0, row_one] at cp
  rw [row_one] at st1
  have gl : ∀ x, some x ∈ labsOf L z m' → x.gen ≤ l.gen := fun x hx => by
    rw [labs_same (m := m) fun n hn => cp.hi n (by omega)] at hx
    exact fol_le hf hz x hx
  have es : (oneM z m' l.gen fk p').seats = [z] := sortI_one
  obtain ⟨q, hq, eq⟩ := fol_mem hf
  have lok := labsOf_ok (labOf_labs eq)
  have lb_ok : LbOk ⟨l.gen + 1, [z], l.mem, fk⟩ := ⟨asc_bits (List.pairwise_singleton _ _) fun y hy => by rw [List.mem_singleton.mp hy]; exact ⟨z0, z3⟩, lok.1, few, fr⟩
  unfold Mst.relabel
  rw [es]
  have e2 : (⟨(oneM z m' l.gen fk p').es, (oneM z m' l.gen fk p').gs, (oneM z m' l.gen fk p').gen + 1, (oneM z m' l.gen fk p').fk, (oneM z m' l.gen fk p').pw⟩ : Mst) = oneM z m' (l.gen + 1) fk p' := rfl
  show Fin0 L fk (l.gen + 1) ((oneM z m' (l.gen + 1) fk p').labs L [z] ⟨l.gen + 1, [z], l.mem, fk⟩)
  have on2 : (oneM z m' (l.gen + 1) fk p').On := ⟨on1.off⟩
  have kk : ((oneM z m' (l.gen + 1) fk p').labs L [z] ⟨l.gen + 1, [z], l.mem, fk⟩).keys = [z] := by rw [labs_keys]; rfl
  have rr : ((oneM z m' (l.gen + 1) fk p').labs L [z] ⟨l.gen + 1, [z], l.mem, fk⟩).row z = (labD L ⟨l.gen + 1, [z], l.mem, fk⟩ z m').bar := by
    rw [labs_in on2 (by simp) (List.mem_singleton_self _) (List.mem_append_left _ (List.mem_singleton_self _)), row_one]
  have gf : ((oneM z m' (l.gen + 1) fk p').labs L [z] ⟨l.gen + 1, [z], l.mem, fk⟩).gen = l.gen + 1 ∧ ((oneM z m' (l.gen + 1) fk p').labs L [z] ⟨l.gen + 1, [z], l.mem, fk⟩).fk = fk := ⟨rfl, rfl⟩
  have ss : ((oneM z m' (l.gen + 1) fk p').labs L [z] ⟨l.gen + 1, [z], l.mem, fk⟩).seats = [z] := by rw [labs_seats]; exact sortI_one
  have ln' : (m'.seen.length : Int) = L.device + 2 := by rw [cp.len]; exact ln
  refine ⟨on2.labs, rfl, gf.1, gf.2, by rw [kk]; simp, fun y hy => ?_, fun y hy => ?_, fun y hy => ?_⟩
  · rw [kk, List.mem_singleton] at hy; rw [hy]; exact ⟨z0, z3⟩
  · rw [kk, List.mem_singleton] at hy
    subst hy
    rw [rr]
    exact ⟨(labD_syn st1.syn).bar, by show ((labD L _ _ m').seen.length : Int) = _; rw [labD_len]; exact ln'⟩
  · rw [kk, List.mem_singleton] at hy
    subst hy
    refine ⟨l.mem, ?_⟩
    rw [rr, labOf_bar, labD_lab d0 ln' lb_ok (show l.gen + 1 ≠ 0 by omega) (List.mem_singleton_self _) fun x hx => by have := gl x hx; show x.gen < l.gen + 1; omega, ss, gf.2]
theorem asmF_fin {cur : List (Int × Rows)} {fk : List Int} (d0 : 0 ≤ L.device) (few : fk.length ≤ 16) (fr : ∀ f ∈ fk, 0 ≤ f ∧ f < 16777216) (g0 : 0 ≤ l.gen) : ∀ (ys zs : List (Int × Rows)) (M : Mst) (G : Int), Fin0 L fk G M → l.gen < G → (∀ y, y ∈ M.keys ↔ y = z ∨ y ∈ ys.map (·.1)) → (∀ q ∈ zs, Still q.2 ∧ (q.2.seen.length : Int) = L.device + 2 ∧ 0 ≤ q.1 ∧ q.1 < 3) → (∀ q ∈ zs, ∀ x, some x ∈ labsOf L q.1 q.2 → x.gen ≤ l.gen) → ((ys ++ zs).map (·.1)).Nodup →
    Fin0 L fk (G + ((zs.filter fun q => decide (q.1 ≠ z)).length : Int)) (zs.foldl (asmJ L cur z) M) ∧ ∀ y, y ∈ (zs.foldl (asmJ L cur z) M).keys ↔ y = z ∨ y ∈ (ys ++ zs).map (·.1)
  | ys, [], M, G, h, _, hk, _, _, _ => by
    rw [List.append_nil]
    exact ⟨by simpa using h, hk⟩
  | ys, q :: r, M, G, h, lg, hk, hz, gl, nd => by
    obtain ⟨st, ln, z0, z3⟩ := hz q List.mem_cons_self
    have nd' : ((ys ++ [q] ++ r).map (·.1)).Nodup := by rw [List.append_assoc]; exact nd
    have hz' := fun p hp => hz p (List.mem_cons_of_mem q hp)
    have gl' := fun p hp => gl p (List.mem_cons_of_mem q hp)
    have ea : ys ++ q :: r = ys ++ [q] ++ r := by simp
    rw [ea]
    by_cases e : q.1 = z
    · have eJ : asmJ L cur z M q = M := if_pos e
      have ih := asmF_fin (cur := cur) d0 few fr g0 (ys ++ [q]) r M G h lg (fun y => by
        rw [hk, List.map_append, List.mem_append, List.map_singleton, List.mem_singleton, e]
        constructor
        · rintro (h | h)
          · exact .inl h
          · exact .inr (.inl h)
        · rintro (h | h | h)
          · exact .inl h
          · exact .inr h
          · exact .inl h) hz' gl' nd'
      rw [List.foldl_cons, eJ, List.filter_cons_of_neg (by simpa using e)]
      exact ih
    · have nk : q.1 ∉ M.keys := fun hm => by
        rcases (hk _).mp hm with h | h
        · exact e h
        · rw [List.map_append, List.map_cons] at nd
          exact (List.nodup_append.mp nd).2.2 _ h _ List.mem_cons_self rfl
      have eJ : asmJ L cur z M q = (M.guest q.1 q.2).join L q.1 (decide (q.1 ∉ cur.map (·.1))) := if_neg e
      obtain ⟨h2, k2⟩ := h.join d0 (b := decide (q.1 ∉ cur.map (·.1))) (by omega) few fr z0 z3 nk st ln fun x hx => by have := gl q List.mem_cons_self x hx; omega
      rw [← eJ] at h2 k2
      have ih := asmF_fin (cur := cur) d0 few fr g0 (ys ++ [q]) r _ (G + 1) h2 (by omega) (fun y => by
        rw [k2, List.mem_append, hk, List.map_append, List.mem_append, List.map_singleton, or_assoc]) hz' gl' nd'
      rw [List.foldl_cons, List.filter_cons_of_pos (by simpa using e), List.length_cons]
      have eg : G + (((r.filter fun q => decide (q.1 ≠ z)).length + 1 : Nat) : Int) = G + 1 + ((r.filter fun q => decide (q.1 ≠ z)).length : Int) := by omega
      rw [eg]
      exact ih
theorem filter_one : ∀ {zs : List (Int × Rows)}, (zs.map (·.1)).Nodup → z ∈ zs.map (·.1) → (zs.filter fun q => decide (q.1 ≠ z)).length + 1 = zs.length
  | [], _, h => nomatch h
  | q :: r, nd, h => by
    rw [List.map_cons] at nd h
    obtain ⟨n1, n2⟩ := List.nodup_cons.mp nd
    by_cases e : q.1 = z
    · rw [List.filter_cons_of_neg (by simpa using e), List.length_cons]
      have : r.filter (fun q => decide (q.1 ≠ z)) = r := List.filter_eq_self.mpr fun p hp => by
        rw [decide_eq_true_iff]
        intro e2
        exact n1 (by rw [e, ← e2]; exact List.mem_map.mpr ⟨p, hp, rfl⟩)
      rw [this]
    · rw [List.filter_cons_of_pos (by simpa using e), List.length_cons, List.length_cons]
      have := filter_one n2 (by rcases List.mem_cons.mp h with h | h; exact absurd h.symm e; exact h)
      omega
/-- the end of an assembly that is not cut -/
theorem asm_fin (d0 : 0 ≤ L.device) (ok : ZsOk L zs) (hf : folLb L zs = some l) (hh : (curOf L l zs).head? = some (z, m)) (g0 : 0 ≤ l.gen) (few : (asmFk l (curOf L l zs) z).length ≤ 16) (fr : ∀ f ∈ asmFk l (curOf L l zs) z, 0 ≤ f ∧ f < 16777216) :
    Fin0 L (asmFk l (curOf L l zs) z) (l.gen + (zs.length : Int)) (asmOf L l zs z m none) ∧ (asmOf L l zs z m none).seats = zs.map (·.1) := by
  have ndz : (zs.map (·.1)).Nodup := ok.asc.imp fun h => by omega
  have hz := cur_in hh
  have zin : z ∈ zs.map (·.1) := List.mem_map.mpr ⟨_, hz, rfl⟩
  have h1 := asm1_fin d0 ok hf hh g0 rfl few fr
  have := asmF_fin (L := L) (l := l) (z := z) (cur := curOf L l zs) d0 few fr g0 [] zs _ (l.gen + 1) h1 (by omega) (fun y => by simp) ok.still (fun q hq => fol_le hf hq) (by simpa using ndz)
  obtain ⟨a, b⟩ := this
  have fo := filter_one (z := z) ndz zin
  have eg : l.gen + 1 + ((zs.filter fun q => decide (q.1 ≠ z)).length : Int) = l.gen + (zs.length : Int) := by omega
  rw [eg] at a
  refine ⟨a, ?_⟩
  refine sortI_asc_eq a.nd ok.asc fun y => ?_
  have by' := b y
  rw [List.nil_append] at by'
  refine by'.trans ⟨fun h => ?_, fun h => .inr h⟩
  rcases h with rfl | h
  · exact zin
  · exact h
end
/-! ### lists of the same objects -/
def rNeRefs (K : PySem.W.Frag) : R2 := fun x y H Q => ∃ (a b : Addr) (ls : List Addr), x = .ref a ∧ y = .ref b ∧ SqL K H a (ls.map V.ref) ∧ SqL K H b (ls.map V.ref) ∧ Q (.bl false) H
theorem vals_refs : ∀ {ls : List Addr} {us : List Value}, Vals (ls.map V.ref) us → us = ls.map Value.ref
  | [], _, h => by cases h; rfl
  | a :: r, _, h => by
    cases h with
    | cons x y =>
      rw [List.map_cons, ← vals_refs y]
      rw [show _ = Value.ref a from x]
theorem opNeRefs0 {X : Cx} (hu : X.A.units + 65 < cLine) : OpR X (compareOp .NotEq) (rNeRefs X.K) := by
  intro pins s σ H x y v u Q I rx ry h
  obtain ⟨a, b, ls, rfl, rfl, ha, hb, q⟩ := h
  cases (show v = Value.ref a from rx)
  cases (show u = Value.ref b from ry)
  obtain ⟨us, r1, p1, _⟩ := I.list ha
  obtain ⟨ws, r2, p2, _⟩ := I.list hb
  cases vals_refs r1
  cases vals_refs r2
  refine PySem.SeqAt.RcNeAt.lists (e := fun _ => true) p1.isList p2.isList rfl (by omega) (fun j h1 h2 => PySem.SeqAt.EqAt.same _) _ _ _ _ ?_
  rw [show ((List.range (ls.map Value.ref).toArray.size).all fun _ => true) = true from List.all_eq_true.mpr fun _ _ => rfl]
  exact ⟨.bl false, H, I, rfl, q⟩
theorem opNeRefs {X : Cx} {K : PySem.W.Frag} (hu : X.A.units + 65 < cLine) (hK : X.K = K := by rfl) : OpR X (compareOp .NotEq) (rNeRefs K) := hK ▸ opNeRefs0 hu
/-! ### a def with keywords that may raise, within a try -/
section
open PySem.W
variable {X : Cx} {CX : CXT} {k n : Nat} {f : Addr} {fd : FuncData} {ps ks : List Str} {sp : Sp} {E : St → XK} {x : Str} {p pos : Pos} {e : Expr} {es : List Expr} {kws : List Keyword} {t tk : TA} {g : List Value → List Value → List Value} {gV : List V → List V → List V}
def tCallNS (n j : Nat) (sp : Sp) (gV : List V → List V → List V) (E : St → XK) (t tk : TA) : TE := fun σ H Q => t σ H fun vs H1 => tk σ H1 fun zs H2 => vs.length = n ∧ zs.length = j ∧ sp (gV vs zs) H2 Q (E σ)
theorem pe_callNS (F : FnOk X.prog X.w X.K X.mg X.base CX k f fd ps sp) (hr : Room k X.A) (hg : Gl X x) (hm : X.mg x = some (.ref f)) (hk : PySem.W.keepIn X.K (.ref f) = true) (hb : KBn X.K fd ps n ks g gV) (hx : ∀ σ, PassesAt CX X σ (E σ))
    (ha : PA X (e :: es) t) (hkw : PK X kws tk) (hall : (backToKw pos (keywordEach kws X.env)).all (·.1.isSome) = true := by rfl) (hks : (backToKw pos (keywordEach kws X.env)).filterMap (·.1) = ks := by rfl)
    (hdb : (x == ("__debug__" : Str)) = false := by decide) (he : starEach (e :: es) X.env = (false, eval e X.env) :: starEach es X.env := by rfl)
    (hpl : ((backTo pos (starEach (e :: es) X.env)).any (·.1) || (backToKw pos (keywordEach kws X.env)).any (·.1.isNone)) = false := by rfl) :
    PE X (.Call (.Name x p) (e :: es) kws pos) (tCallNS n ks.length sp gV E t tk) := by
  refine ⟨fun pins s σ H Q I h => ?_⟩
  refine wpAny_Call_Name_kw (ld_glob I hg hm ?_ hdb)
  refine PySem.W.callWith_KW (h₀ := X.base) I.ok.mod.kin hk hall (thn (ha.run pos pins s σ H _ I h) fun us s1 ⟨vs, H1, I1, r, q⟩ => ?_) hpl he
  refine thn (hkw.run pos pins s1 σ H1 _ I1 q) fun ws s2 ⟨zs, H2, I2, rz, l1, l2, q2⟩ => ⟨I2.kIn, ?_⟩
  rw [hks]
  exact run_fnNS F hr hb (hx σ) I2 r rz l1 l2 q2
end
theorem g_callNS {n j : Nat} {sp : Sp} {gV : List V → List V → List V} {E : St → XK} {σ : St} {H : Hp} {Q : VK} {tr tk : TA} (q : tr σ H fun vs H1 => tk σ H1 fun zs H2 => vs.length = n ∧ zs.length = j ∧ sp (gV vs zs) H2 Q (E σ)) : tCallNS n j sp gV E tr tk σ H Q := q
/-- isinstance of a caught exception, with a dict of its own or without -/
def rIsZ (K : PySem.W.Frag) (a : Addr) (cls : Value) (d : Option Addr) : List V → Hp → VK → Prop := fun xs H Q => rIsX K a cls xs H Q ∨ rIsY K a cls d xs H Q
theorem call_isZ {X : Cx} {a : Addr} {oe : Obj} {cls : Value} {d : Option Addr} {pn : List (Addr × Obj)} (hz : Zc cls d oe) (hf : ∃ vs, oe.data = .fields vs) : CallR (X.suite a ((a, oe) :: pn)) (.builtin "isinstance") (rIsZ X.K a cls d) := by
  intro pins s σ H xs us Q I r h
  rcases h with h | h
  · exact call_isX hz pins s σ H xs us Q I r h
  · exact call_isY hz hf pins s σ H xs us Q I r h
end Sk

namespace Sk
open PySem L2
section
open SkS He PySem.Spec
theorem sup_fun {K : PySem.W.Frag} {c q name : Str} {st : Stmt} (e : supW K c = (some (name, q, defArgs st, FuncBody.stmts (defBody st), defScope st, mainGlobals, [("__class__" : Str)], Value.none, builtinsNs) : SupV)) (h : (Fa.code (supAt c) q).ok K = true) :
    ∃ fd, SupFun K name q st (codeOf K (supAt c)) (SkS.cellOf K c) (fAd K (supAt c)) fd := by
  have c2 : (match K.lookup (fAd K (supAt c)) with
    | some ⟨_, _, .func fd, _⟩ => PySem.W.codeIn K fd.code q
    | _ => false) = true := h
  unfold supW at e
  cases z : K.lookup (fAd K (supAt c)) with
  | none =>
    rw [z] at c2
    cases c2
  | some o =>
    obtain ⟨oc, od, dt, osl⟩ := o
    rw [z] at c2 e
    cases dt with
    | func fd =>
      obtain ⟨n1, n2, n3, n4, n5, n6, n7, n8, n9, n10, n11, n12, n13, n14, n15⟩ := fd
      have e2 : (some (n1, n2, n3, n4, n5, n6, n7.map (·.1), n8, n15) : SupV) = (some (name, q, defArgs st, FuncBody.stmts (defBody st), defScope st, mainGlobals, [("__class__" : Str)], Value.none, builtinsNs) : SupV) := e
      simp only [Option.some.injEq, Prod.mk.injEq] at e2
      obtain ⟨h1, h2, h3, h4, h5, h6, h7, h8, h9⟩ := e2
      subst h1 h2 h3 h4 h5 h6 h8 h9
      obtain ⟨cd, ec⟩ := codeIn_ref c2
      have ec : n13 = .ref cd := ec
      subst ec
      have eco : codeOf K (supAt c) = cd := codeOf_eq z rfl
      cases n7 with
      | nil => exact absurd (congrArg List.length h7) (by simp)
      | cons a r =>
        cases r with
        | cons b t => exact absurd (congrArg List.length h7) (by simp)
        | nil =>
          obtain ⟨x, a⟩ := a
          have h7 : x = ("__class__" : Str) := (List.cons.inj (show [x] = [("__class__" : Str)] from h7)).1
          subst h7
          have ece : SkS.cellOf K c = a := by unfold SkS.cellOf; rw [z]
          rw [eco, ece]
          exact ⟨_, ⟨oc, od, n9, n10, n11, n12, n14, osl, rfl, z, c2⟩⟩
    | _ => cases c2
theorem sup_facts {P : Program} {K : PySem.W.Frag} {hp : Heap} {mg : Str → Option Value} {c q : Str} (X : K.In hp) (G : hp.Ns mainGlobals mg) (h : supB K c q P.main.file = true) (top : (P.main.scope.names.lookup ("super" : Str)).isSome = false) :
    PySem.W.findIn K (.ref (ga K c)) "__init__" = some (some (.ref (fAd K (supAt c)))) ∧ PySem.W.typeIn K (.ref (fAd K (supAt c))) = some (.type "function") ∧ (Fa.code (supAt c) q).ok K = true ∧ SupC P K mg (ga K c) (codeOf K (supAt c)) (SkS.cellOf K c) ∧ OexC K (ga K c) ∧ XfC K (ga K c) := by
  obtain ⟨b1, h⟩ := ba h
  obtain ⟨b2, h⟩ := ba h
  obtain ⟨b3, h⟩ := ba h
  obtain ⟨b4, h⟩ := ba h
  obtain ⟨b5, h⟩ := ba h
  obtain ⟨b6, h⟩ := ba h
  obtain ⟨b7, h⟩ := ba h
  obtain ⟨b8, h⟩ := ba h
  obtain ⟨b9, h⟩ := ba h
  obtain ⟨b10, h⟩ := ba h
  obtain ⟨b11, h⟩ := ba h
  obtain ⟨b12, b13⟩ := ba h
  refine ⟨eqO_ok b1, of_decide_eq_true b2, b3, ⟨cellB_ok b4, fileB_ok b5, top, PySem.W.mg_none_of X G (eqO_ok b6), Option.isSome_iff_exists.mp b7, of_decide_eq_true b8, eqO_ok b9, eqO_ok b10, of_decide_eq_true b11, oexB_ok b12⟩, oexB_ok b12, xfB_ok b13⟩
theorem funOfK {K : PySem.W.Frag} {x qual : Str} {st : Stmt} {f : Addr} {fd : FuncData} {kws : List (Str × V)} (F : FunD K x qual (defArgs st) (defBody st) (defScope st) [] kws f fd) : Fun K x qual st f fd := by
  obtain ⟨⟨oc, od, dV, kV, doc, pm, an, cdv, ct, osl, e, lk, hcd, hd, hk⟩, kp⟩ := F
  rcases hd with ⟨_, rfl⟩ | ⟨n, _⟩
  · exact ⟨⟨oc, od, kV, doc, pm, an, cdv, ct, osl, e, lk, hcd⟩, kp⟩
  · exact absurd rfl n
end
end Sk

namespace Sk
open PySem L2
theorem funOf {K : PySem.W.Frag} {x qual : Str} {st : Stmt} {f : Addr} {fd : FuncData} (F : FunD K x qual (defArgs st) (defBody st) (defScope st) [] [] f fd) : Fun K x qual st f fd := by
  obtain ⟨⟨oc, od, dV, kV, doc, pm, an, cdv, ct, osl, e, lk, hcd, hd, hk⟩, kp⟩ := F
  rcases hd with ⟨_, rfl⟩ | ⟨n, _⟩
  · exact ⟨⟨oc, od, kV, doc, pm, an, cdv, ct, osl, e, lk, hcd⟩, kp⟩
  · exact absurd rfl n
set_option genInjectivity false in
set_option genSizeOf false in
set_option genSizeOfSpec false in
structure Txt (P : Program) (K : PySem.W.Frag) (mg : Str → Option Value) where
  C_Layout : Addr
  C_Device : Addr
  C_Side : Addr
  C_Mirror : Addr
  C_Degraded : Addr
  C_NoMirror : Addr
  C_SegmentError : Addr
  f__law_take : Addr
  fd__law_take : FuncData
  F__law_take : Fun K "_law_take" "_law_take" s__law_take f__law_take fd__law_take
  b__law_take : Binds K fd__law_take ["box", "size"] []
  g__law_take : mg "_law_take" = some (.ref f__law_take)
  f_parts_of : Addr
  fd_parts_of : FuncData
  F_parts_of : Fun K "parts_of" "parts_of" s_parts_of f_parts_of fd_parts_of
  b_parts_of : Binds K fd_parts_of ["number", "size"] []
  g_parts_of : mg "parts_of" = some (.ref f_parts_of)
  f_Layout___init__ : Addr
  fd_Layout___init__ : FuncData
  F_Layout___init__ : Fun K "__init__" "Layout.__init__" s_Layout___init__ f_Layout___init__ fd_Layout___init__
  b_Layout___init__ : Binds K fd_Layout___init__ ["self", "segments", "segment_blocks", "block_size"] []
  mk_Layout : Mk K C_Layout f_Layout___init__
  f__law_layout : Addr
  fd__law_layout : FuncData
  F__law_layout : Fun K "_law_layout" "_law_layout" s__law_layout f__law_layout fd__law_layout
  b__law_layout : Binds K fd__law_layout ["box"] []
  g__law_layout : mg "_law_layout" = some (.ref f__law_layout)
  f__law_number : Addr
  fd__law_number : FuncData
  F__law_number : Fun K "_law_number" "_law_number" s__law_number f__law_number fd__law_number
  b__law_number : Binds K fd__law_number ["script", "k"] []
  g__law_number : mg "_law_number" = some (.ref f__law_number)
  f__law_low : Addr
  fd__law_low : FuncData
  F__law_low : Fun K "_law_low" "_law_low" s__law_low f__law_low fd__law_low
  b__law_low : Binds K fd__law_low ["number", "count"] []
  g__law_low : mg "_law_low" = some (.ref f__law_low)
  f__law_octets : Addr
  fd__law_octets : FuncData
  F__law_octets : Fun K "_law_octets" "_law_octets" s__law_octets f__law_octets fd__law_octets
  b__law_octets : Binds K fd__law_octets ["layout", "block"] []
  g__law_octets : mg "_law_octets" = some (.ref f__law_octets)
  f__law_check : Addr
  fd__law_check : FuncData
  F__law_check : Fun K "_law_check" "_law_check" s__law_check f__law_check fd__law_check
  b__law_check : Binds K fd__law_check ["layout", "address", "block"] []
  g__law_check : mg "_law_check" = some (.ref f__law_check)
  f__law_sealed : Addr
  fd__law_sealed : FuncData
  F__law_sealed : Fun K "_law_sealed" "_law_sealed" s__law_sealed f__law_sealed fd__law_sealed
  b__law_sealed : Binds K fd__law_sealed ["layout", "address", "block"] []
  g__law_sealed : mg "_law_sealed" = some (.ref f__law_sealed)
  f__law_label_block : Addr
  fd__law_label_block : FuncData
  F__law_label_block : Fun K "_law_label_block" "_law_label_block" s__law_label_block f__law_label_block fd__law_label_block
  b__law_label_block : Binds K fd__law_label_block ["layout", "seat", "label"] []
  g__law_label_block : mg "_law_label_block" = some (.ref f__law_label_block)
  f__law_label_cell : Addr
  fd__law_label_cell : FuncData
  F__law_label_cell : Fun K "_law_label_cell" "_law_label_cell" s__law_label_cell f__law_label_cell fd__law_label_cell
  b__law_label_cell : Binds K fd__law_label_cell ["layout", "seat", "label", "slot"] []
  g__law_label_cell : mg "_law_label_cell" = some (.ref f__law_label_cell)
  f__law_data : Addr
  fd__law_data : FuncData
  F__law_data : Fun K "_law_data" "_law_data" s__law_data f__law_data fd__law_data
  b__law_data : Binds K fd__law_data ["layout", "box"] []
  g__law_data : mg "_law_data" = some (.ref f__law_data)
  f_Device___init__ : Addr
  fd_Device___init__ : FuncData
  F_Device___init__ : FunD K "__init__" "Device.__init__" (defArgs s_Device___init__) (defBody s_Device___init__) (defScope s_Device___init__) [V.non] [] f_Device___init__ fd_Device___init__
  b_Device___init__ : Binds K fd_Device___init__ ["self", "layout", "blocks"] []
  mk_Device : Mk K C_Device f_Device___init__
  f_Side___init__ : Addr
  fd_Side___init__ : FuncData
  F_Side___init__ : FunD K "__init__" "Side.__init__" (defArgs s_Side___init__) (defBody s_Side___init__) (defScope s_Side___init__) [V.non] [] f_Side___init__ fd_Side___init__
  b_Side___init__ : Binds K fd_Side___init__ ["self", "layout", "seat", "cells"] []
  mk_Side : Mk K C_Side f_Side___init__
  f__law_labelled : Addr
  fd__law_labelled : FuncData
  F__law_labelled : Fun K "_law_labelled" "_law_labelled" s__law_labelled f__law_labelled fd__law_labelled
  b__law_labelled : Binds K fd__law_labelled ["layout", "seat", "box", "common"] []
  g__law_labelled : mg "_law_labelled" = some (.ref f__law_labelled)
  f__law_best : Addr
  fd__law_best : FuncData
  F__law_best : Fun K "_law_best" "_law_best" s__law_best f__law_best fd__law_best
  b__law_best : Binds K fd__law_best ["labels"] []
  g__law_best : mg "_law_best" = some (.ref f__law_best)
  f_is_newer : Addr
  fd_is_newer : FuncData
  F_is_newer : Fun K "is_newer" "is_newer" s_is_newer f_is_newer fd_is_newer
  b_is_newer : Binds K fd_is_newer ["label", "other"] []
  g_is_newer : mg "is_newer" = some (.ref f_is_newer)
  f_newest_label : Addr
  fd_newest_label : FuncData
  F_newest_label : Fun K "newest_label" "newest_label" s_newest_label f_newest_label fd_newest_label
  b_newest_label : Binds K fd_newest_label ["labels"] []
  g_newest_label : mg "newest_label" = some (.ref f_newest_label)
  f_seats_of_bits : Addr
  fd_seats_of_bits : FuncData
  F_seats_of_bits : Fun K "seats_of_bits" "seats_of_bits" s_seats_of_bits f_seats_of_bits fd_seats_of_bits
  b_seats_of_bits : Binds K fd_seats_of_bits ["octets"] []
  g_seats_of_bits : mg "seats_of_bits" = some (.ref f_seats_of_bits)
  f_number_of : Addr
  fd_number_of : FuncData
  F_number_of : Fun K "number_of" "number_of" s_number_of f_number_of fd_number_of
  b_number_of : Binds K fd_number_of ["octets"] []
  g_number_of : mg "number_of" = some (.ref f_number_of)
  f_bits_of_seats : Addr
  fd_bits_of_seats : FuncData
  F_bits_of_seats : Fun K "bits_of_seats" "bits_of_seats" s_bits_of_seats f_bits_of_seats fd_bits_of_seats
  b_bits_of_seats : Binds K fd_bits_of_seats ["seats"] []
  g_bits_of_seats : mg "bits_of_seats" = some (.ref f_bits_of_seats)
  f_number_octets : Addr
  fd_number_octets : FuncData
  F_number_octets : Fun K "number_octets" "number_octets" s_number_octets f_number_octets fd_number_octets
  b_number_octets : Binds K fd_number_octets ["number", "count"] []
  g_number_octets : mg "number_octets" = some (.ref f_number_octets)
  f_label_block : Addr
  fd_label_block : FuncData
  F_label_block : Fun K "label_block" "label_block" s_label_block f_label_block fd_label_block
  b_label_block : Binds K fd_label_block ["layout", "seat", "label"] []
  g_label_block : mg "label_block" = some (.ref f_label_block)
  f_label_of : Addr
  fd_label_of : FuncData
  F_label_of : Fun K "label_of" "label_of" s_label_of f_label_of fd_label_of
  b_label_of : Binds K fd_label_of ["layout", "seat", "block"] []
  g_label_of : mg "label_of" = some (.ref f_label_of)
  f_Device_read : Addr
  fd_Device_read : FuncData
  F_Device_read : Fun K "read" "Device.read" s_Device_read f_Device_read fd_Device_read
  b_Device_read : Binds K fd_Device_read ["self", "address"] []
  m_Device_read : Meth K C_Device "read" f_Device_read
  f_pairs_of : Addr
  fd_pairs_of : FuncData
  F_pairs_of : Fun K "pairs_of" "pairs_of" s_pairs_of f_pairs_of fd_pairs_of
  b_pairs_of : Binds K fd_pairs_of ["numbers"] []
  g_pairs_of : mg "pairs_of" = some (.ref f_pairs_of)
  f_summary_octets : Addr
  fd_summary_octets : FuncData
  F_summary_octets : Fun K "summary_octets" "summary_octets" s_summary_octets f_summary_octets fd_summary_octets
  b_summary_octets : Binds K fd_summary_octets ["layout", "mark", "numbers", "action"] []
  g_summary_octets : mg "summary_octets" = some (.ref f_summary_octets)
  f_bits_of : Addr
  fd_bits_of : FuncData
  F_bits_of : Fun K "bits_of" "bits_of" s_bits_of f_bits_of fd_bits_of
  b_bits_of : Binds K fd_bits_of ["used", "last_id"] []
  g_bits_of : mg "bits_of" = some (.ref f_bits_of)
  f_body_octets : Addr
  fd_body_octets : FuncData
  F_body_octets : Fun K "body_octets" "body_octets" s_body_octets f_body_octets fd_body_octets
  b_body_octets : Binds K fd_body_octets ["layout", "kind", "body"] []
  g_body_octets : mg "body_octets" = some (.ref f_body_octets)
  f_block_octets : Addr
  fd_block_octets : FuncData
  F_block_octets : Fun K "block_octets" "block_octets" s_block_octets f_block_octets fd_block_octets
  b_block_octets : Binds K fd_block_octets ["layout", "block"] []
  g_block_octets : mg "block_octets" = some (.ref f_block_octets)
  f_check_of : Addr
  fd_check_of : FuncData
  F_check_of : Fun K "check_of" "check_of" s_check_of f_check_of fd_check_of
  b_check_of : Binds K fd_check_of ["layout", "address", "block"] []
  g_check_of : mg "check_of" = some (.ref f_check_of)
  f_is_whole : Addr
  fd_is_whole : FuncData
  F_is_whole : Fun K "is_whole" "is_whole" s_is_whole f_is_whole fd_is_whole
  b_is_whole : Binds K fd_is_whole ["layout", "address", "cell"] []
  g_is_whole : mg "is_whole" = some (.ref f_is_whole)
  f_Side_read : Addr
  fd_Side_read : FuncData
  F_Side_read : Fun K "read" "Side.read" s_Side_read f_Side_read fd_Side_read
  b_Side_read : Binds K fd_Side_read ["self", "address"] []
  m_Side_read : Meth K C_Side "read" f_Side_read
  f_Side_labels : Addr
  fd_Side_labels : FuncData
  F_Side_labels : Fun K "labels" "Side.labels" s_Side_labels f_Side_labels fd_Side_labels
  b_Side_labels : Binds K fd_Side_labels ["self"] []
  m_Side_labels : Meth K C_Side "labels" f_Side_labels
  f_Side_label : Addr
  fd_Side_label : FuncData
  F_Side_label : Fun K "label" "Side.label" s_Side_label f_Side_label fd_Side_label
  b_Side_label : Binds K fd_Side_label ["self"] []
  m_Side_label : Meth K C_Side "label" f_Side_label
  f_label_to_follow : Addr
  fd_label_to_follow : FuncData
  F_label_to_follow : Fun K "label_to_follow" "label_to_follow" s_label_to_follow f_label_to_follow fd_label_to_follow
  b_label_to_follow : Binds K fd_label_to_follow ["sides"] []
  g_label_to_follow : mg "label_to_follow" = some (.ref f_label_to_follow)
  f_Side_settled : Addr
  fd_Side_settled : FuncData
  F_Side_settled : Fun K "settled" "Side.settled" s_Side_settled f_Side_settled fd_Side_settled
  b_Side_settled : Binds K fd_Side_settled ["self"] []
  m_Side_settled : Meth K C_Side "settled" f_Side_settled
  f_is_next : Addr
  fd_is_next : FuncData
  F_is_next : Fun K "is_next" "is_next" s_is_next f_is_next fd_is_next
  b_is_next : Binds K fd_is_next ["label", "own"] []
  g_is_next : mg "is_next" = some (.ref f_is_next)
  f_is_current : Addr
  fd_is_current : FuncData
  F_is_current : Fun K "is_current" "is_current" s_is_current f_is_current fd_is_current
  b_is_current : Binds K fd_is_current ["side", "label"] []
  g_is_current : mg "is_current" = some (.ref f_is_current)
  f_Degraded___init__ : Addr
  fd_Degraded___init__ : FuncData
  co_Degraded : Addr
  ce_Degraded : Addr
  F_Degraded___init__ : SupFun K "__init__" "Degraded.__init__" s_Degraded___init__ co_Degraded ce_Degraded f_Degraded___init__ fd_Degraded___init__
  z_Degraded : SupC P K mg C_Degraded co_Degraded ce_Degraded
  ox_Degraded : OexC K C_Degraded
  iC_Degraded : PySem.W.findIn K (.ref C_Degraded) "__init__" = some (some (.ref f_Degraded___init__))
  tI_Degraded : PySem.W.typeIn K (.ref f_Degraded___init__) = some (.type "function")
  b_Degraded___init__ : Binds K fd_Degraded___init__ ["self", "missing"] []
  xf_Degraded : XfC K C_Degraded
  f_fork_of : Addr
  fd_fork_of : FuncData
  F_fork_of : Fun K "fork_of" "fork_of" s_fork_of f_fork_of fd_fork_of
  b_fork_of : Binds K fd_fork_of ["generation", "seat"] []
  g_fork_of : mg "fork_of" = some (.ref f_fork_of)
  f_first_whole : Addr
  fd_first_whole : FuncData
  F_first_whole : Fun K "first_whole" "first_whole" s_first_whole f_first_whole fd_first_whole
  b_first_whole : Binds K fd_first_whole ["sides", "address"] []
  g_first_whole : mg "first_whole" = some (.ref f_first_whole)
  f_Mirror___init__ : Addr
  fd_Mirror___init__ : FuncData
  e_Mirror___init__ : Addr
  F_Mirror___init__ : FunD K "__init__" "Mirror.__init__" (defArgs s_Mirror___init__) (defBody s_Mirror___init__) (defScope s_Mirror___init__) [V.ref e_Mirror___init__] [] f_Mirror___init__ fd_Mirror___init__
  b_Mirror___init__ : Binds K fd_Mirror___init__ ["self", "layout", "sides", "generation", "forks"] []
  mk_Mirror : Mk K C_Mirror f_Mirror___init__
  f_Mirror_cut_after : Addr
  fd_Mirror_cut_after : FuncData
  F_Mirror_cut_after : Fun K "cut_after" "Mirror.cut_after" s_Mirror_cut_after f_Mirror_cut_after fd_Mirror_cut_after
  b_Mirror_cut_after : Binds K fd_Mirror_cut_after ["self", "count"] []
  m_Mirror_cut_after : Meth K C_Mirror "cut_after" f_Mirror_cut_after
  f_sealed : Addr
  fd_sealed : FuncData
  F_sealed : Fun K "sealed" "sealed" s_sealed f_sealed fd_sealed
  b_sealed : Binds K fd_sealed ["layout", "address", "block"] []
  g_sealed : mg "sealed" = some (.ref f_sealed)
  f_Device_cut_after : Addr
  fd_Device_cut_after : FuncData
  F_Device_cut_after : Fun K "cut_after" "Device.cut_after" s_Device_cut_after f_Device_cut_after fd_Device_cut_after
  b_Device_cut_after : Binds K fd_Device_cut_after ["self", "count"] []
  m_Device_cut_after : Meth K C_Device "cut_after" f_Device_cut_after
  f_Mirror_count_command : Addr
  fd_Mirror_count_command : FuncData
  F_Mirror_count_command : Fun K "count_command" "Mirror.count_command" s_Mirror_count_command f_Mirror_count_command fd_Mirror_count_command
  b_Mirror_count_command : Binds K fd_Mirror_count_command ["self"] []
  m_Mirror_count_command : Meth K C_Mirror "count_command" f_Mirror_count_command
  f_Device__count_command : Addr
  fd_Device__count_command : FuncData
  F_Device__count_command : Fun K "_count_command" "Device._count_command" s_Device__count_command f_Device__count_command fd_Device__count_command
  b_Device__count_command : Binds K fd_Device__count_command ["self"] []
  m_Device__count_command : Meth K C_Device "_count_command" f_Device__count_command
  f_Device_write : Addr
  fd_Device_write : FuncData
  F_Device_write : Fun K "write" "Device.write" s_Device_write f_Device_write fd_Device_write
  b_Device_write : Binds K fd_Device_write ["self", "address", "block"] []
  m_Device_write : Meth K C_Device "write" f_Device_write
  f_Side_write : Addr
  fd_Side_write : FuncData
  F_Side_write : Fun K "write" "Side.write" s_Side_write f_Side_write fd_Side_write
  b_Side_write : Binds K fd_Side_write ["self", "address", "block"] []
  m_Side_write : Meth K C_Side "write" f_Side_write
  f_Device_barrier : Addr
  fd_Device_barrier : FuncData
  F_Device_barrier : Fun K "barrier" "Device.barrier" s_Device_barrier f_Device_barrier fd_Device_barrier
  b_Device_barrier : Binds K fd_Device_barrier ["self"] []
  m_Device_barrier : Meth K C_Device "barrier" f_Device_barrier
  f_Side_barrier : Addr
  fd_Side_barrier : FuncData
  F_Side_barrier : Fun K "barrier" "Side.barrier" s_Side_barrier f_Side_barrier fd_Side_barrier
  b_Side_barrier : Binds K fd_Side_barrier ["self"] []
  m_Side_barrier : Meth K C_Side "barrier" f_Side_barrier
  f_Mirror_copy_to : Addr
  fd_Mirror_copy_to : FuncData
  F_Mirror_copy_to : Fun K "copy_to" "Mirror.copy_to" s_Mirror_copy_to f_Mirror_copy_to fd_Mirror_copy_to
  b_Mirror_copy_to : Binds K fd_Mirror_copy_to ["self", "side", "content"] []
  m_Mirror_copy_to : Meth K C_Mirror "copy_to" f_Mirror_copy_to
  f_Mirror_members : Addr
  fd_Mirror_members : FuncData
  F_Mirror_members : Fun K "members" "Mirror.members" s_Mirror_members f_Mirror_members fd_Mirror_members
  b_Mirror_members : Binds K fd_Mirror_members ["self"] []
  m_Mirror_members : Meth K C_Mirror "members" f_Mirror_members
  f_Side_write_label : Addr
  fd_Side_write_label : FuncData
  F_Side_write_label : Fun K "write_label" "Side.write_label" s_Side_write_label f_Side_write_label fd_Side_write_label
  b_Side_write_label : Binds K fd_Side_write_label ["self", "label"] []
  m_Side_write_label : Meth K C_Side "write_label" f_Side_write_label
  f_Mirror_write_labels : Addr
  fd_Mirror_write_labels : FuncData
  F_Mirror_write_labels : Fun K "write_labels" "Mirror.write_labels" s_Mirror_write_labels f_Mirror_write_labels fd_Mirror_write_labels
  b_Mirror_write_labels : Binds K fd_Mirror_write_labels ["self", "sides", "label"] []
  m_Mirror_write_labels : Meth K C_Mirror "write_labels" f_Mirror_write_labels
  f_Mirror_relabel : Addr
  fd_Mirror_relabel : FuncData
  F_Mirror_relabel : Fun K "relabel" "Mirror.relabel" s_Mirror_relabel f_Mirror_relabel fd_Mirror_relabel
  b_Mirror_relabel : Binds K fd_Mirror_relabel ["self", "before"] []
  m_Mirror_relabel : Meth K C_Mirror "relabel" f_Mirror_relabel
  f_Mirror_clear_labels : Addr
  fd_Mirror_clear_labels : FuncData
  F_Mirror_clear_labels : Fun K "clear_labels" "Mirror.clear_labels" s_Mirror_clear_labels f_Mirror_clear_labels fd_Mirror_clear_labels
  b_Mirror_clear_labels : Binds K fd_Mirror_clear_labels ["self", "side"] []
  m_Mirror_clear_labels : Meth K C_Mirror "clear_labels" f_Mirror_clear_labels
  f_Mirror_read : Addr
  fd_Mirror_read : FuncData
  F_Mirror_read : Fun K "read" "Mirror.read" s_Mirror_read f_Mirror_read fd_Mirror_read
  b_Mirror_read : Binds K fd_Mirror_read ["self", "address"] []
  m_Mirror_read : Meth K C_Mirror "read" f_Mirror_read
  f_Mirror_content : Addr
  fd_Mirror_content : FuncData
  F_Mirror_content : Fun K "content" "Mirror.content" s_Mirror_content f_Mirror_content fd_Mirror_content
  b_Mirror_content : Binds K fd_Mirror_content ["self"] []
  m_Mirror_content : Meth K C_Mirror "content" f_Mirror_content
  f_Mirror_join : Addr
  fd_Mirror_join : FuncData
  F_Mirror_join : Fun K "join" "Mirror.join" s_Mirror_join f_Mirror_join fd_Mirror_join
  b_Mirror_join : Binds K fd_Mirror_join ["self", "side", "stale"] []
  m_Mirror_join : Meth K C_Mirror "join" f_Mirror_join
  f_assemble : Addr
  fd_assemble : FuncData
  F_assemble : Fun K "assemble" "assemble" s_assemble f_assemble fd_assemble
  kb_assemble : KBn K fd_assemble ["seats", "force", "cut"] 1 ["force", "cut"] (fun us ws => us ++ ws) (fun vs zs => vs ++ zs)
  mv_assemble__force : List Value
  kb_assemble__force : KBn K fd_assemble ["seats", "force", "cut"] 1 ["force"] (fun us ws => us ++ ws ++ mv_assemble__force) (fun us ws => us ++ ws ++ [V.non])
  g_assemble : mg "assemble" = some (.ref f_assemble)
  f__law_fault : Addr
  fd__law_fault : FuncData
  F__law_fault : Fun K "_law_fault" "_law_fault" s__law_fault f__law_fault fd__law_fault
  b__law_fault : Binds K fd__law_fault ["seats", "force"] []
  g__law_fault : mg "_law_fault" = some (.ref f__law_fault)
  f__law_current : Addr
  fd__law_current : FuncData
  F__law_current : Fun K "_law_current" "_law_current" s__law_current f__law_current fd__law_current
  b__law_current : Binds K fd__law_current ["row", "label"] []
  g__law_current : mg "_law_current" = some (.ref f__law_current)
  f_Device_pending : Addr
  fd_Device_pending : FuncData
  F_Device_pending : Fun K "pending" "Device.pending" s_Device_pending f_Device_pending fd_Device_pending
  b_Device_pending : Binds K fd_Device_pending ["self"] []
  m_Device_pending : Meth K C_Device "pending" f_Device_pending
  f_Side_pending : Addr
  fd_Side_pending : FuncData
  F_Side_pending : Fun K "pending" "Side.pending" s_Side_pending f_Side_pending fd_Side_pending
  b_Side_pending : Binds K fd_Side_pending ["self"] []
  m_Side_pending : Meth K C_Side "pending" f_Side_pending
  f_Mirror_pending : Addr
  fd_Mirror_pending : FuncData
  F_Mirror_pending : Fun K "pending" "Mirror.pending" s_Mirror_pending f_Mirror_pending fd_Mirror_pending
  b_Mirror_pending : Binds K fd_Mirror_pending ["self"] []
  m_Mirror_pending : Meth K C_Mirror "pending" f_Mirror_pending
  f_Mirror_was_cut : Addr
  fd_Mirror_was_cut : FuncData
  F_Mirror_was_cut : Fun K "was_cut" "Mirror.was_cut" s_Mirror_was_cut f_Mirror_was_cut fd_Mirror_was_cut
  b_Mirror_was_cut : Binds K fd_Mirror_was_cut ["self"] []
  m_Mirror_was_cut : Meth K C_Mirror "was_cut" f_Mirror_was_cut
  f__law_made : Addr
  fd__law_made : FuncData
  F__law_made : Fun K "_law_made" "_law_made" s__law_made f__law_made fd__law_made
  b__law_made : Binds K fd__law_made ["layout", "mirror", "rows", "label", "forks"] []
  g__law_made : mg "_law_made" = some (.ref f__law_made)
  f_Device_sure_blocks : Addr
  fd_Device_sure_blocks : FuncData
  F_Device_sure_blocks : Fun K "sure_blocks" "Device.sure_blocks" s_Device_sure_blocks f_Device_sure_blocks fd_Device_sure_blocks
  b_Device_sure_blocks : Binds K fd_Device_sure_blocks ["self"] []
  m_Device_sure_blocks : Meth K C_Device "sure_blocks" f_Device_sure_blocks
  f_law : Addr
  fd_law : FuncData
  F_law : Fun K "law" "law" s_law f_law fd_law
  b_law : Binds K fd_law ["script"] []
  g_law : mg "law" = some (.ref f_law)
  cl_Layout : Cls K C_Layout
  cl_Device : Cls K C_Device
  cl_Side : Cls K C_Side
  cl_Mirror : Cls K C_Mirror
  g_Layout : mg "Layout" = some (.ref C_Layout)
  g_Device : mg "Device" = some (.ref C_Device)
  g_Side : mg "Side" = some (.ref C_Side)
  g_Mirror : mg "Mirror" = some (.ref C_Mirror)
  g_Degraded : mg "Degraded" = some (.ref C_Degraded)
  g_NoMirror : mg "NoMirror" = some (.ref C_NoMirror)
  g_SegmentError : mg "SegmentError" = some (.ref C_SegmentError)
  xP_NoMirror : PySem.W.excIn K C_NoMirror [.type "ValueError", .type "Exception", .type "BaseException", .type "object"] "ValueError.__new__" = true
  kP_NoMirror : PySem.W.keepIn K (.ref C_NoMirror) = true
  bP_NoMirror : PySem.W.subIn K (.ref C_NoMirror) (.type "BaseException") = some true
  tP_NoMirror : PySem.W.typeIn K (.ref C_NoMirror) = some (.type "type")
  em_NoMirror_SegmentError : PySem.W.exmOne K (.ref C_NoMirror) (.ref C_SegmentError) = some true
  em_Degraded_SegmentError : PySem.W.exmOne K (.ref C_Degraded) (.ref C_SegmentError) = some true
  ec_NoMirror : ExcC K C_NoMirror
  ke_NoMirror_Degraded : PySem.W.kitOne K (.ref C_NoMirror) (.ref C_Degraded) = some false
  ke_NoMirror_NoMirror : PySem.W.kitOne K (.ref C_NoMirror) (.ref C_NoMirror) = some true
  is_Degraded_Degraded : PySem.W.isIn K (.ref C_Degraded) C_Degraded = true
  a_Layout_segments : NoAttr K C_Layout "segments"
  a_Layout_segment_blocks : NoAttr K C_Layout "segment_blocks"
  a_Layout_block_size : NoAttr K C_Layout "block_size"
  a_Layout_payload : NoAttr K C_Layout "payload"
  a_Layout_limit : NoAttr K C_Layout "limit"
  a_Layout_last_id : NoAttr K C_Layout "last_id"
  a_Layout_fan : NoAttr K C_Layout "fan"
  a_Layout_region_blocks : NoAttr K C_Layout "region_blocks"
  a_Layout_device_blocks : NoAttr K C_Layout "device_blocks"
  a_Device_layout : NoAttr K C_Device "layout"
  a_Device_sure : NoAttr K C_Device "sure"
  a_Device_seen : NoAttr K C_Device "seen"
  a_Device_waiting : NoAttr K C_Device "waiting"
  a_Device_fuse : NoAttr K C_Device "fuse"
  a_Device_dark : NoAttr K C_Device "dark"
  a_Side_layout : NoAttr K C_Side "layout"
  a_Side_seat : NoAttr K C_Side "seat"
  a_Side_device : NoAttr K C_Side "device"
  a_Degraded_missing : PySem.W.findIn K (.ref C_Degraded) "missing" = some none
  a_Mirror_layout : NoAttr K C_Mirror "layout"
  a_Mirror_sides : NoAttr K C_Mirror "sides"
  a_Mirror_guests : NoAttr K C_Mirror "guests"
  a_Mirror_generation : NoAttr K C_Mirror "generation"
  a_Mirror_forks : NoAttr K C_Mirror "forks"
  a_Mirror_fuse : NoAttr K C_Mirror "fuse"
  a_Mirror_dark : NoAttr K C_Mirror "dark"
  n_int : mg "int" = none
  n_len : mg "len" = none
  n_range : mg "range" = none
  n_list : mg "list" = none
  n_tuple : mg "tuple" = none
  n_reversed : mg "reversed" = none
  n_enumerate : mg "enumerate" = none
  n_sorted : mg "sorted" = none
  n_isinstance : mg "isinstance" = none
  n_sum : mg "sum" = none
  u_MOST_SEGMENTS : Value
  g_MOST_SEGMENTS : mg "MOST_SEGMENTS" = some u_MOST_SEGMENTS
  r_MOST_SEGMENTS : RelV (.int 16) u_MOST_SEGMENTS
  u_LEAST_SEGMENTS : Value
  g_LEAST_SEGMENTS : mg "LEAST_SEGMENTS" = some u_LEAST_SEGMENTS
  r_LEAST_SEGMENTS : RelV (.int 4) u_LEAST_SEGMENTS
  u_MOST_BLOCKS : Value
  g_MOST_BLOCKS : mg "MOST_BLOCKS" = some u_MOST_BLOCKS
  r_MOST_BLOCKS : RelV (.int 32) u_MOST_BLOCKS
  u_LEAST_BLOCKS : Value
  g_LEAST_BLOCKS : mg "LEAST_BLOCKS" = some u_LEAST_BLOCKS
  r_LEAST_BLOCKS : RelV (.int 16) u_LEAST_BLOCKS
  u_HEAD_OCTETS : Value
  g_HEAD_OCTETS : mg "HEAD_OCTETS" = some u_HEAD_OCTETS
  r_HEAD_OCTETS : RelV (.int 16) u_HEAD_OCTETS
  u_SLOTS : Value
  g_SLOTS : mg "SLOTS" = some u_SLOTS
  r_SLOTS : RelV (.int 3) u_SLOTS
  u_LABELS : Value
  g_LABELS : mg "LABELS" = some u_LABELS
  r_LABELS : RelV (.int 2) u_LABELS
  u_SEATS : Value
  g_SEATS : mg "SEATS" = some u_SEATS
  r_SEATS : RelV (.int 3) u_SEATS
  c_LETTERS_labels : Addr
  g_LETTERS_labels : mg "LETTERS_labels" = some (.ref c_LETTERS_labels)
  r_LETTERS_labels : RelV (.ref c_LETTERS_labels) (.ref c_LETTERS_labels)
  q_LETTERS_labels : ∀ H : Hp, SqT K H c_LETTERS_labels [.int 83, .int 73, .int 68, .int 69]
  u_FORK_OCTETS : Value
  g_FORK_OCTETS : mg "FORK_OCTETS" = some u_FORK_OCTETS
  r_FORK_OCTETS : RelV (.int 3) u_FORK_OCTETS
  u_DATA : Value
  g_DATA : mg "DATA" = some u_DATA
  r_DATA : RelV (.int 3) u_DATA
  u_MEMBERS_AT : Value
  g_MEMBERS_AT : mg "MEMBERS_AT" = some u_MEMBERS_AT
  r_MEMBERS_AT : RelV (.int 6) u_MEMBERS_AT
  u_COUNT_AT : Value
  g_COUNT_AT : mg "COUNT_AT" = some u_COUNT_AT
  r_COUNT_AT : RelV (.int 12) u_COUNT_AT
  u_MOST_FORKS : Value
  g_MOST_FORKS : mg "MOST_FORKS" = some u_MOST_FORKS
  r_MOST_FORKS : RelV (.int 16) u_MOST_FORKS
  u_FORKS_AT : Value
  g_FORKS_AT : mg "FORKS_AT" = some u_FORKS_AT
  r_FORKS_AT : RelV (.int 13) u_FORKS_AT
  c_LETTERS_bodies : Addr
  g_LETTERS_bodies : mg "LETTERS_bodies" = some (.ref c_LETTERS_bodies)
  r_LETTERS_bodies : RelV (.ref c_LETTERS_bodies) (.ref c_LETTERS_bodies)
  q_LETTERS_bodies : ∀ H : Hp, SqT K H c_LETTERS_bodies [.int 83, .int 71, .int 70, .int 83]
  u_HEADER : Value
  g_HEADER : mg "HEADER" = some u_HEADER
  r_HEADER : RelV (.int 16) u_HEADER
  c_BITS : Addr
  g_BITS : mg "BITS" = some (.ref c_BITS)
  r_BITS : RelV (.ref c_BITS) (.ref c_BITS)
  q_BITS : ∀ H : Hp, SqT K H c_BITS [.int 1, .int 2, .int 4, .int 8, .int 16, .int 32, .int 64, .int 128]
  u_COMMIT : Value
  g_COMMIT : mg "COMMIT" = some u_COMMIT
  r_COMMIT : RelV (.int 1) u_COMMIT
  u_MOVE : Value
  g_MOVE : mg "MOVE" = some u_MOVE
  r_MOVE : RelV (.int 2) u_MOVE
  u_SPARE : Value
  g_SPARE : mg "SPARE" = some u_SPARE
  r_SPARE : RelV (.int 16) u_SPARE
  u_FACTOR : Value
  g_FACTOR : mg "FACTOR" = some u_FACTOR
  r_FACTOR : RelV (.int 257) u_FACTOR
  u_PRIME : Value
  g_PRIME : mg "PRIME" = some u_PRIME
  r_PRIME : RelV (.int 4294967291) u_PRIME
local macro_rules | `(tactic| fail "ne") => `(tactic| first
  | assumption
  | exact Ne.symm (by assumption)
  | exact Free.ne (by with_reducible assumption) (by fail "hp")
  | exact Ne.symm (Free.ne (by with_reducible assumption) (by fail "hp")))
local macro_rules | `(tactic| fail "rp") => `(tactic| first
  | assumption
  | exact Gr.rr (by assumption) _ _ (by fail "rp"))
local macro_rules | `(tactic| fail "nm") => `(tactic| first
  | exact List.not_mem_nil
  | (rw [List.mem_singleton]; fail "ne")
  | (simp only [List.mem_cons, List.not_mem_nil, not_or, or_false]; (repeat' constructor) <;> fail "ne"))
local macro_rules | `(tactic| fail "hp") => `(tactic| first
  | assumption
  | (with_reducible exact upd_same)
  | ((with_reducible show upd _ _ _ _ = _); refine Eq.trans (upd_ne ?_) ?_; (fail "ne"); (fail "hp"))
  | exact (show Same _ _ by assumption) _ _ (by fail "rp")
  | exact Gr.hh (by assumption) _ _ (by fail "nm") (by fail "hp")
  | exact Gr.hh (Mu.g (by assumption)) _ _ (by fail "nm") (by fail "hp"))
local macro_rules | `(tactic| fail "sr") => `(tactic| first
  | assumption
  | exact SqL.of (by assumption)
  | exact SqT.of (by assumption)
  | exact sqL_mono (Gr.rr (by assumption)) (by fail "sr")
  | exact sqT_mono (Gr.rr (by assumption)) (by fail "sr"))
local macro_rules | `(tactic| fail "sq") => `(tactic| first
  | assumption
  | exact SqL.of (by fail "hp")
  | exact SqT.of (by fail "hp")
  | exact sqL_mono (show Same _ _ by assumption) (by fail "sr")
  | exact sqT_mono (show Same _ _ by assumption) (by fail "sr"))
local macro_rules | `(tactic| fail "dr") => `(tactic| first
  | assumption
  | ((with_reducible show DpAll _ _ _ _); first
    | exact DpAll.nil
    | (refine DpAll.cons ?_ ?_ <;> fail "dr")
    | exact dpAll_mono (Gr.rr (by assumption)) (by fail "dr"))
  | ((with_reducible show Dp _ _ _ _); first
    | exact Dp.non
    | exact Dp.int _
    | exact Dp.str _
    | exact Dp.bl _
    | exact Dp.tup (SqT.of (by fail "rp")) (by fail "dr")
    | exact Dp.lst (SqL.of (by fail "rp")) (by fail "dr")
    | exact dp_mono (Gr.rr (by assumption)) (by fail "dr")))
local macro_rules | `(tactic| fail "dp") => `(tactic| first
  | assumption
  | ((with_reducible show DpAll _ _ _ _); exact dpAll_mono (show Same _ _ by assumption) (by fail "dr"))
  | ((with_reducible show Dp _ _ _ _); first
    | exact Dp.non
    | exact Dp.int _
    | exact Dp.str _
    | exact Dp.bl _
    | exact dp_mono (show Same _ _ by assumption) (by fail "dr")))
local macro_rules | `(tactic| fail "gr") => `(tactic| first
  | assumption
  | exact Gr.nil (by assumption)
  | exact Mu.g (by assumption)
  | exact Gr.nil (Mu.g (by assumption))
  | (refine Gr.trans ?_ (by first | assumption | exact Gr.nil (by assumption) | exact Mu.g (by assumption) | exact Gr.nil (Mu.g (by assumption))); fail "gr")
  | exact Gr.refl (by assumption))
local macro_rules | `(tactic| fail "rn") => `(tactic| first
  | assumption
  | exact Gr.frI (by assumption) (by fail "hp") (by fail "rn"))
local macro_rules | `(tactic| fail "newR") => `(tactic| (
  intro p n; generalize hq : upd _ p _ = H1; have z := newR_ex (by assumption) n hq; obtain ⟨R1, f, g, h, s⟩ := z; clear hq n))
local macro_rules | `(tactic| fail "newM") => `(tactic| (
  intro p n; generalize hq : upd _ p _ = H1; have z := newM_ex (by assumption) n hq; obtain ⟨f, g, m, h, s⟩ := z; clear hq n))
local macro_rules | `(tactic| fail "ret") => `(tactic| (
  intro p H1 sk n h; have z := call_ex (by assumption) sk n; obtain ⟨f, g, m, s⟩ := z; clear sk n))
local macro_rules | `(tactic| fail "mut") => `(tactic| (
  generalize hq : upd _ _ _ = H1; have z := mut_ex (by assumption) (by fail "rn") (by fail "hp") hq; obtain ⟨g, h, s⟩ := z; clear hq))
local macro_rules | `(tactic| fail "ar") => `(tactic| first
  | assumption
  | decide
  | omega
  | exact Or.inr ⟨by decide, by decide⟩
  | exact Or.inl ⟨by decide, by decide⟩
  | exact ⟨by decide, by decide, by decide⟩
  | exact ⟨by omega, by omega⟩
  | exact Or.inr ⟨by omega, by omega⟩
  | exact Or.inl ⟨by omega, by omega⟩)
local macro_rules | `(tactic| fail "st") => `(tactic| first
  | (with_reducible refine g_seqA ?_)
  | (with_reducible refine g_seqI ?_)
  | (with_reducible refine g_seqFor ?_)
  | (with_reducible refine g_seqD ?_)
  | (with_reducible refine g_seqS ?_)
  | (with_reducible refine g_seq ?_)
  | (with_reducible refine g_asg ?_)
  | (with_reducible refine g_asgS ?_)
  | (with_reducible refine g_drop ?_)
  | (with_reducible refine g_if ?_)
  | (with_reducible refine g_ret ?_)
  | (with_reducible refine g_retN ?_)
  | (with_reducible refine g_next ?_)
  | (with_reducible refine g_op ?_)
  | (with_reducible refine g_un ?_)
  | (with_reducible refine g_c ?_)
  | ((with_reducible show tVar _ _ _ _); refine g_var rfl ?_)
  | (with_reducible refine g_add ?_)
  | (with_reducible refine g_sub ?_)
  | (with_reducible refine g_neg ?_)
  | (with_reducible refine g_cmp ?_)
  | (with_reducible refine g_eqI ?_)
  | (with_reducible refine g_eqS ?_)
  | (with_reducible refine g_neI ?_)
  | (with_reducible refine g_neS ?_)
  | (with_reducible refine g_isN ?_)
  | (with_reducible refine g_notN ?_)
  | (with_reducible refine g_isB ?_)
  | (with_reducible refine g_notB ?_)
  | ((with_reducible refine g_mul ?_ ?_); (fail "ar"))
  | ((with_reducible refine g_mod ?_ ?_); (fail "ar"))
  | ((with_reducible refine g_div ?_ ?_); (fail "ar"))
  | ((with_reducible refine g_pow ?_ ?_); (fail "ar"))
  | (with_reducible refine g_nil ?_)
  | (with_reducible refine g_cons ?_)
  | (with_reducible refine g_cb ?_)
  | (with_reducible refine g_tup ?_)
  | (with_reducible refine g_lst ?_)
  | (with_reducible refine g_test ?_)
  | (with_reducible refine g_tB ?_)
  | (with_reducible refine g_yes ?_)
  | (with_reducible refine g_truth ?_)
  | (with_reducible refine g_bl ?_)
  | (with_reducible refine g_not ?_)
  | (with_reducible refine g_and ?_)
  | (with_reducible refine g_or ?_)
  | (with_reducible refine g_ife ?_)
  | (with_reducible refine g_andV ?_)
  | (with_reducible refine g_orV ?_)
  | (with_reducible refine g_notV ?_)
  | (with_reducible refine g_int ?_)
  | (with_reducible refine g_intB ?_)
  | (with_reducible refine g_for ?_)
  | (with_reducible refine g_gName ?_)
  | (with_reducible refine g_call ?_)
  | ((with_reducible show tCallS _ _ _ _ _ _); unfold tCallS)
  | (with_reducible refine g_lc ?_)
  | (with_reducible refine g_iList ?_)
  | (with_reducible refine g_iTup ?_)
  | (with_reducible refine g_seqT ?_)
  | (with_reducible refine g_asgT ?_)
  | (with_reducible refine g_gCons ?_)
  | (with_reducible refine g_gNil ?_)
  | ((with_reducible show gTup _ _ _ (.ref _) _ _ _); refine g_gTup (by fail "sq") (by exact rfl) ?_)
  | (with_reducible refine g_iR1 ?_)
  | (with_reducible refine g_iR2 ?_)
  | (with_reducible refine g_iEnum ?_)
  | (with_reducible refine g_iRev ?_)
  | (with_reducible refine g_iteT rfl ?_)
  | (with_reducible refine g_iteF rfl ?_)
  | (with_reducible refine g_sl ?_)
  | (with_reducible refine g_part ?_)
  | (with_reducible refine g_partW ?_)
  | (with_reducible refine g_noPart ?_)
  | (with_reducible refine g_fld ?_)
  | (with_reducible refine g_seqF ?_)
  | (with_reducible refine g_sfld ?_)
  | (with_reducible refine g_bm ?_)
  | (with_reducible refine g_bm0 ?_)
  | (with_reducible refine g_meth ?_)
  | (with_reducible refine g_make ?_)
  | ((with_reducible show FldW _ (.ref _) _ _ _); refine g_fldW (by fail "hp") (by assumption) (by assumption) (by rfl) ?_)
  | ((with_reducible show MW _ _ (.ref _) _ _); refine g_MW (by fail "hp") (by rfl) ?_)
  | ((with_reducible show SetW _ (.ref _) _ _ _ _); refine g_setW (by fail "hp") (by assumption) (by assumption) (by (simp only [List.length_cons, List.length_nil]; decide)) ?_; fail "putf"; try fail "mut")
  | ((with_reducible show tyV _ "list" (.ref _) _ ∧ _); refine g_tyL (by fail "hp") ?_)
  | ((with_reducible show rAppend (.ref _) [_] _ _); refine g_app (by fail "hp") (by fail "sz") ?_; try fail "mut")
  | ((with_reducible show rLenU _ [_] _ _); first | refine g_lenL (by fail "sq") ?_ | refine g_lenT (by fail "sq") ?_)
  | ((with_reducible first | show rIx _ _ (.int (@OfNat.ofNat Int _ _)) _ _ | show rIx _ _ (.int (-(@OfNat.ofNat Int _ _))) _ _); first | refine g_ixL (by fail "sq") (by exact rfl) ?_ | refine g_ixT (by fail "sq") (by exact rfl) ?_)
  | ((with_reducible show rSetL _ _ _ _ _); refine g_setL (by fail "hp") (by first | exact rfl | assumption) ?_)
  | (dsimp only))
local macro_rules | `(tactic| fail "gi") => `(tactic| repeat ((fail_if_success (with_reducible show tSeq (tIfS _ _ _) _ _ _ _)); fail "st"))
local macro_rules | `(tactic| fail "go") => `(tactic| repeat (fail "st"))
local macro_rules | `(tactic| fail "st") => `(tactic| (fail "calls"))
local macro_rules | `(tactic| fail "sz") => `(tactic| first
  | assumption
  | decide
  | (refine Nat.le_trans (m := 1000) ?_ (by decide); (first | omega | (simp only [List.length_cons, List.length_nil]; omega) | (simp; omega) | simp))
  | (refine Nat.lt_of_le_of_lt (m := 1000) ?_ (by decide); (first | omega | (simp only [List.length_cons, List.length_nil]; omega) | (simp; omega) | simp)))

local macro_rules | `(tactic| fail "st") => `(tactic| first
  | (with_reducible refine g_methN ?_)
  | (with_reducible refine g_dget ?_)
  | ((with_reducible show DgW (.ref _) (.str _) _ _); refine g_DgW (by fail "hp") (by rfl) ?_)
  | (with_reducible refine g_seqP ?_)
  | (with_reducible refine g_dput ?_)
  | ((with_reducible show DpW (.ref _) (.str _) _ _ _); refine g_DpW (by fail "hp") (Nat.lt_of_le_of_lt (m := 20) (Nat.le_of_ble_eq_true rfl) (by decide)) ?_; try fail "mut")
  | (with_reducible refine g_seqL ?_)
  | (with_reducible refine g_asgL ?_)
  | ((with_reducible show gLst _ _ _ (.ref _) _ _ _); refine g_gLst (by fail "sq") (by exact rfl) ?_)
  | (with_reducible refine g_augS ?_)
  | (with_reducible refine g_ipI ?_)
  | (with_reducible refine g_disp ?_)
  | (with_reducible refine g_pcons ?_)
  | (with_reducible refine g_pnil ?_)
  | (with_reducible refine g_tListV ?_)
  | (with_reducible refine g_dnin ?_)
  | (with_reducible refine g_din ?_)
  | (with_reducible refine g_methS ?_)
  | (with_reducible refine g_methNS ?_)
  | (with_reducible refine g_callN ?_)
  | (with_reducible refine g_callNS ?_))

theorem putI_Layout_segments {y : V} : putF "segments" y ([] : List (Str × V)) = ([(("segments" : Str), y)] : List (Str × V)) := by rfl
theorem putU_Layout_segments {v0 v1 v2 v3 v4 v5 v6 v7 v8 y : V} : putF "segments" y ([(("segments" : Str), v0), (("segment_blocks" : Str), v1), (("block_size" : Str), v2), (("payload" : Str), v3), (("limit" : Str), v4), (("last_id" : Str), v5), (("fan" : Str), v6), (("region_blocks" : Str), v7), (("device_blocks" : Str), v8)] : List (Str × V)) = ([(("segments" : Str), y), (("segment_blocks" : Str), v1), (("block_size" : Str), v2), (("payload" : Str), v3), (("limit" : Str), v4), (("last_id" : Str), v5), (("fan" : Str), v6), (("region_blocks" : Str), v7), (("device_blocks" : Str), v8)] : List (Str × V)) := by rfl
theorem putI_Layout_segment_blocks {v0 y : V} : putF "segment_blocks" y ([(("segments" : Str), v0)] : List (Str × V)) = ([(("segments" : Str), v0), (("segment_blocks" : Str), y)] : List (Str × V)) := by rfl
theorem putU_Layout_segment_blocks {v0 v1 v2 v3 v4 v5 v6 v7 v8 y : V} : putF "segment_blocks" y ([(("segments" : Str), v0), (("segment_blocks" : Str), v1), (("block_size" : Str), v2), (("payload" : Str), v3), (("limit" : Str), v4), (("last_id" : Str), v5), (("fan" : Str), v6), (("region_blocks" : Str), v7), (("device_blocks" : Str), v8)] : List (Str × V)) = ([(("segments" : Str), v0), (("segment_blocks" : Str), y), (("block_size" : Str), v2), (("payload" : Str), v3), (("limit" : Str), v4), (("last_id" : Str), v5), (("fan" : Str), v6), (("region_blocks" : Str), v7), (("device_blocks" : Str), v8)] : List (Str × V)) := by rfl
theorem putI_Layout_block_size {v0 v1 y : V} : putF "block_size" y ([(("segments" : Str), v0), (("segment_blocks" : Str), v1)] : List (Str × V)) = ([(("segments" : Str), v0), (("segment_blocks" : Str), v1), (("block_size" : Str), y)] : List (Str × V)) := by rfl
theorem putU_Layout_block_size {v0 v1 v2 v3 v4 v5 v6 v7 v8 y : V} : putF "block_size" y ([(("segments" : Str), v0), (("segment_blocks" : Str), v1), (("block_size" : Str), v2), (("payload" : Str), v3), (("limit" : Str), v4), (("last_id" : Str), v5), (("fan" : Str), v6), (("region_blocks" : Str), v7), (("device_blocks" : Str), v8)] : List (Str × V)) = ([(("segments" : Str), v0), (("segment_blocks" : Str), v1), (("block_size" : Str), y), (("payload" : Str), v3), (("limit" : Str), v4), (("last_id" : Str), v5), (("fan" : Str), v6), (("region_blocks" : Str), v7), (("device_blocks" : Str), v8)] : List (Str × V)) := by rfl
theorem putI_Layout_payload {v0 v1 v2 y : V} : putF "payload" y ([(("segments" : Str), v0), (("segment_blocks" : Str), v1), (("block_size" : Str), v2)] : List (Str × V)) = ([(("segments" : Str), v0), (("segment_blocks" : Str), v1), (("block_size" : Str), v2), (("payload" : Str), y)] : List (Str × V)) := by rfl
theorem putU_Layout_payload {v0 v1 v2 v3 v4 v5 v6 v7 v8 y : V} : putF "payload" y ([(("segments" : Str), v0), (("segment_blocks" : Str), v1), (("block_size" : Str), v2), (("payload" : Str), v3), (("limit" : Str), v4), (("last_id" : Str), v5), (("fan" : Str), v6), (("region_blocks" : Str), v7), (("device_blocks" : Str), v8)] : List (Str × V)) = ([(("segments" : Str), v0), (("segment_blocks" : Str), v1), (("block_size" : Str), v2), (("payload" : Str), y), (("limit" : Str), v4), (("last_id" : Str), v5), (("fan" : Str), v6), (("region_blocks" : Str), v7), (("device_blocks" : Str), v8)] : List (Str × V)) := by rfl
theorem putI_Layout_limit {v0 v1 v2 v3 y : V} : putF "limit" y ([(("segments" : Str), v0), (("segment_blocks" : Str), v1), (("block_size" : Str), v2), (("payload" : Str), v3)] : List (Str × V)) = ([(("segments" : Str), v0), (("segment_blocks" : Str), v1), (("block_size" : Str), v2), (("payload" : Str), v3), (("limit" : Str), y)] : List (Str × V)) := by rfl
theorem putU_Layout_limit {v0 v1 v2 v3 v4 v5 v6 v7 v8 y : V} : putF "limit" y ([(("segments" : Str), v0), (("segment_blocks" : Str), v1), (("block_size" : Str), v2), (("payload" : Str), v3), (("limit" : Str), v4), (("last_id" : Str), v5), (("fan" : Str), v6), (("region_blocks" : Str), v7), (("device_blocks" : Str), v8)] : List (Str × V)) = ([(("segments" : Str), v0), (("segment_blocks" : Str), v1), (("block_size" : Str), v2), (("payload" : Str), v3), (("limit" : Str), y), (("last_id" : Str), v5), (("fan" : Str), v6), (("region_blocks" : Str), v7), (("device_blocks" : Str), v8)] : List (Str × V)) := by rfl
theorem putI_Layout_last_id {v0 v1 v2 v3 v4 y : V} : putF "last_id" y ([(("segments" : Str), v0), (("segment_blocks" : Str), v1), (("block_size" : Str), v2), (("payload" : Str), v3), (("limit" : Str), v4)] : List (Str × V)) = ([(("segments" : Str), v0), (("segment_blocks" : Str), v1), (("block_size" : Str), v2), (("payload" : Str), v3), (("limit" : Str), v4), (("last_id" : Str), y)] : List (Str × V)) := by rfl
theorem putU_Layout_last_id {v0 v1 v2 v3 v4 v5 v6 v7 v8 y : V} : putF "last_id" y ([(("segments" : Str), v0), (("segment_blocks" : Str), v1), (("block_size" : Str), v2), (("payload" : Str), v3), (("limit" : Str), v4), (("last_id" : Str), v5), (("fan" : Str), v6), (("region_blocks" : Str), v7), (("device_blocks" : Str), v8)] : List (Str × V)) = ([(("segments" : Str), v0), (("segment_blocks" : Str), v1), (("block_size" : Str), v2), (("payload" : Str), v3), (("limit" : Str), v4), (("last_id" : Str), y), (("fan" : Str), v6), (("region_blocks" : Str), v7), (("device_blocks" : Str), v8)] : List (Str × V)) := by rfl
theorem putI_Layout_fan {v0 v1 v2 v3 v4 v5 y : V} : putF "fan" y ([(("segments" : Str), v0), (("segment_blocks" : Str), v1), (("block_size" : Str), v2), (("payload" : Str), v3), (("limit" : Str), v4), (("last_id" : Str), v5)] : List (Str × V)) = ([(("segments" : Str), v0), (("segment_blocks" : Str), v1), (("block_size" : Str), v2), (("payload" : Str), v3), (("limit" : Str), v4), (("last_id" : Str), v5), (("fan" : Str), y)] : List (Str × V)) := by rfl
theorem putU_Layout_fan {v0 v1 v2 v3 v4 v5 v6 v7 v8 y : V} : putF "fan" y ([(("segments" : Str), v0), (("segment_blocks" : Str), v1), (("block_size" : Str), v2), (("payload" : Str), v3), (("limit" : Str), v4), (("last_id" : Str), v5), (("fan" : Str), v6), (("region_blocks" : Str), v7), (("device_blocks" : Str), v8)] : List (Str × V)) = ([(("segments" : Str), v0), (("segment_blocks" : Str), v1), (("block_size" : Str), v2), (("payload" : Str), v3), (("limit" : Str), v4), (("last_id" : Str), v5), (("fan" : Str), y), (("region_blocks" : Str), v7), (("device_blocks" : Str), v8)] : List (Str × V)) := by rfl
theorem putI_Layout_region_blocks {v0 v1 v2 v3 v4 v5 v6 y : V} : putF "region_blocks" y ([(("segments" : Str), v0), (("segment_blocks" : Str), v1), (("block_size" : Str), v2), (("payload" : Str), v3), (("limit" : Str), v4), (("last_id" : Str), v5), (("fan" : Str), v6)] : List (Str × V)) = ([(("segments" : Str), v0), (("segment_blocks" : Str), v1), (("block_size" : Str), v2), (("payload" : Str), v3), (("limit" : Str), v4), (("last_id" : Str), v5), (("fan" : Str), v6), (("region_blocks" : Str), y)] : List (Str × V)) := by rfl
theorem putU_Layout_region_blocks {v0 v1 v2 v3 v4 v5 v6 v7 v8 y : V} : putF "region_blocks" y ([(("segments" : Str), v0), (("segment_blocks" : Str), v1), (("block_size" : Str), v2), (("payload" : Str), v3), (("limit" : Str), v4), (("last_id" : Str), v5), (("fan" : Str), v6), (("region_blocks" : Str), v7), (("device_blocks" : Str), v8)] : List (Str × V)) = ([(("segments" : Str), v0), (("segment_blocks" : Str), v1), (("block_size" : Str), v2), (("payload" : Str), v3), (("limit" : Str), v4), (("last_id" : Str), v5), (("fan" : Str), v6), (("region_blocks" : Str), y), (("device_blocks" : Str), v8)] : List (Str × V)) := by rfl
theorem putI_Layout_device_blocks {v0 v1 v2 v3 v4 v5 v6 v7 y : V} : putF "device_blocks" y ([(("segments" : Str), v0), (("segment_blocks" : Str), v1), (("block_size" : Str), v2), (("payload" : Str), v3), (("limit" : Str), v4), (("last_id" : Str), v5), (("fan" : Str), v6), (("region_blocks" : Str), v7)] : List (Str × V)) = ([(("segments" : Str), v0), (("segment_blocks" : Str), v1), (("block_size" : Str), v2), (("payload" : Str), v3), (("limit" : Str), v4), (("last_id" : Str), v5), (("fan" : Str), v6), (("region_blocks" : Str), v7), (("device_blocks" : Str), y)] : List (Str × V)) := by rfl
theorem putU_Layout_device_blocks {v0 v1 v2 v3 v4 v5 v6 v7 v8 y : V} : putF "device_blocks" y ([(("segments" : Str), v0), (("segment_blocks" : Str), v1), (("block_size" : Str), v2), (("payload" : Str), v3), (("limit" : Str), v4), (("last_id" : Str), v5), (("fan" : Str), v6), (("region_blocks" : Str), v7), (("device_blocks" : Str), v8)] : List (Str × V)) = ([(("segments" : Str), v0), (("segment_blocks" : Str), v1), (("block_size" : Str), v2), (("payload" : Str), v3), (("limit" : Str), v4), (("last_id" : Str), v5), (("fan" : Str), v6), (("region_blocks" : Str), v7), (("device_blocks" : Str), y)] : List (Str × V)) := by rfl
theorem putI_Device_layout {y : V} : putF "layout" y ([] : List (Str × V)) = ([(("layout" : Str), y)] : List (Str × V)) := by rfl
theorem putU_Device_layout {v0 v1 v2 v3 v4 v5 y : V} : putF "layout" y ([(("layout" : Str), v0), (("sure" : Str), v1), (("seen" : Str), v2), (("waiting" : Str), v3), (("fuse" : Str), v4), (("dark" : Str), v5)] : List (Str × V)) = ([(("layout" : Str), y), (("sure" : Str), v1), (("seen" : Str), v2), (("waiting" : Str), v3), (("fuse" : Str), v4), (("dark" : Str), v5)] : List (Str × V)) := by rfl
theorem putI_Device_sure {v0 y : V} : putF "sure" y ([(("layout" : Str), v0)] : List (Str × V)) = ([(("layout" : Str), v0), (("sure" : Str), y)] : List (Str × V)) := by rfl
theorem putU_Device_sure {v0 v1 v2 v3 v4 v5 y : V} : putF "sure" y ([(("layout" : Str), v0), (("sure" : Str), v1), (("seen" : Str), v2), (("waiting" : Str), v3), (("fuse" : Str), v4), (("dark" : Str), v5)] : List (Str × V)) = ([(("layout" : Str), v0), (("sure" : Str), y), (("seen" : Str), v2), (("waiting" : Str), v3), (("fuse" : Str), v4), (("dark" : Str), v5)] : List (Str × V)) := by rfl
theorem putI_Device_seen {v0 v1 y : V} : putF "seen" y ([(("layout" : Str), v0), (("sure" : Str), v1)] : List (Str × V)) = ([(("layout" : Str), v0), (("sure" : Str), v1), (("seen" : Str), y)] : List (Str × V)) := by rfl
theorem putU_Device_seen {v0 v1 v2 v3 v4 v5 y : V} : putF "seen" y ([(("layout" : Str), v0), (("sure" : Str), v1), (("seen" : Str), v2), (("waiting" : Str), v3), (("fuse" : Str), v4), (("dark" : Str), v5)] : List (Str × V)) = ([(("layout" : Str), v0), (("sure" : Str), v1), (("seen" : Str), y), (("waiting" : Str), v3), (("fuse" : Str), v4), (("dark" : Str), v5)] : List (Str × V)) := by rfl
theorem putI_Device_waiting {v0 v1 v2 y : V} : putF "waiting" y ([(("layout" : Str), v0), (("sure" : Str), v1), (("seen" : Str), v2)] : List (Str × V)) = ([(("layout" : Str), v0), (("sure" : Str), v1), (("seen" : Str), v2), (("waiting" : Str), y)] : List (Str × V)) := by rfl
theorem putU_Device_waiting {v0 v1 v2 v3 v4 v5 y : V} : putF "waiting" y ([(("layout" : Str), v0), (("sure" : Str), v1), (("seen" : Str), v2), (("waiting" : Str), v3), (("fuse" : Str), v4), (("dark" : Str), v5)] : List (Str × V)) = ([(("layout" : Str), v0), (("sure" : Str), v1), (("seen" : Str), v2), (("waiting" : Str), y), (("fuse" : Str), v4), (("dark" : Str), v5)] : List (Str × V)) := by rfl
theorem putI_Device_fuse {v0 v1 v2 v3 y : V} : putF "fuse" y ([(("layout" : Str), v0), (("sure" : Str), v1), (("seen" : Str), v2), (("waiting" : Str), v3)] : List (Str × V)) = ([(("layout" : Str), v0), (("sure" : Str), v1), (("seen" : Str), v2), (("waiting" : Str), v3), (("fuse" : Str), y)] : List (Str × V)) := by rfl
theorem putU_Device_fuse {v0 v1 v2 v3 v4 v5 y : V} : putF "fuse" y ([(("layout" : Str), v0), (("sure" : Str), v1), (("seen" : Str), v2), (("waiting" : Str), v3), (("fuse" : Str), v4), (("dark" : Str), v5)] : List (Str × V)) = ([(("layout" : Str), v0), (("sure" : Str), v1), (("seen" : Str), v2), (("waiting" : Str), v3), (("fuse" : Str), y), (("dark" : Str), v5)] : List (Str × V)) := by rfl
theorem putI_Device_dark {v0 v1 v2 v3 v4 y : V} : putF "dark" y ([(("layout" : Str), v0), (("sure" : Str), v1), (("seen" : Str), v2), (("waiting" : Str), v3), (("fuse" : Str), v4)] : List (Str × V)) = ([(("layout" : Str), v0), (("sure" : Str), v1), (("seen" : Str), v2), (("waiting" : Str), v3), (("fuse" : Str), v4), (("dark" : Str), y)] : List (Str × V)) := by rfl
theorem putU_Device_dark {v0 v1 v2 v3 v4 v5 y : V} : putF "dark" y ([(("layout" : Str), v0), (("sure" : Str), v1), (("seen" : Str), v2), (("waiting" : Str), v3), (("fuse" : Str), v4), (("dark" : Str), v5)] : List (Str × V)) = ([(("layout" : Str), v0), (("sure" : Str), v1), (("seen" : Str), v2), (("waiting" : Str), v3), (("fuse" : Str), v4), (("dark" : Str), y)] : List (Str × V)) := by rfl
theorem putI_Side_layout {y : V} : putF "layout" y ([] : List (Str × V)) = ([(("layout" : Str), y)] : List (Str × V)) := by rfl
theorem putU_Side_layout {v0 v1 v2 y : V} : putF "layout" y ([(("layout" : Str), v0), (("seat" : Str), v1), (("device" : Str), v2)] : List (Str × V)) = ([(("layout" : Str), y), (("seat" : Str), v1), (("device" : Str), v2)] : List (Str × V)) := by rfl
theorem putI_Side_seat {v0 y : V} : putF "seat" y ([(("layout" : Str), v0)] : List (Str × V)) = ([(("layout" : Str), v0), (("seat" : Str), y)] : List (Str × V)) := by rfl
theorem putU_Side_seat {v0 v1 v2 y : V} : putF "seat" y ([(("layout" : Str), v0), (("seat" : Str), v1), (("device" : Str), v2)] : List (Str × V)) = ([(("layout" : Str), v0), (("seat" : Str), y), (("device" : Str), v2)] : List (Str × V)) := by rfl
theorem putI_Side_device {v0 v1 y : V} : putF "device" y ([(("layout" : Str), v0), (("seat" : Str), v1)] : List (Str × V)) = ([(("layout" : Str), v0), (("seat" : Str), v1), (("device" : Str), y)] : List (Str × V)) := by rfl
theorem putU_Side_device {v0 v1 v2 y : V} : putF "device" y ([(("layout" : Str), v0), (("seat" : Str), v1), (("device" : Str), v2)] : List (Str × V)) = ([(("layout" : Str), v0), (("seat" : Str), v1), (("device" : Str), y)] : List (Str × V)) := by rfl
theorem putI_Mirror_layout {y : V} : putF "layout" y ([] : List (Str × V)) = ([(("layout" : Str), y)] : List (Str × V)) := by rfl
theorem putU_Mirror_layout {v0 v1 v2 v3 v4 v5 v6 y : V} : putF "layout" y ([(("layout" : Str), v0), (("sides" : Str), v1), (("guests" : Str), v2), (("generation" : Str), v3), (("forks" : Str), v4), (("fuse" : Str), v5), (("dark" : Str), v6)] : List (Str × V)) = ([(("layout" : Str), y), (("sides" : Str), v1), (("guests" : Str), v2), (("generation" : Str), v3), (("forks" : Str), v4), (("fuse" : Str), v5), (("dark" : Str), v6)] : List (Str × V)) := by rfl
theorem putI_Mirror_sides {v0 y : V} : putF "sides" y ([(("layout" : Str), v0)] : List (Str × V)) = ([(("layout" : Str), v0), (("sides" : Str), y)] : List (Str × V)) := by rfl
theorem putU_Mirror_sides {v0 v1 v2 v3 v4 v5 v6 y : V} : putF "sides" y ([(("layout" : Str), v0), (("sides" : Str), v1), (("guests" : Str), v2), (("generation" : Str), v3), (("forks" : Str), v4), (("fuse" : Str), v5), (("dark" : Str), v6)] : List (Str × V)) = ([(("layout" : Str), v0), (("sides" : Str), y), (("guests" : Str), v2), (("generation" : Str), v3), (("forks" : Str), v4), (("fuse" : Str), v5), (("dark" : Str), v6)] : List (Str × V)) := by rfl
theorem putI_Mirror_guests {v0 v1 y : V} : putF "guests" y ([(("layout" : Str), v0), (("sides" : Str), v1)] : List (Str × V)) = ([(("layout" : Str), v0), (("sides" : Str), v1), (("guests" : Str), y)] : List (Str × V)) := by rfl
theorem putU_Mirror_guests {v0 v1 v2 v3 v4 v5 v6 y : V} : putF "guests" y ([(("layout" : Str), v0), (("sides" : Str), v1), (("guests" : Str), v2), (("generation" : Str), v3), (("forks" : Str), v4), (("fuse" : Str), v5), (("dark" : Str), v6)] : List (Str × V)) = ([(("layout" : Str), v0), (("sides" : Str), v1), (("guests" : Str), y), (("generation" : Str), v3), (("forks" : Str), v4), (("fuse" : Str), v5), (("dark" : Str), v6)] : List (Str × V)) := by rfl
theorem putI_Mirror_generation {v0 v1 v2 y : V} : putF "generation" y ([(("layout" : Str), v0), (("sides" : Str), v1), (("guests" : Str), v2)] : List (Str × V)) = ([(("layout" : Str), v0), (("sides" : Str), v1), (("guests" : Str), v2), (("generation" : Str), y)] : List (Str × V)) := by rfl
theorem putU_Mirror_generation {v0 v1 v2 v3 v4 v5 v6 y : V} : putF "generation" y ([(("layout" : Str), v0), (("sides" : Str), v1), (("guests" : Str), v2), (("generation" : Str), v3), (("forks" : Str), v4), (("fuse" : Str), v5), (("dark" : Str), v6)] : List (Str × V)) = ([(("layout" : Str), v0), (("sides" : Str), v1), (("guests" : Str), v2), (("generation" : Str), y), (("forks" : Str), v4), (("fuse" : Str), v5), (("dark" : Str), v6)] : List (Str × V)) := by rfl
theorem putI_Mirror_forks {v0 v1 v2 v3 y : V} : putF "forks" y ([(("layout" : Str), v0), (("sides" : Str), v1), (("guests" : Str), v2), (("generation" : Str), v3)] : List (Str × V)) = ([(("layout" : Str), v0), (("sides" : Str), v1), (("guests" : Str), v2), (("generation" : Str), v3), (("forks" : Str), y)] : List (Str × V)) := by rfl
theorem putU_Mirror_forks {v0 v1 v2 v3 v4 v5 v6 y : V} : putF "forks" y ([(("layout" : Str), v0), (("sides" : Str), v1), (("guests" : Str), v2), (("generation" : Str), v3), (("forks" : Str), v4), (("fuse" : Str), v5), (("dark" : Str), v6)] : List (Str × V)) = ([(("layout" : Str), v0), (("sides" : Str), v1), (("guests" : Str), v2), (("generation" : Str), v3), (("forks" : Str), y), (("fuse" : Str), v5), (("dark" : Str), v6)] : List (Str × V)) := by rfl
theorem putI_Mirror_fuse {v0 v1 v2 v3 v4 y : V} : putF "fuse" y ([(("layout" : Str), v0), (("sides" : Str), v1), (("guests" : Str), v2), (("generation" : Str), v3), (("forks" : Str), v4)] : List (Str × V)) = ([(("layout" : Str), v0), (("sides" : Str), v1), (("guests" : Str), v2), (("generation" : Str), v3), (("forks" : Str), v4), (("fuse" : Str), y)] : List (Str × V)) := by rfl
theorem putU_Mirror_fuse {v0 v1 v2 v3 v4 v5 v6 y : V} : putF "fuse" y ([(("layout" : Str), v0), (("sides" : Str), v1), (("guests" : Str), v2), (("generation" : Str), v3), (("forks" : Str), v4), (("fuse" : Str), v5), (("dark" : Str), v6)] : List (Str × V)) = ([(("layout" : Str), v0), (("sides" : Str), v1), (("guests" : Str), v2), (("generation" : Str), v3), (("forks" : Str), v4), (("fuse" : Str), y), (("dark" : Str), v6)] : List (Str × V)) := by rfl
theorem putI_Mirror_dark {v0 v1 v2 v3 v4 v5 y : V} : putF "dark" y ([(("layout" : Str), v0), (("sides" : Str), v1), (("guests" : Str), v2), (("generation" : Str), v3), (("forks" : Str), v4), (("fuse" : Str), v5)] : List (Str × V)) = ([(("layout" : Str), v0), (("sides" : Str), v1), (("guests" : Str), v2), (("generation" : Str), v3), (("forks" : Str), v4), (("fuse" : Str), v5), (("dark" : Str), y)] : List (Str × V)) := by rfl
theorem putU_Mirror_dark {v0 v1 v2 v3 v4 v5 v6 y : V} : putF "dark" y ([(("layout" : Str), v0), (("sides" : Str), v1), (("guests" : Str), v2), (("generation" : Str), v3), (("forks" : Str), v4), (("fuse" : Str), v5), (("dark" : Str), v6)] : List (Str × V)) = ([(("layout" : Str), v0), (("sides" : Str), v1), (("guests" : Str), v2), (("generation" : Str), v3), (("forks" : Str), v4), (("fuse" : Str), v5), (("dark" : Str), y)] : List (Str × V)) := by rfl
local macro_rules | `(tactic| fail "putf") => `(tactic| first
  | rw [putI_Layout_segments]
  | rw [putU_Layout_segments]
  | rw [putI_Layout_segment_blocks]
  | rw [putU_Layout_segment_blocks]
  | rw [putI_Layout_block_size]
  | rw [putU_Layout_block_size]
  | rw [putI_Layout_payload]
  | rw [putU_Layout_payload]
  | rw [putI_Layout_limit]
  | rw [putU_Layout_limit]
  | rw [putI_Layout_last_id]
  | rw [putU_Layout_last_id]
  | rw [putI_Layout_fan]
  | rw [putU_Layout_fan]
  | rw [putI_Layout_region_blocks]
  | rw [putU_Layout_region_blocks]
  | rw [putI_Layout_device_blocks]
  | rw [putU_Layout_device_blocks]
  | rw [putI_Device_layout]
  | rw [putU_Device_layout]
  | rw [putI_Device_sure]
  | rw [putU_Device_sure]
  | rw [putI_Device_seen]
  | rw [putU_Device_seen]
  | rw [putI_Device_waiting]
  | rw [putU_Device_waiting]
  | rw [putI_Device_fuse]
  | rw [putU_Device_fuse]
  | rw [putI_Device_dark]
  | rw [putU_Device_dark]
  | rw [putI_Side_layout]
  | rw [putU_Side_layout]
  | rw [putI_Side_seat]
  | rw [putU_Side_seat]
  | rw [putI_Side_device]
  | rw [putU_Side_device]
  | rw [putI_Mirror_layout]
  | rw [putU_Mirror_layout]
  | rw [putI_Mirror_sides]
  | rw [putU_Mirror_sides]
  | rw [putI_Mirror_guests]
  | rw [putU_Mirror_guests]
  | rw [putI_Mirror_generation]
  | rw [putU_Mirror_generation]
  | rw [putI_Mirror_forks]
  | rw [putU_Mirror_forks]
  | rw [putI_Mirror_fuse]
  | rw [putU_Mirror_fuse]
  | rw [putI_Mirror_dark]
  | rw [putU_Mirror_dark]
  | skip)
def spTake : Sp := fun vs H Q _ => ∃ (b : Addr) (n z : Int), vs = [.ref b, .int z] ∧ H b = some (.lst [.int n]) ∧ 0 < z ∧ z < 8589934592 ∧ Q (.int (n % z)) (upd H b (.lst [.int (n / z)]))
local macro_rules | `(tactic| fail "calls") => `(tactic| ((with_reducible show spTake _ _ _ _); refine ⟨_, _, _, rfl, by fail "hp", by fail "ar", by fail "ar", ?_⟩))
section
variable {P : Program} {w : World} {K : PySem.W.Frag} {mg : Str → Option Value} {base : Heap}
theorem ok__law_take (T : Txt P K mg) : FnOk P w K mg base CX0 1 T.f__law_take T.fd__law_take ["box", "size"] (spTake) := by
  refine T.F__law_take.ok sc__law_take (fun vs H Q E h => ?_) (fun cdv A outer s H vs Q E hr h => ?_)
  · obtain ⟨b, n, z, rfl, hb, z0, z1, hq⟩ := h
    rfl
  · obtain ⟨b, n, z, rfl, hb, z0, z1, hq⟩ := h
    refine ⟨_, (pss_cons (ps_set (i := 2) sc__law_take.nd rfl (by first | exact Or.inl rfl | exact Or.inr rfl) (pe_op opModU (pe_callTy callIntU (by rfl) T.n_int (by decide +kernel) (pa_cons (pe_ix (ixU (K := K)) (pv 0) pe_int (fun _ _ => rfl)) pa_nil)) (pv 1)))
      (pss_cons (ps_asg (pe_op opFloorDivU (pe_ix (ixU (K := K)) (pv 0) pe_int (fun _ _ => rfl)) (pv 1)) (pg_sub (pv 0) pe_int set_list))
      (pss_one (ps_ret (pv 2))))), ?_⟩
    try dsimp only [cxOf]
    fail "go"
    refine g_div (Or.inr (wide_div (b := 34) z0 (by show z.natAbs < 17179869184; omega) (by decide) (by decide))) ?_
    fail "go"
    exact hq
end
def spParts : Sp := fun vs H Q _ => ∃ n z : Int, vs = [.int n, .int z] ∧ 0 < z ∧ z < 1000 ∧ Q (.int (partsOf n z)) H
local macro_rules | `(tactic| fail "calls") => `(tactic| ((with_reducible show spParts _ _ _ _); refine ⟨_, _, rfl, by fail "ar", by fail "ar", ?_⟩))
section
variable {P : Program} {w : World} {K : PySem.W.Frag} {mg : Str → Option Value} {base : Heap}
theorem ok_parts_of (T : Txt P K mg) : FnOk P w K mg base CX0 1 T.f_parts_of T.fd_parts_of ["number", "size"] (spParts) := by
  refine T.F_parts_of.ok sc_parts_of (fun vs H Q E h => ?_) (fun cdv A outer s H vs Q E hr h => ?_)
  · obtain ⟨n, z, rfl, z0, z1, hq⟩ := h
    rfl
  · obtain ⟨n, z, rfl, z0, z1, hq⟩ := h
    refine ⟨_, (pss_one (ps_ret (pe_op opFloorDivU (pe_op opSubU (pe_op (opAddU (K := K)) (pv 0) (pv 1)) pe_int) (pv 1)))), ?_⟩
    try dsimp only [cxOf]
    fail "go"
    exact hq
end
def spLay (C : Addr) : Sp := fun vs H Q _ => ∃ (R : Hp) (p dx : Addr) (L : Lay), vs = [.ref p, .int L.seg, .int L.blk, .int L.oct] ∧ Same R H ∧ R p = none ∧ H p = some (.ins C dx []) ∧ L.Ok ∧ ∀ H', Same R H' → H' p = some (.ins C dx L.flds) → Q .non H'
section
variable {P : Program} {w : World} {K : PySem.W.Frag} {mg : Str → Option Value} {base : Heap}
theorem ok_Layout___init__ (T : Txt P K mg) : FnOk P w K mg base CX0 2 T.f_Layout___init__ T.fd_Layout___init__ ["self", "segments", "segment_blocks", "block_size"] (spLay T.C_Layout) := by
  have cl_Layout := T.cl_Layout
  have a_Layout_segments := T.a_Layout_segments
  have a_Layout_segment_blocks := T.a_Layout_segment_blocks
  have a_Layout_block_size := T.a_Layout_block_size
  have a_Layout_payload := T.a_Layout_payload
  have a_Layout_limit := T.a_Layout_limit
  have a_Layout_last_id := T.a_Layout_last_id
  have a_Layout_fan := T.a_Layout_fan
  have a_Layout_region_blocks := T.a_Layout_region_blocks
  have a_Layout_device_blocks := T.a_Layout_device_blocks
  have G_parts_of := ok_parts_of (P := P) (w := w) (base := base) T
  refine T.F_Layout___init__.ok sc_Layout___init__ (fun vs H Q E h => ?_) (fun cdv A outer s H vs Q E hr h => ?_)
  · obtain ⟨R, p, dx, L, rfl, sR, Rp, hp, hL, hq⟩ := h
    rfl
  · obtain ⟨R, p, dx, L, rfl, sR, Rp, hp, hL, hq⟩ := h
    refine ⟨_, (pss_cons (ps_if (PW.pt (pw_or (pt_cmpR op_lt (pv 1) (pe_glob rfl T.g_LEAST_SEGMENTS T.r_LEAST_SEGMENTS) (nomark _)) (pw_or1 (pt_cmpR op_gt (pv 1) (pe_glob rfl T.g_MOST_SEGMENTS T.r_MOST_SEGMENTS) (nomark _))))) (pss_one ps_never) pss_nil)
      (pss_cons (ps_if (PW.pt (pw_or (pt_cmpR op_lt (pv 2) (pe_glob rfl T.g_LEAST_BLOCKS T.r_LEAST_BLOCKS) (nomark _)) (pw_or1 (pt_cmpR op_gt (pv 2) (pe_glob rfl T.g_MOST_BLOCKS T.r_MOST_BLOCKS) (nomark _))))) (pss_one ps_never) pss_nil)
      (pss_cons (ps_if (pt_cmpR (opNinF (K := K)) (pv 3) (pe_tup (pa_cons pe_int (pa_cons pe_int (pa_cons pe_int pa_nil)))) (by rfl)) (pss_one ps_never) pss_nil)
      (pss_cons (ps_fld (pv 0) (pv 1) rfl)
      (pss_cons (ps_fld (pv 0) (pv 2) rfl)
      (pss_cons (ps_fld (pv 0) (pv 3) rfl)
      (pss_cons (ps_fld (pv 0) (pe_op opSubU (pv 2) pe_int) rfl)
      (pss_cons (ps_fld (pv 0) (pe_op opMultU (pe_op opSubU (pv 1) pe_int) (pe_fldK (K := K) (pv 0) rfl)) rfl)
      (pss_cons (ps_fld (pv 0) (pe_op (opAddU (K := K)) (pe_fldK (K := K) (pv 0) rfl) (pe_fldK (K := K) (pv 0) rfl)) rfl)
      (pss_cons (ps_fld (pv 0) (pe_op opFloorDivU (pv 3) pe_int) rfl)
      (pss_cons (ps_if (pt_cmpR op_gt (pe_op (opAddU (K := K)) (pe_op (opAddU (K := K)) (pe_glob rfl T.g_HEAD_OCTETS T.r_HEAD_OCTETS) (pe_op opMultU pe_int (pe_fldK (K := K) (pv 0) rfl))) (pe_call G_parts_of (hr.mono (by decide)) rfl T.g_parts_of T.F_parts_of.kp T.b_parts_of .nil pass0 (pa_cons (pe_fldK (K := K) (pv 0) rfl) (pa_cons pe_int pa_nil)))) (pv 3) (nomark _)) (pss_one ps_never) pss_nil)
      (pss_cons (ps_set (i := 4) sc_Layout___init__.nd rfl (by first | exact Or.inl rfl | exact Or.inr rfl) (pe_op (opAddU (K := K)) (pe_op (opAddU (K := K)) (pe_op (opAddU (K := K)) (pe_op opMultU (pe_op (opAddU (K := K)) (pe_glob rfl T.g_SLOTS T.r_SLOTS) pe_int) (pe_fldK (K := K) (pv 0) rfl)) (pe_glob rfl T.g_SLOTS T.r_SLOTS)) pe_int) (pv 1)))
      (pss_cons (ps_fld (pv 0) (pe_call G_parts_of (hr.mono (by decide)) rfl T.g_parts_of T.F_parts_of.kp T.b_parts_of .nil pass0 (pa_cons (pe_op opMultU pe_int (pv 4)) (pa_cons (pv 3) pa_nil))) rfl)
      (pss_one (ps_fld (pv 0) (pe_op (opAddU (K := K)) (pe_op opMultU pe_int (pe_fldK (K := K) (pv 0) rfl)) (pe_op opMultU (pv 1) (pv 2))) rfl))))))))))))))), ?_⟩
    try dsimp only [cxOf]
    obtain ⟨s1, s2, b1, b2, o1, fits⟩ := id hL
    fail "go"
    refine g_iteF (decide_eq_false (by omega)) ?_
    fail "go"
    refine g_iteF (decide_eq_false (by omega)) ?_
    fail "go"
    refine g_iteF (decide_eq_false (by omega)) ?_
    fail "go"
    refine g_iteF (decide_eq_false (by omega)) ?_
    fail "go"
    refine ⟨by fail "sz", ?_⟩
    fail "newR"
    rename_i t H1 R1 n1 g1 h1 r1
    fail "go"
    refine g_ninF (.inr (SqT.of (r1 _ _ h1))) rfl rfl ?_
    fail "go"
    rw [oct_in o1]
    fail "go"
    refine g_iteF (decide_eq_false (by have := fits; unfold Lay.lastId Lay.limit Lay.payload at this; omega)) ?_
    fail "go"
    rename_i H2 g2 h2 s2
    exact hq _ (g1.rr.trans s2) h2
end
def spLawLay (C : Addr) : Sp := fun vs H Q _ => ∃ (R : Hp) (b : Addr) (n : Int), vs = [.ref b] ∧ Same R H ∧ R b = none ∧ H b = some (.lst [.int n]) ∧ ∀ p H' L, Same R H' → R p = none → (∃ m, H' b = some (.lst [.int m])) → LayAt C H' p L → L ∈ lays → Q (.ref p) H'
section
variable {P : Program} {w : World} {K : PySem.W.Frag} {mg : Str → Option Value} {base : Heap}
theorem ok__law_layout (T : Txt P K mg) : FnOk P w K mg base CX0 4 T.f__law_layout T.fd__law_layout ["box"] (spLawLay T.C_Layout) := by
  have G__law_take := ok__law_take (P := P) (w := w) (base := base) T
  have G_Layout___init__ := ok_Layout___init__ (P := P) (w := w) (base := base) T
  refine T.F__law_layout.ok sc__law_layout (fun vs H Q E h => ?_) (fun cdv A outer s H vs Q E hr h => ?_)
  · obtain ⟨R, b, n, rfl, sR, Rb, hb, hq⟩ := h
    rfl
  · obtain ⟨R, b, n, rfl, sR, Rb, hb, hq⟩ := h
    refine ⟨_, (pss_cons (ps_set (i := 1) sc__law_layout.nd rfl (by first | exact Or.inl rfl | exact Or.inr rfl) (pe_ix (ixU (K := K)) (pe_lst (pa_cons (pe_tup (pa_cons pe_int (pa_cons pe_int (pa_cons pe_int pa_nil)))) (pa_cons (pe_tup (pa_cons pe_int (pa_cons pe_int (pa_cons pe_int pa_nil)))) (pa_cons (pe_tup (pa_cons pe_int (pa_cons pe_int (pa_cons pe_int pa_nil)))) (pa_cons (pe_tup (pa_cons pe_int (pa_cons pe_int (pa_cons pe_int pa_nil)))) (pa_cons (pe_tup (pa_cons pe_int (pa_cons pe_int (pa_cons pe_int pa_nil)))) (pa_cons (pe_tup (pa_cons pe_int (pa_cons pe_int (pa_cons pe_int pa_nil)))) pa_nil))))))) (pe_call G__law_take (hr.mono (by decide)) rfl T.g__law_take T.F__law_take.kp T.b__law_take .nil pass0 (pa_cons (pv 0) (pa_cons pe_int pa_nil))) (fun _ _ => rfl)))
      (pss_one (ps_ret (pe_make T.mk_Layout G_Layout___init__ (hr.mono (by decide)) rfl T.g_Layout T.b_Layout___init__ .nil pass0 (pa_cons (pe_ix (ixU (K := K)) (pv 1) pe_int (fun _ _ => rfl)) (pa_cons (pe_ix (ixU (K := K)) (pv 1) pe_int (fun _ _ => rfl)) (pa_cons (pe_ix (ixU (K := K)) (pv 1) pe_int (fun _ _ => rfl)) pa_nil))))))), ?_⟩
    try dsimp only [cxOf]
    fail "go"
    refine ⟨by fail "sz", ?_⟩
    fail "newM"
    rename_i t1 H1 n1 g1 m1 h1 s1
    fail "go"
    refine ⟨by fail "sz", ?_⟩
    fail "newM"
    rename_i t2 H2 n2 g2 m2 h2 s2
    fail "go"
    refine ⟨by fail "sz", ?_⟩
    fail "newM"
    rename_i t3 H3 n3 g3 m3 h3 s3
    fail "go"
    refine ⟨by fail "sz", ?_⟩
    fail "newM"
    rename_i t4 H4 n4 g4 m4 h4 s4
    fail "go"
    refine ⟨by fail "sz", ?_⟩
    fail "newM"
    rename_i t5 H5 n5 g5 m5 h5 s5
    fail "go"
    refine ⟨by fail "sz", ?_⟩
    fail "newM"
    rename_i t6 H6 n6 g6 m6 h6 s6
    fail "go"
    refine ⟨by fail "sz", ?_⟩
    fail "newM"
    rename_i l H7 n7 g7 m7 h7 s7
    fail "go"
    fail "mut"
    rename_i H8 g8 h8 s8
    have pick : ∃ (L : Lay) (t : Addr), L ∈ lays ∧ atI [V.ref t1, V.ref t2, V.ref t3, V.ref t4, V.ref t5, V.ref t6] (n % 6) = some (.ref t) ∧ SqT K H8 t [.int L.seg, .int L.blk, .int L.oct] := by
      have h0 := Int.emod_nonneg n (show (6 : Int) ≠ 0 by decide)
      have h1 := Int.emod_lt_of_pos n (show (0 : Int) < 6 by decide)
      have : n % 6 = 0 ∨ n % 6 = 1 ∨ n % 6 = 2 ∨ n % 6 = 3 ∨ n % 6 = 4 ∨ n % 6 = 5 := by omega
      rcases this with e | e | e | e | e | e <;> rw [e]
      · exact ⟨⟨4, 16, 64⟩, t1, by simp [lays], rfl, SqT.of (by fail "hp")⟩
      · exact ⟨⟨4, 16, 64⟩, t2, by simp [lays], rfl, SqT.of (by fail "hp")⟩
      · exact ⟨⟨5, 16, 64⟩, t3, by simp [lays], rfl, SqT.of (by fail "hp")⟩
      · exact ⟨⟨4, 16, 128⟩, t4, by simp [lays], rfl, SqT.of (by fail "hp")⟩
      · exact ⟨⟨4, 17, 64⟩, t5, by simp [lays], rfl, SqT.of (by fail "hp")⟩
      · exact ⟨⟨4, 16, 256⟩, t6, by simp [lays], rfl, SqT.of (by fail "hp")⟩
    obtain ⟨L, t, hL, hi, ht⟩ := pick
    refine g_ixL (SqL.of (by fail "hp")) hi ?_
    fail "go"
    intro p dx np ndx nex
    refine ⟨H8, p, dx, L, rfl, made_same np ndx, np, upd_same, lays_ok L hL, fun H9 s9 h9 => ⟨rfl, ?_⟩⟩
    fail "go"
    exact hq p H9 L (s8.trans s9) (s8.free np) ⟨_, s9 _ _ h8⟩ ⟨dx, h9⟩ hL
end
def lawCell0 (ns : List Int) (k : Int) : Int := if (0 : Int) < (ns.length : Int) then ns.getD (k % (ns.length : Int)).toNat 0 else 0
def lawCell (ns : List Int) (k : Int) : Int := if lawCell0 ns k < 0 then 1 - 2 * lawCell0 ns k else lawCell0 ns k
def lawMix1 (c k : Int) : Int := ((c + 7) * 48271 + (k + 3) * 69621) % 2147483647
def lawMix2 (c k : Int) : Int := ((lawMix1 c k + 11) * 16807 + (c + 1) * 40692 + k) % 2147483399
def lawMix (c k : Int) : Int := (lawMix1 c k * 2147483399 + lawMix2 c k * 31 + c) % 4611686014132420609
def lawNumber (ns : List Int) (k : Int) : Int := if 1000000000 ≤ lawCell ns k ∧ k < (ns.length : Int) then lawCell ns k else lawMix (lawCell ns k) k
def spNum (K : PySem.W.Frag) : Sp := fun vs H Q _ => ∃ (a : Addr) (ns : List Int) (k : Int), vs = [.ref a, .int k] ∧ SqL K H a (ns.map V.int) ∧ 0 ≤ k ∧ Q (.int (lawNumber ns k)) H
theorem atI_mod {ns : List Int} {k : Int} (h : (0 : Int) < (ns.length : Int)) : atI (ns.map V.int) (k % (ns.length : Int)) = some (.int (ns.getD (k % (ns.length : Int)).toNat 0)) := by
  have h1 := Int.emod_nonneg k (b := (ns.length : Int)) (by omega)
  have h2 := Int.emod_lt_of_pos k h
  obtain ⟨j, hj⟩ := Int.eq_ofNat_of_zero_le h1
  rw [hj]
  have hl : j < ns.length := by omega
  refine atI_nat ?_
  simp [hl, List.getD_eq_getElem?_getD]
theorem len_map {ns : List Int} : ((List.map V.int ns).length : Int) = (ns.length : Int) := by simp
section
variable {P : Program} {w : World} {K : PySem.W.Frag} {mg : Str → Option Value} {base : Heap}
theorem ok__law_number (T : Txt P K mg) : FnOk P w K mg base CX0 1 T.f__law_number T.fd__law_number ["script", "k"] (spNum K) := by
  refine T.F__law_number.ok sc__law_number (fun vs H Q E h => ?_) (fun cdv A outer s H vs Q E hr h => ?_)
  · obtain ⟨a, ns, k, rfl, hS, k0, hq⟩ := h
    rfl
  · obtain ⟨a, ns, k, rfl, hS, k0, hq⟩ := h
    refine ⟨_, (pss_cons (ps_set (i := 2) sc__law_number.nd rfl (by first | exact Or.inl rfl | exact Or.inr rfl) pe_int)
      (pss_cons (ps_if (pt_cmpR op_gt (pe_callB (callLenU (K := K)) (by rfl) T.n_len (by decide +kernel) (pa_cons (pv 0) pa_nil)) pe_int (nomark _)) (pss_one (ps_set (i := 2) sc__law_number.nd rfl (by first | exact Or.inl rfl | exact Or.inr rfl) (pe_ix (ixU (K := K)) (pv 0) (pe_op opModU (pe_callTy callIntU (by rfl) T.n_int (by decide +kernel) (pa_cons (pv 1) pa_nil)) (pe_callB (callLenU (K := K)) (by rfl) T.n_len (by decide +kernel) (pa_cons (pv 0) pa_nil))) (fun _ _ => rfl)))) pss_nil)
      (pss_cons (ps_if (pt_cmpR op_lt (pv 2) pe_int (nomark _)) (pss_one (ps_set (i := 2) sc__law_number.nd rfl (by first | exact Or.inl rfl | exact Or.inr rfl) (pe_op opSubU pe_int (pe_op opMultU pe_int (pv 2))))) pss_nil)
      (pss_cons (ps_if (PW.pt (pw_and (pt_cmpR op_ge (pv 2) (pe_op opPowU pe_int pe_int) (nomark _)) (pw_and1 (pt_cmpR op_lt (pv 1) (pe_callB (callLenU (K := K)) (by rfl) T.n_len (by decide +kernel) (pa_cons (pv 0) pa_nil)) (nomark _))))) (pss_one (ps_ret (pv 2))) pss_nil)
      (pss_cons (ps_set (i := 3) sc__law_number.nd rfl (by first | exact Or.inl rfl | exact Or.inr rfl) (pe_op opModU (pe_callTy callIntU (by rfl) T.n_int (by decide +kernel) (pa_cons (pe_op (opAddU (K := K)) (pe_op opMultU (pe_op (opAddU (K := K)) (pv 2) pe_int) pe_int) (pe_op opMultU (pe_op (opAddU (K := K)) (pv 1) pe_int) pe_int)) pa_nil)) pe_int))
      (pss_cons (ps_set (i := 4) sc__law_number.nd rfl (by first | exact Or.inl rfl | exact Or.inr rfl) (pe_op opModU (pe_callTy callIntU (by rfl) T.n_int (by decide +kernel) (pa_cons (pe_op (opAddU (K := K)) (pe_op (opAddU (K := K)) (pe_op opMultU (pe_op (opAddU (K := K)) (pv 3) pe_int) pe_int) (pe_op opMultU (pe_op (opAddU (K := K)) (pv 2) pe_int) pe_int)) (pv 1)) pa_nil)) pe_int))
      (pss_one (ps_ret (pe_op opModU (pe_callTy callIntU (by rfl) T.n_int (by decide +kernel) (pa_cons (pe_op (opAddU (K := K)) (pe_op (opAddU (K := K)) (pe_op opMultU (pv 3) pe_int) (pe_op opMultU (pv 4) pe_int)) (pv 2)) pa_nil)) pe_int))))))))), ?_⟩
    try dsimp only [cxOf]
    fail "go"
    rw [len_map]
    refine g_joinI (fun x => x = .int (lawCell0 ns k)) rfl (fun h Q' q' => ?_) (fun h => ?_) (fun x hx => ?_)
    · fail "go"
      rw [len_map]
      fail "go"
      refine g_ixL hS (atI_mod h) (q' _ ?_)
      rw [lawCell0, if_pos h]
    · rw [lawCell0, if_neg h]
    subst hx
    fail "go"
    refine g_joinI (fun x => x = .int (lawCell ns k)) rfl (fun h Q' q' => ?_) (fun h => ?_) (fun x hx => ?_)
    · fail "go"
      refine q' _ ?_
      rw [lawCell, if_pos h]
    · rw [lawCell, if_neg h]
    subst hx
    fail "go"
    have e9 : (10 : Int) ^ Int.toNat 9 = 1000000000 := by decide
    rw [e9]
    refine g_ite (fun h1 => ?_) (fun h1 => ?_)
    · fail "go"
      rw [len_map]
      refine g_ite (fun h2 => ?_) (fun h2 => ?_)
      · fail "go"
        rw [lawNumber, if_pos ⟨h1, h2⟩] at hq
        exact hq
      · fail "go"
        rw [lawNumber, if_neg (fun z => h2 z.2)] at hq
        exact hq
    · fail "go"
      rw [lawNumber, if_neg (fun z => h1 z.1)] at hq
      exact hq
end
def spOctets : Sp := fun vs H Q _ => ∃ (n : Int) (k : Nat), vs = [.int n, .int (k : Int)] ∧ k ≤ 100 ∧ ∀ p H', Same H H' → H p = none → H' p = some (.lst ((lows n k).map V.int)) → Q (.ref p) H'
def LowInv (R : Hp) (n : Int) (k : Nat) (p : Addr) (i : Nat) (σ : St) (H : Hp) : Prop := ∃ x : Option V, σ = [some (.int (lowsRest n i)), some (.int (k : Int)), some (.ref p), x] ∧ Same R H ∧ H p = some (.lst ((lows n i).map V.int))
local macro_rules | `(tactic| fail "calls") => `(tactic| ((with_reducible show spOctets _ _ _ _); first | refine ⟨_, 6, rfl, by omega, ?_⟩ | refine ⟨_, 2, rfl, by omega, ?_⟩ | refine ⟨_, 3, rfl, by omega, ?_⟩))
section
variable {P : Program} {w : World} {K : PySem.W.Frag} {mg : Str → Option Value} {base : Heap}
theorem ok__law_low (T : Txt P K mg) : FnOk P w K mg base CX0 1 T.f__law_low T.fd__law_low ["number", "count"] (spOctets) := by
  refine T.F__law_low.ok sc__law_low (fun vs H Q E h => ?_) (fun cdv A outer s H vs Q E hr h => ?_)
  · obtain ⟨n, k, rfl, hk, hq⟩ := h
    rfl
  · obtain ⟨n, k, rfl, hk, hq⟩ := h
    refine ⟨_, (pss_cons (ps_set (i := 2) sc__law_low.nd rfl (by first | exact Or.inl rfl | exact Or.inr rfl) (pe_lst pa_nil))
      (pss_cons (ps_for PassesOwn.never rfl (pi_range1 rfl T.n_range (pa_cons (pv 1) pa_nil)) (pg_name (i := 3) sc__law_low.nd rfl (by first | exact Or.inl rfl | exact Or.inr rfl)) (pss_cons (ps_expr (pe_bm PySem.F.plainAttrs_list PySem.F.slot_list_append PySem.F.type_list_append mt_append (pv 2) (pa_cons (pe_op opModU (pe_callTy callIntU (by rfl) T.n_int (by decide +kernel) (pa_cons (pv 0) pa_nil)) pe_int) pa_nil)))
      (pss_one (ps_set (i := 0) sc__law_low.nd rfl (by first | exact Or.inl rfl | exact Or.inr rfl) (pe_op opFloorDivU (pv 0) pe_int)))))
      (pss_one (ps_ret (pv 2))))), ?_⟩
    try dsimp only [cxOf]
    have r0 := Same.refl H
    fail "go"
    refine ⟨by fail "sz", ?_⟩
    fail "newM"
    rename_i p H1 n1 g1 m1 h1 s1
    fail "go"
    refine g_R1W rfl (by omega) ?_
    refine for_range (lo := 0) (n := k) (LowInv H n k p) ⟨none, rfl, s1, h1⟩ ?_ ?_
    · rintro i σ H2 hi ⟨x0, rfl, s2, h2⟩
      fail "go"
      rename_i H3 g3 h3 s3
      fail "go"
      refine ⟨some (.int (0 + (i : Int))), ?_, s3, ?_⟩
      · rw [lowsRest_succ]; rfl
      · rw [lows_succ, List.map_append]; exact h3
    · rintro σ H2 ⟨x0, rfl, s2, h2⟩
      fail "go"
      exact hq _ _ s2 m1 h2
end
def spLawOcts (K : PySem.W.Frag) (C : Addr) : Sp := fun vs H Q _ => ∃ (a : Addr) (v : V) (L : Lay) (b : Option Blk), vs = [.ref a, v] ∧ LayAt C H a L ∧ L.Ok ∧ Dp K H v (optD b) ∧ FullO L b ∧
  ∀ p H', Same H H' → H p = none → H' p = some (.lst ((octs L b).map V.int)) → Q (.ref p) H'
def LoInv (R : Hp) (a t : Addr) (b : Blk) (i : Nat) (σ : St) (H : Hp) : Prop := ∃ (x : Option V) (p : Addr), σ = [some (.ref a), some (.ref t), some (.ref p), x] ∧ Same R H ∧ R p = none ∧ H p = some (.lst ((headOf b ++ pairs (b.body.take i)).map V.int))
section
variable {P : Program} {w : World} {K : PySem.W.Frag} {mg : Str → Option Value} {base : Heap}
theorem ok__law_octets (T : Txt P K mg) : FnOk P w K mg base CX0 2 T.f__law_octets T.fd__law_octets ["layout", "block"] (spLawOcts K T.C_Layout) := by
  have cl_Layout := T.cl_Layout
  have a_Layout_block_size := T.a_Layout_block_size
  have G__law_low := ok__law_low (P := P) (w := w) (base := base) T
  refine T.F__law_octets.ok sc__law_octets (fun vs H Q E h => ?_) (fun cdv A outer s H vs Q E hr h => ?_)
  · obtain ⟨a, v, L, b, rfl, ⟨dx, ha⟩, hL, hv, hb, hq⟩ := h
    rfl
  · obtain ⟨a, v, L, b, rfl, ⟨dx, ha⟩, hL, hv, hb, hq⟩ := h
    refine ⟨_, (pss_cons (ps_if (pt_cmpR opIsU (pv 1) pe_non (nomark _)) (pss_one (ps_ret (pe_op opMultU (pe_lst (pa_cons pe_int pa_nil)) (pe_op (opAddU (K := K)) pe_int (pe_fldK (K := K) (pv 0) rfl))))) pss_nil)
      (pss_cons (ps_set (i := 2) sc__law_octets.nd rfl (by first | exact Or.inl rfl | exact Or.inr rfl) (pe_op (opAddU (K := K)) (pe_op (opAddU (K := K)) (pe_op (opAddU (K := K)) (pe_lst (pa_cons (pe_ix (ixU (K := K)) (pv 1) pe_int (fun _ _ => rfl)) pa_nil)) (pe_call G__law_low (hr.mono (by decide)) rfl T.g__law_low T.F__law_low.kp T.b__law_low .nil pass0 (pa_cons (pe_ix (ixU (K := K)) (pv 1) pe_int (fun _ _ => rfl)) (pa_cons pe_int pa_nil)))) (pe_call G__law_low (hr.mono (by decide)) rfl T.g__law_low T.F__law_low.kp T.b__law_low .nil pass0 (pa_cons (pe_ix (ixU (K := K)) (pv 1) pe_int (fun _ _ => rfl)) (pa_cons pe_int pa_nil)))) (pe_op opMultU (pe_lst (pa_cons pe_int pa_nil)) pe_int)))
      (pss_cons (ps_if (pt_cmpR (opEqU (K := K) hr.units) (pe_ix (ixU (K := K)) (pv 1) pe_int (fun _ _ => rfl)) pe_int (nomark _)) (pss_one (ps_ret (pe_op (opAddU (K := K)) (pv 2) (pe_callTy (callListU (K := K)) (by rfl) T.n_list (by decide +kernel) (pa_cons (pe_ix (ixU (K := K)) (pv 1) pe_int (fun _ _ => rfl)) pa_nil))))) pss_nil)
      (pss_cons (ps_for PassesOwn.never rfl (pi_tupK (K := K) (pe_ix (ixU (K := K)) (pv 1) pe_int (fun _ _ => rfl))) (pg_name (i := 3) sc__law_octets.nd rfl (by first | exact Or.inl rfl | exact Or.inr rfl)) (pss_one (ps_set (i := 2) sc__law_octets.nd rfl (by first | exact Or.inl rfl | exact Or.inr rfl) (pe_op (opAddU (K := K)) (pv 2) (pe_call G__law_low (hr.mono (by decide)) rfl T.g__law_low T.F__law_low.kp T.b__law_low .nil pass0 (pa_cons (pv 3) (pa_cons pe_int pa_nil)))))))
      (pss_one (ps_ret (pv 2))))))), ?_⟩
    try dsimp only [cxOf]
    have r0 := Same.refl H
    have o1 := hL.o1
    cases b with
    | none =>
      obtain rfl := dp_non hv
      fail "go"
      refine ⟨by fail "sz", ?_⟩
      fail "newM"
      rename_i z H2 n2 g2 m2 h2 s2
      fail "go"
      refine g_repZ (by fail "hp") (by omega) (by omega) ?_
      fail "newM"
      rename_i y H3 n3 g3 m3 h3 s3
      exact hq _ _ s3 m3 h3
    | some b =>
      obtain ⟨t, u, rfl, ht, hu⟩ := dpBlk hv
      have hf : Full L b := hb
      rw [octs_full hf] at hq
      fail "go"
      refine ⟨by fail "sz", ?_⟩
      fail "newM"
      rename_i z H1 n1 g1 m1 h1 s1
      fail "go"
      fail "ret"
      rename_i p2 H2 h2 f2 g2 m2 s2
      refine g_catI (l := [b.kind]) (by fail "hp") h2 (by simp) ?_
      fail "newM"
      rename_i p3 H3 n3 g3 m3 h3 s3
      fail "go"
      fail "ret"
      rename_i p4 H4 h4 f4 g4 m4 s4
      refine g_catI (by fail "hp") h4 (by simp) ?_
      fail "newM"
      rename_i p5 H5 n5 g5 m5 h5 s5
      fail "go"
      refine ⟨by fail "sz", ?_⟩
      fail "newM"
      rename_i p6 H6 n6 g6 m6 h6 s6
      fail "go"
      refine g_repZ (by fail "hp") (by simp) (by simp) ?_
      fail "newM"
      rename_i p7 H7 n7 g7 m7 h7 s7
      refine g_catI (by fail "hp") h7 (by simp) ?_
      fail "newM"
      rename_i p8 H8 n8 g8 m8 h8 s8
      have h8' : H8 p8 = some (.lst ((headOf b).map V.int)) := h8
      clear h8
      fail "go"
      refine g_ite (fun e => ?_) (fun e => ?_)
      · have hd := hf.d e
        fail "go"
        refine g_listT (by fail "sq") ?_
        fail "newM"
        rename_i y H9 n9 g9 m9 h9 s9
        fail "go"
        refine g_catI (by fail "hp") h9 (by simp; omega) ?_
        fail "newM"
        rename_i w HA nA gA mA hA sA
        refine hq _ _ sA mA ?_
        rw [hA, found, if_pos e]
      · have hd := hf.p e
        have hr := hf.r e
        rw [found, if_neg e] at hq
        fail "go"
        refine g_TsW (by fail "sq") ?_
        refine for_tup (K := K) (xs := b.body.map V.int) (LoInv H a t b) ⟨none, p8, rfl, s8, m8, by rw [h8']; simp [pairs]⟩ (fun i σ H2 _ ⟨_, _, _, s2, _⟩ => sqT_mono s2 hu) ?_ ?_
        · rintro i x σ H9 hi ⟨x0, p, rfl, s9, m9, h9⟩
          obtain ⟨n, hn, rfl⟩ := map_get hi
          have hil : i < b.body.length := (List.getElem?_eq_some_iff.mp hn).1
          fail "go"
          fail "ret"
          rename_i pA HA hA fA gA mA sA
          refine g_catI (by fail "hp") hA (by simp; omega) ?_
          fail "newM"
          rename_i w HB nB gB mB hB sB
          fail "go"
          refine ⟨some (.int n), w, rfl, sB, mB, ?_⟩
          rw [hB, take_snoc hn, pairs_snoc, pair_low (hr n (List.mem_of_getElem? hn)), List.append_assoc]
        · rintro σ H9 ⟨x0, p, rfl, s9, m9, h9⟩
          rw [List.length_map, List.take_length] at h9
          fail "go"
          exact hq _ _ s9 m9 h9
end
def spLawCheck (K : PySem.W.Frag) (C : Addr) : Sp := fun vs H Q _ => ∃ (a : Addr) (v : V) (L : Lay) (n : Int) (b : Option Blk), vs = [.ref a, .int n, v] ∧ LayAt C H a L ∧ L.Ok ∧ Dp K H v (optD b) ∧ FullO L b ∧ ∀ H', Same H H' → Q (.int (chk L n b)) H'
def LChkInv (R : Hp) (a : Addr) (v : V) (n : Int) (os : List Int) (i : Nat) (σ : St) (H : Hp) : Prop := ∃ x : Option V, σ = [some (.ref a), some (.int n), some v, some (.int ((os.take i).foldl chkStep (n + 1))), x] ∧ Same R H
section
variable {P : Program} {w : World} {K : PySem.W.Frag} {mg : Str → Option Value} {base : Heap}
theorem ok__law_check (T : Txt P K mg) : FnOk P w K mg base CX0 3 T.f__law_check T.fd__law_check ["layout", "address", "block"] (spLawCheck K T.C_Layout) := by
  have G__law_octets := ok__law_octets (P := P) (w := w) (base := base) T
  refine T.F__law_check.ok sc__law_check (fun vs H Q E h => ?_) (fun cdv A outer s H vs Q E hr h => ?_)
  · obtain ⟨a, v, L, n, b, rfl, ha, hL, hv, hb, hq⟩ := h
    rfl
  · obtain ⟨a, v, L, n, b, rfl, ha, hL, hv, hb, hq⟩ := h
    refine ⟨_, (pss_cons (ps_set (i := 3) sc__law_check.nd rfl (by first | exact Or.inl rfl | exact Or.inr rfl) (pe_op (opAddU (K := K)) (pv 1) pe_int))
      (pss_cons (ps_for PassesOwn.never rfl (pi_listK (K := K) (pe_call G__law_octets (hr.mono (by decide)) rfl T.g__law_octets T.F__law_octets.kp T.b__law_octets .nil pass0 (pa_cons (pv 0) (pa_cons (pv 2) pa_nil)))) (pg_name (i := 4) sc__law_check.nd rfl (by first | exact Or.inl rfl | exact Or.inr rfl)) (pss_one (ps_set (i := 3) sc__law_check.nd rfl (by first | exact Or.inl rfl | exact Or.inr rfl) (pe_op opModU (pe_callTy callIntU (by rfl) T.n_int (by decide +kernel) (pa_cons (pe_op (opAddU (K := K)) (pe_op (opAddU (K := K)) (pe_op opMultU (pv 3) pe_int) (pv 4)) pe_int) pa_nil)) pe_int))))
      (pss_one (ps_ret (pv 3))))), ?_⟩
    try dsimp only [cxOf]
    have r0 := Same.refl H
    fail "go"
    refine ⟨a, v, L, b, rfl, ha, hL, hv, hb, ?_⟩
    fail "ret"
    rename_i p H1 h1 f1 g1 m1 s1
    refine g_LsW (SqL.of h1) ?_
    refine for_list (K := K) (xs := (octs L b).map V.int) (LChkInv H1 a v n (octs L b)) ⟨none, rfl, Same.refl H1⟩ (fun i σ H2 _ ⟨_, _, s2⟩ => SqL.of (s2 _ _ h1)) ?_ ?_
    · rintro i x σ H2 hi ⟨x0, rfl, s2⟩
      obtain ⟨o, ho, rfl⟩ := map_get hi
      fail "go"
      refine ⟨some (.int o), ?_, s2⟩
      rw [take_snoc ho, List.foldl_append]; rfl
    · rintro σ H2 ⟨x0, rfl, s2⟩
      rw [List.length_map, List.take_length]
      fail "go"
      exact hq _ (s1.trans s2)
end
def spLawSealed (K : PySem.W.Frag) (C : Addr) : Sp := fun vs H Q _ => ∃ (R : Hp) (a : Addr) (v : V) (L : Lay) (n : Int) (b : Option Blk), vs = [.ref a, .int n, v] ∧ Same R H ∧ LayAt C R a L ∧ L.Ok ∧ Dp K R v (optD b) ∧ FullO L b ∧ ∀ w R' H', Gr [] R H R' H' → Dp K R' w (cellD (sealOf L n b)) → Q w H'
section
variable {P : Program} {w : World} {K : PySem.W.Frag} {mg : Str → Option Value} {base : Heap}
theorem ok__law_sealed (T : Txt P K mg) : FnOk P w K mg base CX0 4 T.f__law_sealed T.fd__law_sealed ["layout", "address", "block"] (spLawSealed K T.C_Layout) := by
  have G__law_check := ok__law_check (P := P) (w := w) (base := base) T
  refine T.F__law_sealed.ok sc__law_sealed (fun vs H Q E h => ?_) (fun cdv A outer s H vs Q E hr h => ?_)
  · obtain ⟨R, a, v, L, n, b, rfl, sR, ⟨lx, haf⟩, hL, hv, hb, hq⟩ := h
    rfl
  · obtain ⟨R, a, v, L, n, b, rfl, sR, ⟨lx, haf⟩, hL, hv, hb, hq⟩ := h
    refine ⟨_, (pss_cons (ps_if (pt_cmpR opIsU (pv 2) pe_non (nomark _)) (pss_one (ps_ret pe_non)) pss_nil)
      (pss_one (ps_ret (pe_tup (pa_cons (pv 2) (pa_cons (pe_call G__law_check (hr.mono (by decide)) rfl T.g__law_check T.F__law_check.kp T.b__law_check .nil pass0 (pa_cons (pv 0) (pa_cons (pv 1) (pa_cons (pv 2) pa_nil)))) pa_nil)))))), ?_⟩
    try dsimp only [cxOf]
    rcases optV hv with ⟨rfl, rfl⟩ | ⟨c, t, rfl, rfl⟩
    · fail "go"
      exact hq _ R H (Gr.refl sR) .non
    · fail "go"
      refine ⟨a, _, L, n, some c, rfl, ⟨_, sR _ _ haf⟩, hL, dp_mono sR hv, hb, fun H1 s1 => ?_⟩
      have gA : Mu [] R H H1 := .ofSame sR s1
      have s01 := gA.g.rh
      clear sR
      fail "go"
      refine ⟨by fail "sz", ?_⟩
      fail "newR"
      rename_i p H2 R2 n2 g2 h2 s2
      exact hq _ R2 H2 (gA.g.trans g2) (.tup (SqT.of h2) (.cons (dp_mono g2.rr hv) (.cons (.int _) .nil)))
end
def spLawLb (K : PySem.W.Frag) (C : Addr) : Sp := fun vs H Q _ => ∃ (a : Addr) (v : V) (L : Lay) (n : Int) (l : Lb), vs = [.ref a, .int n, v] ∧ LayAt C H a L ∧ L.Ok ∧ Dp K H v l.d ∧ l.forks.length ≤ 300 ∧ (∀ f ∈ l.forks, 0 ≤ f ∧ f < 16777216) ∧ ∀ w H', Same H H' → Dp K H' w (labelBlk L n l).d → NewDp K H H' w (labelBlk L n l).d → Q w H'
theorem bits_step' (l : List Int) {j : Nat} (h : j < 3) : (bits l).take (j + 1) = (bits l).take j ++ [if decide (0 + (j : Int) ∈ l) = true then 1 else 0] := by
  match j, h with
  | 0, _ => simp [bits, bit]
  | 1, _ => simp [bits, bit]
  | 2, _ => simp [bits, bit]
def LlForks (R : Hp) (a t : Addr) (n : Int) (l : Lb) (i : Nat) (σ : St) (H : Hp) : Prop := ∃ (p : Addr) (x y : Option V), σ = [some (.ref a), some (.int n), some (.ref t), some (.ref p), x, y] ∧ Same R H ∧ R p = none ∧ H p = some (.lst ((labelHead n l ++ fork3 (l.forks.take i)).map V.int))
section
variable {P : Program} {w : World} {K : PySem.W.Frag} {mg : Str → Option Value} {base : Heap}
theorem ok__law_label_block (T : Txt P K mg) : FnOk P w K mg base CX0 2 T.f__law_label_block T.fd__law_label_block ["layout", "seat", "label"] (spLawLb K T.C_Layout) := by
  have cl_Layout := T.cl_Layout
  have a_Layout_block_size := T.a_Layout_block_size
  have G__law_low := ok__law_low (P := P) (w := w) (base := base) T
  refine T.F__law_label_block.ok sc__law_label_block (fun vs H Q E h => ?_) (fun cdv A outer s H vs Q E hr h => ?_)
  · obtain ⟨a, v, L, n, l, rfl, ⟨dx, ha⟩, hL, dv, hf, hrg, hq⟩ := h
    rfl
  · obtain ⟨a, v, L, n, l, rfl, ⟨dx, ha⟩, hL, dv, hf, hrg, hq⟩ := h
    refine ⟨_, (pss_cons (ps_set (i := 3) sc__law_label_block.nd rfl (by first | exact Or.inl rfl | exact Or.inr rfl) (pe_op (opAddU (K := K)) (pe_lst (pa_cons pe_int (pa_cons pe_int (pa_cons pe_int (pa_cons pe_int (pa_cons pe_int (pa_cons (pv 1) pa_nil))))))) (pe_lc (own := [("other", 5)]) (g := gName 5) (tt := tYes) rfl sc__law_label_block.nd (pi_range1 rfl T.n_range (pa_cons pe_int pa_nil)) (blkOk_by (N := N__law_label_block) (sc := defScope s__law_label_block) (by decide +kernel)) (fun _ _ _ _ _ => (pg_name (i := 5) sc__law_label_block.nd rfl (by first | exact Or.inl rfl | exact Or.inr rfl))) (fun _ _ _ _ _ => pts_nil) (fun _ _ _ _ _ => (pe_callTy callIntU (by rfl) T.n_int (by decide +kernel) (pa_cons (pe_cmpR (opInF (K := K)) (pv 5) (pe_ix (ixU (K := K)) (pv 2) pe_int (fun _ _ => rfl)) (by rfl)) pa_nil))))))
      (pss_cons (ps_set (i := 3) sc__law_label_block.nd rfl (by first | exact Or.inl rfl | exact Or.inr rfl) (pe_op (opAddU (K := K)) (pe_op (opAddU (K := K)) (pv 3) (pe_lc (own := [("other", 5)]) (g := gName 5) (tt := tYes) rfl sc__law_label_block.nd (pi_range1 rfl T.n_range (pa_cons pe_int pa_nil)) (blkOk_by (N := N__law_label_block) (sc := defScope s__law_label_block) (by decide +kernel)) (fun _ _ _ _ _ => (pg_name (i := 5) sc__law_label_block.nd rfl (by first | exact Or.inl rfl | exact Or.inr rfl))) (fun _ _ _ _ _ => pts_nil) (fun _ _ _ _ _ => (pe_callTy callIntU (by rfl) T.n_int (by decide +kernel) (pa_cons (pe_cmpR (opInF (K := K)) (pv 5) (pe_ix (ixU (K := K)) (pv 2) pe_int (fun _ _ => rfl)) (by rfl)) pa_nil))))) (pe_lst (pa_cons (pe_callB (callLenU (K := K)) (by rfl) T.n_len (by decide +kernel) (pa_cons (pe_ix (ixU (K := K)) (pv 2) pe_int (fun _ _ => rfl)) pa_nil)) pa_nil))))
      (pss_cons (ps_for PassesOwn.never rfl (pi_tupK (K := K) (pe_ix (ixU (K := K)) (pv 2) pe_int (fun _ _ => rfl))) (pg_name (i := 4) sc__law_label_block.nd rfl (by first | exact Or.inl rfl | exact Or.inr rfl)) (pss_one (ps_set (i := 3) sc__law_label_block.nd rfl (by first | exact Or.inl rfl | exact Or.inr rfl) (pe_op (opAddU (K := K)) (pv 3) (pe_call G__law_low (hr.mono (by decide)) rfl T.g__law_low T.F__law_low.kp T.b__law_low .nil pass0 (pa_cons (pv 4) (pa_cons pe_int pa_nil)))))))
      (pss_one (ps_ret (pe_tup (pa_cons pe_int (pa_cons (pe_ix (ixU (K := K)) (pv 2) pe_int (fun _ _ => rfl)) (pa_cons pe_int (pa_cons (pe_callTy (callTupU (K := K)) (by rfl) T.n_tuple (by decide +kernel) (pa_cons (pe_op (opAddU (K := K)) (pv 3) (pe_op opMultU (pe_lst (pa_cons pe_int pa_nil)) (pe_op opSubU (pe_fldK (K := K) (pv 0) rfl) (pe_callB (callLenU (K := K)) (by rfl) T.n_len (by decide +kernel) (pa_cons (pv 3) pa_nil))))) pa_nil)) pa_nil)))))))))), ?_⟩
    try dsimp only [cxOf]
    have r0 := Same.refl H
    obtain ⟨t, m, b, f, rfl, ht, hm, hb, hfk⟩ := dpLb dv
    fail "go"
    refine ⟨by fail "sz", ?_⟩
    fail "newM"
    rename_i p2 H2 n2 g2 m2 h2 s2
    fail "go"
    refine g_R1W (n := 3) rfl (by decide) ?_
    intro D3 nD3
    refine lc_range (lo := 0) (n := 3) (fun j H' => Same H2 H' ∧ H' D3 = some (.lst (((bits l.mem).take j).map V.int))) ⟨(Gr.newM (M := []) (Same.refl H2) nD3).rh, upd_same⟩ ?_ ?_
    · rintro j HX hj ⟨sX, hX⟩
      refine ⟨rfl, ?_⟩
      have tX := sqT_mono (s2.trans sX) ht
      have mX := sqT_mono (s2.trans sX) hm
      have bl : (bits l.mem).length = 3 := rfl
      fail "go"
      refine g_inF (.inr mX) rfl (flat_ints _) ?_
      rw [inV_ints]
      fail "go"
      refine ⟨_, hX, by rw [List.length_map, List.length_take]; fail "sz", fun b o q => by rw [upd_ne (ne_of_none q nD3)]; exact sX _ _ q, ?_⟩
      rw [upd_same, bits_step' _ hj, List.map_append]; rfl
    rintro H3 ⟨s23, h3⟩
    have s3 := s2.trans s23
    have h3' : H3 D3 = some (.lst ((bits l.mem).map V.int)) := h3
    try dsimp only
    refine g_catI (a := p2) (l := [83, 73, 68, 69, 1, n]) (s23 _ _ h2) h3' (by simp [bits]) ?_
    fail "newM"
    rename_i p4 H4 n4 g4 m4 h4 s4
    clear g4 h3 h3' s23 s3 g2 h2
    fail "go"
    refine g_R1W (n := 3) rfl (by decide) ?_
    intro D5 nD5
    refine lc_range (lo := 0) (n := 3) (fun j H' => Same H4 H' ∧ H' D5 = some (.lst (((bits l.bef).take j).map V.int))) ⟨(Gr.newM (M := []) (Same.refl H4) nD5).rh, upd_same⟩ ?_ ?_
    · rintro j HX hj ⟨sX, hX⟩
      refine ⟨rfl, ?_⟩
      have tX := sqT_mono (s4.trans sX) ht
      have mX := sqT_mono (s4.trans sX) hb
      have bl : (bits l.bef).length = 3 := rfl
      fail "go"
      refine g_inF (.inr mX) rfl (flat_ints _) ?_
      rw [inV_ints]
      fail "go"
      refine ⟨_, hX, by rw [List.length_map, List.length_take]; fail "sz", fun b o q => by rw [upd_ne (ne_of_none q nD5)]; exact sX _ _ q, ?_⟩
      rw [upd_same, bits_step' _ hj, List.map_append]; rfl
    rintro H5 ⟨s45, h5⟩
    have s5 := s4.trans s45
    have h5' : H5 D5 = some (.lst ((bits l.bef).map V.int)) := h5
    try dsimp only
    refine g_catI (a := p4) (s45 _ _ h4) h5' (by simp [bits]) ?_
    fail "newM"
    rename_i p6 H6 n6 g6 m6 h6 s6
    clear g6 h5 h5' s45 s5 h4
    fail "go"
    rw [List.length_map]
    refine ⟨by fail "sz", ?_⟩
    fail "newM"
    rename_i p7 H7 n7 g7 m7 h7 s7
    refine g_catI (m := [(l.forks.length : Int)]) (by fail "hp") h7 (by simp [bits]) ?_
    fail "newM"
    rename_i p8 H8 n8 g8 m8 h8 s8
    clear g7 g8 h6 h7 s6 s7
    fail "go"
    refine g_TsW (by fail "sq") ?_
    have h8' : H8 p8 = some (.lst ((labelHead n l ++ fork3 (l.forks.take 0)).map V.int)) := by rw [h8]; simp [labelHead, fork3]
    refine for_tup (K := K) (xs := l.forks.map V.int) (LlForks H a t n l) ⟨p8, none, none, rfl, s8, m8, h8'⟩ (fun i σ HX _ ⟨_, _, _, _, sX, _⟩ => sqT_mono sX hfk) ?_ ?_
    · clear h8 h8' s8 r0
      rintro i x σ H10 hi ⟨p, x0, x1, rfl, s10, m10, h10⟩
      obtain ⟨o, ho, rfl⟩ := map_get hi
      have hil : i < l.forks.length := (List.getElem?_eq_some_iff.mp ho).1
      have htl : (l.forks.take i).length = i := by rw [List.length_take]; omega
      have fl : (fork3 (l.forks.take i)).length = 3 * i := by rw [fork3_len, htl]
      have oo := hrg o (List.mem_of_getElem? ho)
      fail "go"
      fail "ret"
      rename_i p11 H11 h11 f11 g11 m11 s11
      refine g_catI (a := p) (l := labelHead n l ++ fork3 (l.forks.take i)) (m := lows o 3) (by fail "hp") h11 (by rw [List.length_append, labelHead_len, fl]; simp; omega) ?_
      fail "newM"
      rename_i p12 H12 n12 g12 m12 h12 s12
      fail "go"
      refine ⟨p12, _, _, rfl, s12, m12, ?_⟩
      rw [h12, take_snoc ho, fork3_snoc, List.append_assoc]
    · clear h8 h8' s8 r0
      rintro σ H10 ⟨p, x0, x1, rfl, s10, m10, h10⟩
      rw [List.length_map, List.take_length] at h10
      have o1 := hL.o1
      have fl := labelFront_len n l
      change H10 p = some (.lst ((labelFront n l).map V.int)) at h10
      fail "go"
      refine ⟨by fail "sz", ?_⟩
      fail "newM"
      rename_i p11 H11 n11 g11 m11 h11 s11
      fail "go"
      rw [List.length_map]
      refine g_repZ h11 (by omega) (by omega) ?_
      fail "newM"
      rename_i p12 H12 n12 g12 m12 h12 s12
      refine g_catI (a := p) (l := labelFront n l) (by fail "hp") h12 (by rw [List.length_replicate]; omega) ?_
      fail "newM"
      rename_i p13 H13 n13 g13 m13 h13 s13
      fail "go"
      refine g_tupL (SqL.of h13) ?_
      fail "newM"
      rename_i p14 H14 n14 g14 m14 h14 s14
      fail "go"
      refine ⟨by fail "sz", ?_⟩
      fail "newM"
      rename_i p15 H15 n15 g15 m15 h15 s15
      have h14' : H15 p14 = some (.tup ((labelOcts L n l).map V.int)) := g15.g.hh _ _ (by simp) h14
      exact hq _ _ s15 (.tup (SqT.of h15) (.cons (.int _) (.cons (.int _) (.cons (.int _) (.cons (.tup (SqT.of h14') (dpAll_ints _)) .nil))))) (fun R => .tup (SqT.of (adopt_at m15 h15)) (.cons (.int _) (.cons (.int _) (.cons (.int _) (.cons (.tup (SqT.of (adopt_at m14 h14')) (dpAll_ints _)) .nil)))))
end
def spLabCell (K : PySem.W.Frag) (CL : Addr) : Sp := fun vs H Q _ => ∃ (R : Hp) (a : Addr) (v : V) (L : Lay) (n : Int) (l : Lb) (i : Nat), vs = [.ref a, .int n, v, .int (i : Int)] ∧ Same R H ∧ LayAt CL R a L ∧ L.Ok ∧ 0 ≤ n ∧ n < 3 ∧ Dp K H v l.d ∧ 0 ≤ l.gen ∧ l.forks.length ≤ 16 ∧ (∀ f ∈ l.forks, 0 ≤ f ∧ f < 16777216) ∧
  ∀ p w R' H', Gr [] R H R' H' → H p = none → R' p = none → H' p = some (.lst [.int (L.device + (i : Int)), w]) → Dp K R' w (cellD (sealOf L (L.device + (i : Int)) (some (labelBlk L n l)))) → Q (.ref p) H'
theorem adopt_refl {R H : Hp} (sR : Same R H) : adopt R H H = R := by
  funext b
  unfold adopt
  split
  · rename_i e; rw [e, sR.free e]
  · rfl
section
variable {P : Program} {w : World} {K : PySem.W.Frag} {mg : Str → Option Value} {base : Heap}
theorem ok__law_label_cell (T : Txt P K mg) : FnOk P w K mg base CX0 5 T.f__law_label_cell T.fd__law_label_cell ["layout", "seat", "label", "slot"] (spLabCell K T.C_Layout) := by
  have cl_Layout := T.cl_Layout
  have a_Layout_device_blocks := T.a_Layout_device_blocks
  have G__law_sealed := ok__law_sealed (P := P) (w := w) (base := base) T
  have G__law_label_block := ok__law_label_block (P := P) (w := w) (base := base) T
  refine T.F__law_label_cell.ok sc__law_label_cell (fun vs H Q E h => ?_) (fun cdv A outer s H vs Q E hr h => ?_)
  · obtain ⟨R, a, v, L, n, l, i, rfl, sR, ⟨lx, haf⟩, hL, n0, n3, dv, g0, fl, fr, hq⟩ := h
    rfl
  · obtain ⟨R, a, v, L, n, l, i, rfl, sR, ⟨lx, haf⟩, hL, n0, n3, dv, g0, fl, fr, hq⟩ := h
    refine ⟨_, (pss_cons (ps_set (i := 4) sc__law_label_cell.nd rfl (by first | exact Or.inl rfl | exact Or.inr rfl) (pe_op (opAddU (K := K)) (pe_fldK (K := K) (pv 0) rfl) (pv 3)))
      (pss_one (ps_ret (pe_lst (pa_cons (pv 4) (pa_cons (pe_call G__law_sealed (hr.mono (by decide)) rfl T.g__law_sealed T.F__law_sealed.kp T.b__law_sealed .nil pass0 (pa_cons (pv 0) (pa_cons (pv 4) (pa_cons (pe_call G__law_label_block (hr.mono (by decide)) rfl T.g__law_label_block T.F__law_label_block.kp T.b__law_label_block .nil pass0 (pa_cons (pv 0) (pa_cons (pv 1) (pa_cons (pv 2) pa_nil)))) pa_nil)))) pa_nil)))))), ?_⟩
    try dsimp only [cxOf]
    have haH := sR _ _ haf
    fail "go"
    refine ⟨a, v, L, n, l, rfl, ⟨_, haH⟩, hL, dv, by omega, fr, fun w H1 s1 dw nw => ?_⟩
    have ha1 := s1 _ _ haH
    have oc := octblk_label hL n0 n3 g0 fl (l := l)
    have s01 := sR.trans s1
    have gA : Gr [] R H (adopt R H H1) H1 := adopt_gr sR s1
    have dwR := nw R
    have haR := gA.rr _ _ haf
    have sR1 := gA.rh
    generalize adopt R H H1 = R1 at gA dwR haR sR1
    fail "go"
    refine ⟨R1, a, w, L, _, some (labelBlk L n l), rfl, sR1, ⟨_, haR⟩, hL, dwR, ⟨Int.le_refl 3, oc.len, fun e => absurd rfl e, fun e => absurd rfl e⟩, fun w2 R2 H2 g2 dk => ?_⟩
    have gB := gA.trans g2
    have s02 := gB.rh
    fail "go"
    refine ⟨by fail "sz", fun q nq => ?_⟩
    have g3 : Gr [] R2 H2 R2 _ := Gr.newM (M := []) (o := .lst [.int (L.device + (i : Int)), w2]) s02 nq
    exact hq q _ R2 _ (gB.trans g3) (gB.free nq) (s02.free nq) upd_same dk
end
def spData (K : PySem.W.Frag) (C : Addr) : Sp := fun vs H Q _ => ∃ (R : Hp) (a b : Addr) (L : Lay) (n : Int), vs = [.ref a, .ref b] ∧ Same R H ∧ LayAt C R a L ∧ L.Ok ∧ R b = none ∧ H b = some (.lst [.int n]) ∧
  ∀ v R' H' k, Gr [b] R H R' H' → (∃ m, H' b = some (.lst [.int m])) → Dp K R' v k.d → BW L k → Q v H'
def col (f : Nat → Int) (j : Nat) : List Int := (List.range j).map f
@[simp] theorem col_len (f : Nat → Int) (j : Nat) : (col f j).length = j := by simp [col]
theorem col_succ (f : Nat → Int) (j : Nat) : col f (j + 1) = col f j ++ [f j] := by simp [col, List.range_succ]
theorem col_0 {f : Nat → Int} {j : Nat} (h : 0 < j) : (col f j).getD 0 0 = f 0 := by
  match j, h with
  | n + 1, _ => simp [col, List.range_succ_eq_map]
local macro_rules | `(tactic| fail "calls") => `(tactic| ((with_reducible show spTake _ _ _ _); refine ⟨_, _, _, rfl, by fail "hp", by fail "ar", by fail "ar", ?_⟩; fail "mut"))
section
variable {P : Program} {w : World} {K : PySem.W.Frag} {mg : Str → Option Value} {base : Heap}
theorem ok__law_data (T : Txt P K mg) : FnOk P w K mg base CX0 2 T.f__law_data T.fd__law_data ["layout", "box"] (spData K T.C_Layout) := by
  have cl_Layout := T.cl_Layout
  have a_Layout_block_size := T.a_Layout_block_size
  have G__law_take := ok__law_take (P := P) (w := w) (base := base) T
  refine T.F__law_data.ok sc__law_data (fun vs H Q E h => ?_) (fun cdv A outer s H vs Q E hr h => ?_)
  · obtain ⟨R, a, b, L, n, rfl, sR, ⟨dx, ha⟩, hOk, Rb, hb, hq⟩ := h
    rfl
  · obtain ⟨R, a, b, L, n, rfl, sR, ⟨dx, ha⟩, hOk, Rb, hb, hq⟩ := h
    refine ⟨_, (pss_cons (ps_set (i := 2) sc__law_data.nd rfl (by first | exact Or.inl rfl | exact Or.inr rfl) (pe_call G__law_take (hr.mono (by decide)) rfl T.g__law_take T.F__law_take.kp T.b__law_take .nil pass0 (pa_cons (pv 1) (pa_cons pe_int pa_nil))))
      (pss_cons (ps_set (i := 3) sc__law_data.nd rfl (by first | exact Or.inl rfl | exact Or.inr rfl) (pe_call G__law_take (hr.mono (by decide)) rfl T.g__law_take T.F__law_take.kp T.b__law_take .nil pass0 (pa_cons (pv 1) (pa_cons pe_int pa_nil))))
      (pss_cons (ps_set (i := 4) sc__law_data.nd rfl (by first | exact Or.inl rfl | exact Or.inr rfl) (pe_callTy (callTupU (K := K)) (by rfl) T.n_tuple (by decide +kernel) (pa_cons (pe_lc (own := [("k", 5)]) (g := gName 5) (tt := tYes) rfl sc__law_data.nd (pi_range1 rfl T.n_range (pa_cons (pe_fldK (K := K) (pv 0) rfl) pa_nil)) (blkOk_by (N := N__law_data) (sc := defScope s__law_data) (by decide +kernel)) (fun _ _ _ _ _ => (pg_name (i := 5) sc__law_data.nd rfl (by first | exact Or.inl rfl | exact Or.inr rfl))) (fun _ _ _ _ _ => pts_nil) (fun _ _ _ _ _ => (pe_op opModU (pe_callTy callIntU (by rfl) T.n_int (by decide +kernel) (pa_cons (pe_op (opAddU (K := K)) (pv 2) (pe_op opMultU (pv 5) (pv 3))) pa_nil)) pe_int))) pa_nil)))
      (pss_one (ps_ret (pe_tup (pa_cons pe_int (pa_cons (pe_op (opAddU (K := K)) pe_int (pe_call G__law_take (hr.mono (by decide)) rfl T.g__law_take T.F__law_take.kp T.b__law_take .nil pass0 (pa_cons (pv 1) (pa_cons pe_int pa_nil)))) (pa_cons (pe_call G__law_take (hr.mono (by decide)) rfl T.g__law_take T.F__law_take.kp T.b__law_take .nil pass0 (pa_cons (pv 1) (pa_cons pe_int pa_nil))) (pa_cons (pv 4) pa_nil)))))))))), ?_⟩
    try dsimp only [cxOf]
    have haH := sR _ _ ha
    have o1 := hOk.o1
    have f0 := mod_rng n (show (0 : Int) < 70 by decide)
    generalize hf : n % 70 = f at f0
    generalize hd : n / 70 % 251 = d
    fail "go"
    rename_i Ha ga hha sa Hb gb hhb sb
    have haB := sb _ _ ha
    rw [hf, hd]
    refine g_R1W (n := (L.oct).toNat) (by omega) (by omega) ?_
    intro D nD
    refine lc_range (lo := 0) (n := (L.oct).toNat) (fun j H' => Same Hb H' ∧ H' D = some (.lst ((col (fun k => (f + (0 + (k : Int)) * d) % 256) j).map V.int))) ⟨(Gr.newM (M := []) (Same.refl Hb) nD).same, by rw [upd_same]; rfl⟩ ?_ ?_
    · rintro j H3 hj ⟨s3, h3⟩
      refine ⟨rfl, ?_⟩
      fail "go"
      refine ⟨_, h3, by rw [List.length_map, col_len]; fail "sz", fun c o q => by rw [upd_ne (ne_of_none q nD)]; exact s3 c o q, ?_⟩
      rw [upd_same, col_succ, List.map_append]; rfl
    rintro H3 ⟨s3, h3⟩
    have gm := Mu.ofSame (M := []) sb s3
    have hb3 := s3 _ _ hhb
    have gA : Mu [b] R H H3 := ⟨ga.g.trans (gb.g.trans gm.g.nil)⟩
    have s03 := gm.g.rh
    have Db : D ≠ b := (ne_of_none hhb nD).symm
    clear ga hha sa gb hhb sb gm s3 sR hb haB haH
    fail "go"
    refine g_tupL (SqL.of h3) ?_
    fail "newR"
    rename_i t H4 R4 n4 g4 h4 s4
    have hb4 := g4.same _ _ hb3
    have Rb4 := g4.fr _ _ hb3 Rb
    have gB : Gr [b] R H R4 H4 := gA.g.trans g4.nil
    clear g4 h3 hb3 gA s03
    fail "go"
    rename_i Hc gc hhc sc Hd gd hhd sd
    have gC : Mu [b] R4 H4 Hd := ⟨gc.g.trans gd.g⟩
    clear gc hhc sc gd hb4
    refine ⟨by fail "sz", ?_⟩
    fail "newR"
    rename_i p5 H5 R5 n5 g5 h5 s5
    have h4R : R5 t = some (.tup ((col (fun k => (f + (0 + (k : Int)) * d) % 256) (L.oct).toNat).map V.int)) := g5.rr _ _ h4
    have s1 := mod_rng (n / 70 / 251) (show (0 : Int) < 300 by decide)
    have s2 := mod_rng (n / 70 / 251 / 300) (show (0 : Int) < 9 by decide)
    refine hq _ R5 H5 ⟨3, 1 + n / 70 / 251 % 300, n / 70 / 251 / 300 % 9, col (fun k => (f + (0 + (k : Int)) * d) % 256) (L.oct).toNat⟩ (gB.trans (gC.g.trans g5.nil)) ⟨_, g5.same _ _ hhd⟩ (.tup (SqT.of h5) (.cons (.int _) (.cons (.int _) (.cons (.int _) (.cons (.tup (SqT.of h4R) (dpAll_ints _)) .nil))))) ⟨⟨⟨Int.le_refl 3, fun _ => by rw [col_len]; omega, fun e => absurd rfl e, fun e => absurd rfl e⟩, by show (3 : Int) ≤ 5; decide, by show 0 ≤ 1 + n / 70 / 251 % 300; omega, by show 1 + n / 70 / 251 % 300 < 281474976710656; omega, s2.1, by show n / 70 / 251 / 300 % 9 < 65536; omega⟩, fun _ x hx => ?_, .inl ?_⟩
    · obtain ⟨k, _, rfl⟩ := List.mem_map.mp hx
      exact mod_rng _ (by decide)
    · show (col (fun k => (f + (0 + (k : Int)) * d) % 256) (L.oct).toNat).getD 0 0 ≠ 83
      rw [col_0 (by omega)]
      show (f + (0 + ((0 : Nat) : Int)) * d) % 256 ≠ 83
      rw [show ((0 : Int) + ((0 : Nat) : Int)) * d = 0 by simp]
      omega
end
def spDevInit (K : PySem.W.Frag) (C : Addr) : Sp := fun vs H Q _ => ∃ (R : Hp) (x dx a c : Addr) (us : List V), vs = [.ref x, .ref a, .ref c] ∧ Same R H ∧ R x = none ∧ H x = some (.ins C dx []) ∧ SqL K H c us ∧
  ∀ H' l1 l2 l3, Gr [x] R H R H' → H l1 = none → H l2 = none → H l3 = none → l1 ≠ l2 → l1 ≠ l3 → l2 ≠ l3 → DevAt C H' x a l1 l2 l3 → H' l1 = some (.lst us) → H' l2 = some (.lst us) → H' l3 = some (.lst []) → Q .non H'
section
variable {P : Program} {w : World} {K : PySem.W.Frag} {mg : Str → Option Value} {base : Heap}
theorem ok_Device___init__ (T : Txt P K mg) : FnOk P w K mg base CX0 1 T.f_Device___init__ T.fd_Device___init__ ["self", "layout", "blocks"] (spDevInit K T.C_Device) := by
  have cl_Layout := T.cl_Layout
  have cl_Device := T.cl_Device
  have a_Layout_device_blocks := T.a_Layout_device_blocks
  have a_Device_layout := T.a_Device_layout
  have a_Device_sure := T.a_Device_sure
  have a_Device_seen := T.a_Device_seen
  have a_Device_waiting := T.a_Device_waiting
  have a_Device_fuse := T.a_Device_fuse
  have a_Device_dark := T.a_Device_dark
  refine T.F_Device___init__.ok sc_Device___init__ (fun vs H Q E h => ?_) (fun cdv A outer s H vs Q E hr h => ?_)
  · obtain ⟨R, x, dx, a, c, us, rfl, sR, Rx, hx, hc, hq⟩ := h
    rfl
  · obtain ⟨R, x, dx, a, c, us, rfl, sR, Rx, hx, hc, hq⟩ := h
    refine ⟨_, (pss_cons (ps_if (pt_cmpR opIsU (pv 2) pe_non (nomark _)) (pss_one (ps_set (i := 2) sc_Device___init__.nd rfl (by first | exact Or.inl rfl | exact Or.inr rfl) (pe_op opMultU (pe_lst (pa_cons pe_non pa_nil)) (pe_fldK (K := K) (pv 1) rfl)))) pss_nil)
      (pss_cons (ps_fld (pv 0) (pv 1) rfl)
      (pss_cons (ps_fld (pv 0) (pe_callTy (callListU (K := K)) (by rfl) T.n_list (by decide +kernel) (pa_cons (pv 2) pa_nil)) rfl)
      (pss_cons (ps_fld (pv 0) (pe_callTy (callListU (K := K)) (by rfl) T.n_list (by decide +kernel) (pa_cons (pv 2) pa_nil)) rfl)
      (pss_cons (ps_fld (pv 0) (pe_lst pa_nil) rfl)
      (pss_cons (ps_fld (pv 0) pe_non rfl)
      (pss_one (ps_fld (pv 0) pe_bl rfl)))))))), ?_⟩
    try dsimp only [cxOf]
    fail "go"
    rename_i H1 g1 h1 s1
    have hc1 := sqL_ins hc hx g1.g
    refine g_listL hc1 ?_
    fail "newM"
    rename_i l1 H2 n2 g2 m2 h2 s2
    have hc2 := sqL_mono g2.g.same hc1
    have hx2 := g2.g.same _ _ h1
    have gA : Mu [x] R H H2 := ⟨g1.g.trans g2.g.nil⟩
    have nl1 : H l1 = none := g1.g.free n2
    have xl1 : x ≠ l1 := ne_of_none h1 n2
    clear g1 g2 h1 s1 sR
    fail "go"
    rename_i H3 g3 h3 s3
    have hc3 := sqL_ins hc2 hx2 g3.g
    have hl1 := g3.g.hh _ _ (by simpa using xl1.symm) h2
    have gB : Mu [x] R H H3 := ⟨gA.g.trans g3.g⟩
    clear gA g3 h2 s2 hx2
    refine g_listL hc3 ?_
    fail "newM"
    rename_i l2 H4 n4 g4 m4 h4 s4
    have hx4 := g4.g.same _ _ h3
    have hl1' := hl1
    have hl1 := g4.g.same _ _ hl1
    have gC : Mu [x] R H H4 := ⟨gB.g.trans g4.g.nil⟩
    have nl2 : H l2 = none := gB.g.free n4
    have xl2 : x ≠ l2 := ne_of_none h3 n4
    have l12 : l1 ≠ l2 := by
      rintro rfl
      exact absurd hl1' (by rw [show H3 l1 = none from n4]; exact fun z => nomatch z)
    clear gB g4 h3 s3
    fail "go"
    rename_i H5 g5 h5 s5
    have hl1 := g5.g.hh _ _ (by simpa using xl1.symm) hl1
    have hl2 := g5.g.hh _ _ (by simpa using xl2.symm) h4
    have gD : Mu [x] R H H5 := ⟨gC.g.trans g5.g⟩
    clear gC g5 h4 s4 hl1' hx4
    refine ⟨by fail "sz", ?_⟩
    fail "newM"
    rename_i l3 H6 n6 g6 m6 h6 s6
    have hx6 := g6.g.same _ _ h5
    have l13 := ne_of_none hl1 n6
    have l23 := ne_of_none hl2 n6
    have xl3 : x ≠ l3 := ne_of_none h5 n6
    have nl3 : H l3 = none := gD.g.free n6
    have hl1 := g6.g.same _ _ hl1
    have hl2 := g6.g.same _ _ hl2
    have gE : Mu [x] R H H6 := ⟨gD.g.trans g6.g.nil⟩
    clear gD g6 h5 s5
    fail "go"
    rename_i H7 g7 h7 s7 H8 g8 h8 s8 H9 g9 h9 s9
    have gF : Gr [x] R H6 R H9 := g7.g.trans (g8.g.trans g9.g)
    have hn : ∀ l, x ≠ l → l ∉ [x] := fun l h z => h (List.mem_singleton.mp z).symm
    exact hq _ l1 l2 l3 (gE.g.trans gF) nl1 nl2 nl3 l12 l13 l23 ⟨_, h9⟩ (gF.hh _ _ (hn _ xl1) hl1) (gF.hh _ _ (hn _ xl2) hl2) (gF.hh _ _ (hn _ xl3) h6)
end
def spSideInit (K : PySem.W.Frag) (CL CS CD : Addr) : Sp := fun vs H Q _ => ∃ (R : Hp) (x dx a : Addr) (n : Int) (c : V) (us : List V) (L : Lay), vs = [.ref x, .ref a, .int n, c] ∧ Same R H ∧ R x = none ∧ H x = some (.ins CS dx []) ∧ LayAt CL R a L ∧ L.Ok ∧ (0 ≤ L.device ∧ L.device < 900) ∧ ((∃ p, c = .ref p ∧ SqL K H p us) ∨ (c = .non ∧ us = List.replicate (L.device + 2).toNat .non)) ∧
  ∀ H' d l1 l2 l3, Gr [x] R H R H' → H d = none → H l1 = none → H l2 = none → H l3 = none → l1 ≠ l2 → l1 ≠ l3 → l2 ≠ l3 → d ≠ x → SideIn CS H' x a n d → DevAt CD H' d a l1 l2 l3 → H' l1 = some (.lst us) → H' l2 = some (.lst us) → H' l3 = some (.lst []) → Q .non H'
section
variable {P : Program} {w : World} {K : PySem.W.Frag} {mg : Str → Option Value} {base : Heap}
theorem ok_Side___init__ (T : Txt P K mg) : FnOk P w K mg base CX0 3 T.f_Side___init__ T.fd_Side___init__ ["self", "layout", "seat", "cells"] (spSideInit K T.C_Layout T.C_Side T.C_Device) := by
  have cl_Layout := T.cl_Layout
  have cl_Side := T.cl_Side
  have a_Layout_device_blocks := T.a_Layout_device_blocks
  have a_Side_layout := T.a_Side_layout
  have a_Side_seat := T.a_Side_seat
  have a_Side_device := T.a_Side_device
  have G_Device___init__ := ok_Device___init__ (P := P) (w := w) (base := base) T
  refine T.F_Side___init__.ok sc_Side___init__ (fun vs H Q E h => ?_) (fun cdv A outer s H vs Q E hr h => ?_)
  · obtain ⟨R, x, dx, a, n, c, us, L, rfl, sR, Rx, hx, ha, hL, hdev, hc, hq⟩ := h
    rfl
  · obtain ⟨R, x, dx, a, n, c, us, L, rfl, sR, Rx, hx, ha, hL, hdev, hc, hq⟩ := h
    refine ⟨_, (pss_cons (ps_if (pt_cmpR opIsU (pv 3) pe_non (nomark _)) (pss_one (ps_set (i := 3) sc_Side___init__.nd rfl (by first | exact Or.inl rfl | exact Or.inr rfl) (pe_op opMultU (pe_lst (pa_cons pe_non pa_nil)) (pe_op (opAddU (K := K)) (pe_fldK (K := K) (pv 1) rfl) (pe_glob rfl T.g_LABELS T.r_LABELS))))) pss_nil)
      (pss_cons (ps_fld (pv 0) (pv 1) rfl)
      (pss_cons (ps_fld (pv 0) (pv 2) rfl)
      (pss_one (ps_fld (pv 0) (pe_make T.mk_Device G_Device___init__ (hr.mono (by decide)) rfl T.g_Device T.b_Device___init__ .nil pass0 (pa_cons (pv 1) (pa_cons (pv 3) pa_nil))) rfl))))), ?_⟩
    try dsimp only [cxOf]
    fail "gi"
    refine g_seqIN (fun σ H' => ∃ p, σ = [some (.ref x), some (.ref a), some (.int n), some (.ref p)] ∧ Mu [] R H H' ∧ H' x = some (.ins T.C_Side dx []) ∧ SqL K H' p us) ?_ (fun N rest => ?_)
    · clear hx hc
      rintro σ H1 ⟨p, rfl, g1, h1, hp⟩
      have s1 := g1.g.rh
      fail "go"
      rename_i H2 g2 h2 s2 H3 g3 h3 s3
      have hp3 := sqL_ins (sqL_ins hp h1 g2.g) h2 g3.g
      have gA : Mu [x] R H H3 := ⟨g1.g.nil.trans (g2.g.trans g3.g)⟩
      clear g1 g2 g3 h1 h2 hp s1 s2
      intro d ddx nd ndd nex
      have ms := made_same (C := T.C_Device) nd ndd
      have dx' : d ≠ x := (ne_of_none h3 nd).symm
      refine ⟨R, d, ddx, a, p, us, rfl, s3.trans ms, s3.free nd, upd_same, sqL_mono ms hp3, fun H4 l1 l2 l3 g4 n1 n2 n3 e12 e13 e23 hd hl1 hl2 hl3 => ⟨rfl, ?_⟩⟩
      have x1 : x ≠ l1 := ne_of_none (ms _ _ h3) n1
      have x2 : x ≠ l2 := ne_of_none (ms _ _ h3) n2
      have x3 : x ≠ l3 := ne_of_none (ms _ _ h3) n3
      have gB : Gr [] R H3 R H4 := ((Mu.ofSame s3 ms).g.nil.trans g4).forget (by intro y hy hn; rw [List.mem_singleton.mp hy]; exact nd)
      have h4 := gB.same _ _ h3
      have s4 := gB.rh
      have gC : Mu [x] R H H4 := ⟨gA.g.trans gB.nil⟩
      have f0 : ∀ l, upd (upd H3 ddx (.own d)) d (.ins T.C_Device ddx []) l = none → H l = none := fun l z => gA.g.free (ms.free z)
      have nd0 := gA.g.free nd
      clear gA gB s3 h3 g4 hp3
      fail "go"
      rename_i H5 g5 h5 s5
      have hn : ∀ l, x ≠ l → l ∉ [x] := fun l h z => h (List.mem_singleton.mp z).symm
      obtain ⟨ddx2, hd⟩ := hd
      exact hq H5 d l1 l2 l3 (gC.g.trans g5.g) nd0 (f0 _ n1) (f0 _ n2) (f0 _ n3) e12 e13 e23 dx' ⟨_, h5⟩ ⟨_, g5.g.hh _ _ (hn _ dx'.symm) hd⟩ (g5.g.hh _ _ (hn _ x1) hl1) (g5.g.hh _ _ (hn _ x2) hl2) (g5.g.hh _ _ (hn _ x3) hl3)
    · rcases hc with ⟨p, rfl, hp⟩ | ⟨rfl, rfl⟩
      · fail "go"
        exact rest _ _ ⟨p, rfl, ⟨Gr.refl sR⟩, hx, hp⟩
      · obtain ⟨lx, ha⟩ := ha
        have haH := sR _ _ ha
        fail "go"
        refine ⟨by fail "sz", ?_⟩
        fail "newM"
        rename_i p1 H1 n1 g1 m1 h1 s1
        fail "go"
        refine g_rep h1 (by omega) (by omega) (by simp only [List.length_cons, List.length_nil]; fail "sz") ?_
        fail "newM"
        rename_i p2 H2 n2 g2 m2 h2 s2
        fail "go"
        refine rest _ _ ⟨p2, rfl, ⟨g1.g.trans g2.g⟩, g2.g.same _ _ (g1.g.same _ _ hx), ?_⟩
        have e : (List.replicate (L.device + 2).toNat [V.non]).flatten = List.replicate (L.device + 2).toNat V.non := by simp
        rw [← e]
        exact SqL.of h2
end
def smallLb (l : Lb) : Prop := 1 ≤ l.gen ∧ l.gen ≤ 4 ∧ l.forks.length ≤ 2 ∧ ∀ f ∈ l.forks, 0 ≤ f ∧ f < 3
def comV (K : PySem.W.Frag) (R : Hp) (v : V) : Prop := v = .non ∨ ∃ (t : Addr) (C : List Int), v = .ref t ∧ SqT K R t (C.map V.int) ∧ C.Pairwise (· < ·) ∧ (∀ y ∈ C, 0 ≤ y ∧ y < 3)
def spLabelled (K : PySem.W.Frag) (CL CS CD : Addr) : Sp := fun vs H Q _ => ∃ (R : Hp) (a b : Addr) (cv : V) (L : Lay) (z n : Int), vs = [.ref a, .int z, .ref b, cv] ∧ Same R H ∧ LayAt CL R a L ∧ L.Ok ∧ (0 < L.device ∧ L.device < 900) ∧ 0 ≤ z ∧ z < 3 ∧ comV K R cv ∧ R b = none ∧ H b = some (.lst [.int n]) ∧
  ∀ R' H' r s c lp ms us cs uls ls, Gr [b] R H R' H' → (∃ n', H' b = some (.lst [.int n'])) → R' r = some (.lst [.ref s, .ref c, .ref lp]) → R' c = some (.lst us) → DpAll K R' us (cs.map cellD) → R' lp = some (.lst uls) → DpAll K R' uls (ls.map lbD) → SideOkD false K CS CD R' H' s a z (mz cs) ms → (∀ y ∈ ms, H y = none) →
    (cs.length : Int) = L.device + 2 → (∀ c ∈ cs, CW L c) → newestOf ls = labOf L z (mz cs) → (∀ l, labOf L z (mz cs) = some l → smallLb l) → Q (.ref r) H'
/-- what stands behind i slots -/
structure LbdSt (K : PySem.W.Frag) (L : Lay) (R H : Hp) (b D E : Addr) (z : Int) (i : Nat) (us uls : List V) (cs : List Cell) (ls : List (Option Lb)) : Prop where
  hD : H D = some (.lst us)
  hE : H E = some (.lst uls)
  hb : ∃ n, H b = some (.lst [.int n])
  du : DpAll K R us (cs.map cellD)
  dl : DpAll K R uls (ls.map lbD)
  len : (cs.length : Int) = L.device + 2
  cw : ∀ c ∈ cs, CW L c
  non : ∀ j, i ≤ j → j < 2 → cs.getD (L.device.toNat + j) none = none
  new : newestOf ls = newestOf ((List.range i).map (lbAt L z cs))
  sml : ∀ j, j < i → ∀ l, lbAt L z cs j = some l → smallLb l
  few : ls.length ≤ i
local macro_rules | `(tactic| fail "calls") => `(tactic| ((with_reducible show spTake _ _ _ _); refine ⟨_, _, _, rfl, by fail "hp", by fail "ar", by fail "ar", ?_⟩; fail "mut"))
theorem label_other {L : Lay} {z p : Int} {l : Lb} (h : p ≠ z) : labelOf L z (some (labelBlk L p l)) = none := by
  rw [labelOf, if_neg]
  rintro ⟨_, _, _, _, e⟩
  have e5 := congrArg (fun k : Blk => k.body.getD 5 0) e
  have e1 : (labelBlk L z (readLb (labelBlk L p l))).body.getD 5 0 = z := rfl
  have e2 : (labelBlk L p l).body.getD 5 0 = p := rfl
  have e5 : (labelBlk L z (readLb (labelBlk L p l))).body.getD 5 0 = (labelBlk L p l).body.getD 5 0 := e5
  rw [e1, e2] at e5
  exact h e5.symm
theorem lbAt_cell {L : Lay} {z : Int} {cs cs' : List Cell} {j : Nat} (h : cs'.getD (L.device.toNat + j) none = cs.getD (L.device.toNat + j) none) : lbAt L z cs' j = lbAt L z cs j := by unfold lbAt; rw [h]
theorem LbdSt.next {K : PySem.W.Frag} {L : Lay} {R H R' H' : Hp} {b D E : Addr} {z : Int} {i : Nat} {us uls us' uls' : List V} {cs cs' : List Cell} {ls ls' : List (Option Lb)} (st : LbdSt K L R H b D E z i us uls cs ls) (i2 : i < 2) (hD : H' D = some (.lst us')) (hE : H' E = some (.lst uls')) (hb : ∃ n, H' b = some (.lst [.int n])) (du : DpAll K R' us' (cs'.map cellD)) (dl : DpAll K R' uls' (ls'.map lbD)) (len : (cs'.length : Int) = L.device + 2) (cw : ∀ c ∈ cs', CW L c)
    (same : ∀ j, j ≠ i → j < 2 → cs'.getD (L.device.toNat + j) none = cs.getD (L.device.toNat + j) none) (hx : (lbAt L z cs' i = none ∧ ls' = ls) ∨ ∃ l, lbAt L z cs' i = some l ∧ ls' = ls ++ [some l] ∧ smallLb l) : LbdSt K L R' H' b D E z (i + 1) us' uls' cs' ls' := by
  have em : (List.range i).map (lbAt L z cs') = (List.range i).map (lbAt L z cs) := List.map_congr_left fun j hj => lbAt_cell (same j (by have := List.mem_range.mp hj; omega) (by have := List.mem_range.mp hj; omega))
  have en : newestOf ((List.range (i + 1)).map (lbAt L z cs')) = pickLb (newestOf ls) (lbAt L z cs' i) := by
    rw [List.range_succ, List.map_append, em, st.new]
    unfold newestOf
    rw [List.foldl_append]; rfl
  refine ⟨hD, hE, hb, du, dl, len, cw, fun j h1 h2 => by rw [same j (by omega) h2]; exact st.non j (by omega) h2, ?_, fun j hj l hl => ?_, ?_⟩
  · rw [en]
    rcases hx with ⟨e, rfl⟩ | ⟨l, e, rfl, _⟩
    · rw [e]; rfl
    · rw [e]
      unfold newestOf
      rw [List.foldl_append]; rfl
  · by_cases e : j = i
    · subst e
      rcases hx with ⟨e, _⟩ | ⟨l', e, _, s⟩
      · rw [e] at hl; cases hl
      · rw [e] at hl; cases hl; exact s
    · rw [lbAt_cell (same j e (by omega))] at hl
      exact st.sml j (by omega) l hl
  · have := st.few
    rcases hx with ⟨_, rfl⟩ | ⟨l', _, rfl, _⟩
    · omega
    · rw [List.length_append]; simp; omega
theorem LbdSt.data {K : PySem.W.Frag} {L : Lay} {R H R' H' : Hp} {b D E : Addr} {z : Int} {us uls us' : List V} {cs : List Cell} {ls : List (Option Lb)} {c : Cell} {n : Nat} (st : LbdSt K L R H b D E z 2 us uls cs ls) (hn : (n : Int) < L.device) (hD : H' D = some (.lst us')) (hE : H' E = some (.lst uls)) (hb : ∃ n, H' b = some (.lst [.int n])) (du : DpAll K R' us' ((cs.set n c).map cellD)) (dl : DpAll K R' uls (ls.map lbD)) (hc : CW L c) : LbdSt K L R' H' b D E z 2 us' uls (cs.set n c) ls := by
  have same : ∀ j, (cs.set n c).getD (L.device.toNat + j) none = cs.getD (L.device.toNat + j) none := fun j => getD_set_ne (by omega)
  refine ⟨hD, hE, hb, du, dl, by rw [List.length_set]; exact st.len, fun d h => ?_, fun j h1 h2 => by rw [same]; exact st.non j h1 h2, ?_, fun j hj l hl => ?_, st.few⟩
  · rcases List.mem_or_eq_of_mem_set h with h | rfl
    · exact st.cw _ h
    · exact hc
  · rw [st.new]
    exact congrArg newestOf (List.map_congr_left fun j _ => (lbAt_cell (same j)).symm)
  · rw [lbAt_cell (same j)] at hl
    exact st.sml j hj l hl
/-- what a walk within a slot keeps -/
structure LBun (R0 H0 R H : Hp) (b D E : Addr) (n : Int) (us uls : List V) : Prop where
  g : Gr [b] R0 H0 R H
  hb : H b = some (.lst [.int n])
  hD : H D = some (.lst us)
  hE : H E = some (.lst uls)
  Rb : R b = none
  RD : R D = none
  RE : R E = none
theorem LBun.step {R0 H0 R H R' H' : Hp} {b D E : Addr} {n : Int} {us uls : List V} (h : LBun R0 H0 R H b D E n us uls) (g : Gr [] R H R' H') : LBun R0 H0 R' H' b D E n us uls :=
  ⟨h.g.trans g.nil, g.same _ _ h.hb, g.same _ _ h.hD, g.same _ _ h.hE, g.fr _ _ h.hb h.Rb, g.fr _ _ h.hD h.RD, g.fr _ _ h.hE h.RE⟩
theorem LBun.box {R0 H0 R H R' H' : Hp} {b D E : Addr} {n n' : Int} {us uls : List V} (h : LBun R0 H0 R H b D E n us uls) (g : Gr [b] R H R' H') (hb : H' b = some (.lst [.int n'])) (Db : D ≠ b) (Eb : E ≠ b) : LBun R0 H0 R' H' b D E n' us uls :=
  ⟨h.g.trans g, hb, g.hh _ _ (nin1 Db) h.hD, g.hh _ _ (nin1 Eb) h.hE, g.fr _ _ h.hb h.Rb, g.fr _ _ h.hD h.RD, g.fr _ _ h.hE h.RE⟩
theorem lc_seats {K : PySem.W.Frag} {R H : Hp} {b : Addr} {z n : Int} {x0 x3 x4 x5 x6 x7 x8 x9 x10 x11 x12 x13 x14 x15 x16 : Option V} {Q : VK} (sR : Same R H) (Rb : R b = none) (hb : H b = some (.lst [.int n])) (q : ∀ (I : Addr) (H' : Hp) (ks : List Int) (n' : Int), Gr [b] R H R H' → H I = none → H' b = some (.lst [.int n']) → H' I = some (.lst (ks.map V.int)) → ks.Pairwise (· < ·) → (∀ y ∈ ks, 0 ≤ y ∧ y < 3) → (0 ≤ z → z < 3 → z ∈ ks) → Q (.ref I) H') :
    LcW (Itr 0 3) (gName 17) (tOr (tTest (tOp (rEqU K) (tVar 17) (tVar 1))) (tTest (tOp (rEqU K) (tCall spTake [] E0 (tCons (tVar 2) (tCons (tC (V.int 2)) tNil))) (tC (V.int 0))))) (tVar 17) [17] [x0, some (.int z), some (.ref b), x3, x4, x5, x6, x7, x8, x9, x10, x11, x12, x13, x14, x15, x16, none] Q H := by
  intro I nI
  have bI := ne_of_none hb nI
  have RI : R I = none := sR.free nI
  refine lc_range (lo := 0) (n := 3) (fun i H' => ∃ (ks : List Int) (n' : Int), Mu [b, I] R (upd H I (.lst [])) H' ∧ H' b = some (.lst [.int n']) ∧ H' I = some (.lst (ks.map V.int)) ∧ ks.Pairwise (· < ·) ∧ (∀ y ∈ ks, 0 ≤ y ∧ y < (i : Int)) ∧ (0 ≤ z → z < (i : Int) → z ∈ ks) ∧ ks.length ≤ i) ⟨[], n, ⟨Gr.refl (Gr.newM (M := []) sR nI).rh⟩, by rw [upd_ne bI]; exact hb, upd_same, .nil, fun y h => absurd h List.not_mem_nil, fun h1 h2 => by omega, Nat.zero_le _⟩ ?_ ?_
  · rintro i H1 hi ⟨ks, n1, g1, hb1, hI1, asc, rng, hz, kl⟩
    rw [Int.zero_add]
    have sR1 := g1.g.rh
    refine ⟨rfl, ?_⟩
    have put : ∀ {H2 : Hp} {n2 : Int}, Mu [b] R H1 H2 → H2 b = some (.lst [.int n2]) → H2 I = some (.lst (ks.map V.int)) → ∃ acc, H2 I = some (.lst acc) ∧ acc.length < sizeLine ∧ ∃ (ks' : List Int) (n' : Int), Mu [b, I] R (upd H I (.lst [])) (upd H2 I (.lst (acc ++ [.int (i : Int)]))) ∧ (upd H2 I (.lst (acc ++ [.int (i : Int)]))) b = some (.lst [.int n']) ∧ (upd H2 I (.lst (acc ++ [.int (i : Int)]))) I = some (.lst (ks'.map V.int)) ∧ ks'.Pairwise (· < ·) ∧ (∀ y ∈ ks', 0 ≤ y ∧ y < ((i + 1 : Nat) : Int)) ∧ (0 ≤ z → z < ((i + 1 : Nat) : Int) → z ∈ ks') ∧ ks'.length ≤ i + 1 := fun {H2 n2} g2 hb2 hI2 => by
      refine ⟨_, hI2, by rw [List.length_map]; exact Nat.lt_of_le_of_lt (show _ ≤ 1000 by omega) (by decide), ks ++ [(i : Int)], n2, ⟨g1.g.trans ((g2.g.mono (by simp)).trans ((Gr.mut g2.g.rh RI hI2).mono (by simp)))⟩, by rw [upd_ne bI]; exact hb2, by rw [upd_same, List.map_append]; rfl, ?_, fun y hy => ?_, fun h1 h2 => ?_, by simp; omega⟩
      · rw [List.pairwise_append]
        refine ⟨asc, List.pairwise_singleton _ _, fun x hx y hy => ?_⟩
        rw [List.mem_singleton.mp hy]
        exact (rng x hx).2
      · rcases List.mem_append.mp hy with hy | hy
        · have := rng y hy; omega
        · rw [List.mem_singleton.mp hy]; omega
      · by_cases e : z = (i : Int)
        · rw [e]; simp
        · exact List.mem_append_left _ (hz h1 (by omega))
    fail "go"
    by_cases e : (i : Int) = z
    · rw [if_pos (decide_eq_true e)]
      simp only [if_true]
      fail "go"
      exact put ⟨Gr.refl sR1⟩ hb1 hI1
    · rw [if_neg (by simpa using e)]
      fail "go"
      have g2 : Mu [b] R H1 (upd H1 b (.lst [.int (n1 / 2)])) := ⟨Gr.mut sR1 Rb hb1⟩
      have hb2 : upd H1 b (.lst [.int (n1 / 2)]) b = some (.lst [.int (n1 / 2)]) := upd_same
      have hI2 := g2.g.hh _ _ (nin1 (Ne.symm bI)) hI1
      generalize upd H1 b (.lst [.int (n1 / 2)]) = H2 at g2 hb2 hI2 ⊢
      have hz2 : 0 ≤ z → z < ((i + 1 : Nat) : Int) → z ∈ ks := fun h1 h2 => hz h1 (by omega)
      refine g_ite (fun c => ?_) (fun c => ?_)
      · fail "go"
        exact put g2 hb2 hI2
      · fail "go"
        exact ⟨ks, _, ⟨g1.g.trans (g2.g.mono (by simp))⟩, hb2, hI2, asc, fun y hy => by have := rng y hy; omega, hz2, by omega⟩
  · rintro H1 ⟨ks, n1, g1, hb1, hI1, asc, rng, hz, kl⟩
    refine q I H1 ks n1 ?_ nI hb1 hI1 asc rng hz
    exact ((Gr.newM (M := [b, I]) sR nI).trans g1.g).forget fun y hy hn => by
      rcases List.mem_cons.mp hy with h | h
      · exact absurd (by rw [h]; exact List.mem_singleton_self _) hn
      · rw [List.mem_singleton.mp h]; exact nI
section
variable {P : Program} {w : World} {K : PySem.W.Frag} {mg : Str → Option Value} {base : Heap}
theorem ok__law_labelled (T : Txt P K mg) : FnOk P w K mg base CX0 6 T.f__law_labelled T.fd__law_labelled ["layout", "seat", "box", "common"] (spLabelled K T.C_Layout T.C_Side T.C_Device) := by
  have cl_Layout := T.cl_Layout
  have a_Layout_device_blocks := T.a_Layout_device_blocks
  have G__law_take := ok__law_take (P := P) (w := w) (base := base) T
  have G__law_label_cell := ok__law_label_cell (P := P) (w := w) (base := base) T
  have G__law_number := ok__law_number (P := P) (w := w) (base := base) T
  have G__law_sealed := ok__law_sealed (P := P) (w := w) (base := base) T
  have G__law_data := ok__law_data (P := P) (w := w) (base := base) T
  have G_Side___init__ := ok_Side___init__ (P := P) (w := w) (base := base) T
  refine T.F__law_labelled.ok sc__law_labelled (fun vs H Q E h => ?_) (fun cdv A outer s H vs Q E hr h => ?_)
  · obtain ⟨R, a, b, cv, L, z, n, rfl, sR, ⟨lx, haf⟩, hOk, ⟨d0, d1⟩, z0, z3, hcv, Rb, hb, hq⟩ := h
    rfl
  · obtain ⟨R, a, b, cv, L, z, n, rfl, sR, ⟨lx, haf⟩, hOk, ⟨d0, d1⟩, z0, z3, hcv, Rb, hb, hq⟩ := h
    refine ⟨_, (pss_cons (ps_set (i := 4) sc__law_labelled.nd rfl (by first | exact Or.inl rfl | exact Or.inr rfl) (pe_op opMultU (pe_lst (pa_cons pe_non pa_nil)) (pe_op (opAddU (K := K)) (pe_fldK (K := K) (pv 0) rfl) pe_int)))
      (pss_cons (ps_set (i := 5) sc__law_labelled.nd rfl (by first | exact Or.inl rfl | exact Or.inr rfl) (pe_lst pa_nil))
      (pss_cons (ps_for PassesOwn.never rfl (pi_range1 rfl T.n_range (pa_cons pe_int pa_nil)) (pg_name (i := 6) sc__law_labelled.nd rfl (by first | exact Or.inl rfl | exact Or.inr rfl)) (pss_cons (ps_set (i := 7) sc__law_labelled.nd rfl (by first | exact Or.inl rfl | exact Or.inr rfl) (pe_op (opAddU (K := K)) pe_int (pe_call G__law_take (hr.mono (by decide)) rfl T.g__law_take T.F__law_take.kp T.b__law_take .nil pass0 (pa_cons (pv 2) (pa_cons pe_int pa_nil)))))
      (pss_cons (ps_set (i := 8) sc__law_labelled.nd rfl (by first | exact Or.inl rfl | exact Or.inr rfl) (pe_callTy (callTupU (K := K)) (by rfl) T.n_tuple (by decide +kernel) (pa_cons (pe_lc (own := [("other", 17)]) (g := gName 17) (tt := _) rfl sc__law_labelled.nd (pi_range1 rfl T.n_range (pa_cons pe_int pa_nil)) (blkOk_by (N := N__law_labelled) (sc := defScope s__law_labelled) (by decide +kernel)) (fun _ _ _ _ _ => (pg_name (i := 17) sc__law_labelled.nd rfl (by first | exact Or.inl rfl | exact Or.inr rfl))) (fun _ _ _ _ _ => pts_one (PW.pt (pw_or (pt_cmpR (opEqU (K := K) hr.units) (pv 17) (pv 1) (nomark _)) (pw_or1 (pt_cmpR (opEqU (K := K) hr.units) (pe_call G__law_take (hr.mono (by decide)) rfl T.g__law_take T.F__law_take.kp T.b__law_take .nil pass0 (pa_cons (pv 2) (pa_cons pe_int pa_nil))) pe_int (nomark _)))))) (fun _ _ _ _ _ => (pv 17))) pa_nil)))
      (pss_cons (ps_set (i := 9) sc__law_labelled.nd rfl (by first | exact Or.inl rfl | exact Or.inr rfl) (pe_call G__law_take (hr.mono (by decide)) rfl T.g__law_take T.F__law_take.kp T.b__law_take .nil pass0 (pa_cons (pv 2) (pa_cons pe_int pa_nil))))
      (pss_cons (ps_set (i := 10) sc__law_labelled.nd rfl (by first | exact Or.inl rfl | exact Or.inr rfl) (pe_ix (ixU (K := K)) (pe_lst (pa_cons (pe_tup pa_nil) (pa_cons (pe_tup pa_nil) (pa_cons (pe_tup (pa_cons pe_int pa_nil)) (pa_cons (pe_tup (pa_cons pe_int (pa_cons pe_int pa_nil))) pa_nil))))) (pe_call G__law_take (hr.mono (by decide)) rfl T.g__law_take T.F__law_take.kp T.b__law_take .nil pass0 (pa_cons (pv 2) (pa_cons pe_int pa_nil))) (fun _ _ => rfl)))
      (pss_cons (ps_set (i := 11) sc__law_labelled.nd rfl (by first | exact Or.inl rfl | exact Or.inr rfl) (pe_callTy (callTupU (K := K)) (by rfl) T.n_tuple (by decide +kernel) (pa_cons (pe_lc (own := [("other", 17)]) (g := gName 17) (tt := _) rfl sc__law_labelled.nd (pi_range1 rfl T.n_range (pa_cons pe_int pa_nil)) (blkOk_by (N := N__law_labelled) (sc := defScope s__law_labelled) (by decide +kernel)) (fun _ _ _ _ _ => (pg_name (i := 17) sc__law_labelled.nd rfl (by first | exact Or.inl rfl | exact Or.inr rfl))) (fun _ _ _ _ _ => pts_one (PW.pt (pw_or (pt_cmpR (opEqU (K := K) hr.units) (pv 17) (pv 1) (nomark _)) (pw_or1 (pt_cmpR (opEqU (K := K) hr.units) (pe_call G__law_take (hr.mono (by decide)) rfl T.g__law_take T.F__law_take.kp T.b__law_take .nil pass0 (pa_cons (pv 2) (pa_cons pe_int pa_nil))) pe_int (nomark _)))))) (fun _ _ _ _ _ => (pv 17))) pa_nil)))
      (pss_cons (ps_if (PW.pt (pw_and (pt_cmpR opNotU (pv 3) pe_non (nomark _)) (pw_and (pt_cmpR op_gt (pe_call G__law_take (hr.mono (by decide)) rfl T.g__law_take T.F__law_take.kp T.b__law_take .nil pass0 (pa_cons (pv 2) (pa_cons pe_int pa_nil))) pe_int (nomark _)) (pw_and1 (pt_cmpR (opInF (K := K)) (pv 1) (pv 3) (by rfl)))))) (pss_cons (ps_set (i := 8) sc__law_labelled.nd rfl (by first | exact Or.inl rfl | exact Or.inr rfl) (pv 3))
      (pss_cons (ps_set (i := 11) sc__law_labelled.nd rfl (by first | exact Or.inl rfl | exact Or.inr rfl) (pv 3))
      (pss_one (ps_set (i := 10) sc__law_labelled.nd rfl (by first | exact Or.inl rfl | exact Or.inr rfl) (pe_ix (ixU (K := K)) (pe_lst (pa_cons (pe_tup pa_nil) (pa_cons (pe_tup pa_nil) (pa_cons (pe_tup (pa_cons pe_int pa_nil)) pa_nil)))) (pe_call G__law_take (hr.mono (by decide)) rfl T.g__law_take T.F__law_take.kp T.b__law_take .nil pass0 (pa_cons (pv 2) (pa_cons pe_int pa_nil))) (fun _ _ => rfl)))))) pss_nil)
      (pss_cons (ps_set (i := 12) sc__law_labelled.nd rfl (by first | exact Or.inl rfl | exact Or.inr rfl) (pv 1))
      (pss_cons (ps_if (pt_cmpR (opEqU (K := K) hr.units) (pv 9) pe_int (nomark _)) (pss_one (ps_set (i := 12) sc__law_labelled.nd rfl (by first | exact Or.inl rfl | exact Or.inr rfl) (pe_op opModU (pe_callTy callIntU (by rfl) T.n_int (by decide +kernel) (pa_cons (pe_op (opAddU (K := K)) (pv 1) pe_int) pa_nil)) pe_int))) pss_nil)
      (pss_cons (ps_set (i := 13) sc__law_labelled.nd rfl (by first | exact Or.inl rfl | exact Or.inr rfl) (pe_call G__law_label_cell (hr.mono (by decide)) rfl T.g__law_label_cell T.F__law_label_cell.kp T.b__law_label_cell .nil pass0 (pa_cons (pv 0) (pa_cons (pv 12) (pa_cons (pe_tup (pa_cons (pv 7) (pa_cons (pv 8) (pa_cons (pv 11) (pa_cons (pv 10) pa_nil))))) (pa_cons (pv 6) pa_nil))))))
      (pss_cons (ps_if (pt_cmpR (opEqU (K := K) hr.units) (pv 9) pe_int (nomark _)) (pss_one (ps_asg (pe_tup (pa_cons (pe_ix (ixU (K := K)) (pe_ix (ixU (K := K)) (pv 13) pe_int (fun _ _ => rfl)) pe_int (fun _ _ => rfl)) (pa_cons (pe_op opSubU (pe_ix (ixU (K := K)) (pe_ix (ixU (K := K)) (pv 13) pe_int (fun _ _ => rfl)) pe_int (fun _ _ => rfl)) pe_int) pa_nil))) (pg_sub (pv 13) pe_int set_list))) pss_nil)
      (pss_cons (ps_if (PW.pt (pw_or (pt_cmpR op_gt (pv 9) pe_int (nomark _)) (pw_or1 (pt_cmpR (opEqU (K := K) hr.units) (pe_call G__law_take (hr.mono (by decide)) rfl T.g__law_take T.F__law_take.kp T.b__law_take .nil pass0 (pa_cons (pv 2) (pa_cons pe_int pa_nil))) pe_int (nomark _))))) (pss_one (ps_asg (pe_ix (ixU (K := K)) (pv 13) pe_int (fun _ _ => rfl)) (pg_sub (pv 4) (pe_ix (ixU (K := K)) (pv 13) pe_int (fun _ _ => rfl)) set_list))) pss_nil)
      (pss_one (ps_if (pt_cmpR op_gt (pv 9) pe_int (nomark _)) (pss_one (ps_expr (pe_bm PySem.F.plainAttrs_list PySem.F.slot_list_append PySem.F.type_list_append mt_append (pv 5) (pa_cons (pe_tup (pa_cons (pv 7) (pa_cons (pv 8) (pa_cons (pv 11) (pa_cons (pv 10) pa_nil))))) pa_nil)))) pss_nil))))))))))))))
      (pss_cons (ps_for PassesOwn.never rfl (pi_range1 rfl T.n_range (pa_cons pe_int pa_nil)) (pg_name (i := 14) sc__law_labelled.nd rfl (by first | exact Or.inl rfl | exact Or.inr rfl)) (pss_cons (ps_set (i := 15) sc__law_labelled.nd rfl (by first | exact Or.inl rfl | exact Or.inr rfl) (pe_lst (pa_cons (pe_call G__law_number (hr.mono (by decide)) rfl T.g__law_number T.F__law_number.kp T.b__law_number .nil pass0 (pa_cons (pe_lst (pa_cons (pe_ix (ixU (K := K)) (pv 2) pe_int (fun _ _ => rfl)) pa_nil)) (pa_cons (pe_op (opAddU (K := K)) pe_int (pv 14)) pa_nil))) pa_nil)))
      (pss_cons (ps_set (i := 16) sc__law_labelled.nd rfl (by first | exact Or.inl rfl | exact Or.inr rfl) (pe_call G__law_take (hr.mono (by decide)) rfl T.g__law_take T.F__law_take.kp T.b__law_take .nil pass0 (pa_cons (pv 15) (pa_cons (pe_fldK (K := K) (pv 0) rfl) pa_nil))))
      (pss_one (ps_asg (pe_call G__law_sealed (hr.mono (by decide)) rfl T.g__law_sealed T.F__law_sealed.kp T.b__law_sealed .nil pass0 (pa_cons (pv 0) (pa_cons (pv 16) (pa_cons (pe_call G__law_data (hr.mono (by decide)) rfl T.g__law_data T.F__law_data.kp T.b__law_data .nil pass0 (pa_cons (pv 0) (pa_cons (pv 15) pa_nil))) pa_nil)))) (pg_sub (pv 4) (pv 16) set_list))))))
      (pss_one (ps_ret (pe_lst (pa_cons (pe_make T.mk_Side G_Side___init__ (hr.mono (by decide)) rfl T.g_Side T.b_Side___init__ .nil pass0 (pa_cons (pv 0) (pa_cons (pv 1) (pa_cons (pv 4) pa_nil)))) (pa_cons (pv 4) (pa_cons (pv 5) pa_nil)))))))))), ?_⟩
    try dsimp only [cxOf]
    have haH := sR _ _ haf
    fail "go"
    refine ⟨by fail "sz", ?_⟩
    fail "newM"
    rename_i p4 H4 n4 g4 m4 h4 s4
    have hb4 := g4.g.same _ _ hb
    have g04 : Mu [] R H H4 := g4
    clear g4 haH
    fail "go"
    refine g_rep h4 (by omega) (by omega) (by simp only [List.length_cons, List.length_nil]; fail "sz") ?_
    rw [show (List.replicate (L.device + 2).toNat [V.non]).flatten = List.replicate (L.device + 2).toNat V.non by simp]
    fail "newM"
    rename_i D H5 n5 g5 RD h5 s5
    have hb5 := g5.g.same _ _ hb4
    have Db : D ≠ b := (ne_of_none hb4 n5).symm
    have HD : H D = none := g04.g.free n5
    have g05 : Mu [] R H H5 := ⟨g04.g.trans g5.g⟩
    clear g5 h4 s4 hb4 g04
    fail "go"
    refine ⟨by fail "sz", ?_⟩
    fail "newM"
    rename_i E H6 n6 g6 RE h6 s6
    have hb6 := g6.g.same _ _ hb5
    have hD6 := g6.g.same _ _ h5
    have Eb : E ≠ b := (ne_of_none hb5 n6).symm
    have ED : E ≠ D := (ne_of_none h5 n6).symm
    have HE : H E = none := g05.g.free n6
    have g06 : Mu [] R H H6 := ⟨g05.g.trans g6.g⟩
    clear g6 h5 s5 hb5 g05
    fail "go"
    refine g_R1W (n := 2) rfl (by decide) ?_
    have dnone : ∀ i : Nat, (List.replicate (L.device + 2).toNat (none : Cell)).getD i none = none := fun i => by
      rw [List.getD_eq_getElem?_getD, List.getElem?_replicate]
      split <;> rfl
    have st0 : LbdSt K L R H6 b D E z 0 (List.replicate (L.device + 2).toNat V.non) [] (List.replicate (L.device + 2).toNat none) [] := ⟨hD6, h6, ⟨_, hb6⟩, dp_nones _, .nil, by rw [List.length_replicate]; omega, fun c hc => by rw [List.eq_of_mem_replicate hc]; trivial, fun j _ _ => dnone _, rfl, fun j h => absurd h (Nat.not_lt_zero j), Nat.zero_le _⟩
    refine for_range (lo := 0) (n := 2) (fun i σ H' => ∃ (R1 : Hp) (us uls : List V) (cs : List Cell) (ls : List (Option Lb)) (x6 x7 x8 x9 x10 x11 x12 x13 : Option V), σ = [some (.ref a), some (.int z), some (.ref b), some cv, some (.ref D), some (.ref E), x6, x7, x8, x9, x10, x11, x12, x13, none, none, none, none] ∧ Gr [b, D, E] R H6 R1 H' ∧ LbdSt K L R1 H' b D E z i us uls cs ls) ⟨R, _, _, _, _, none, none, none, none, none, none, none, none, rfl, Gr.refl s6, st0⟩ ?_ ?_
    · rintro i σ H7 hi ⟨R1, us, uls, cs, ls, x6, x7, x8, x9, x10, x11, x12, x13, rfl, gA, st⟩
      rw [Int.zero_add]
      obtain ⟨n1, hb7⟩ := st.hb
      have R1b := gA.fr _ _ hb6 Rb
      have R1D := gA.fr _ _ hD6 RD
      have R1E := gA.fr _ _ h6 RE
      have s7 := gA.rh
      have haf1 := gA.rr _ _ haf
      clear hb6 hD6 h6 s6 st0 g06
      fail "go"
      rename_i Ha ga hba sa
      have B0 : LBun R1 H7 R1 H7 b D E n1 us uls := ⟨Gr.refl s7, hb7, st.hD, st.hE, R1b, R1D, R1E⟩
      have B1 := B0.box ga.g hba Db Eb
      have g0r := mod_rng n1 (show (0 : Int) < 4 by decide)
      generalize n1 % 4 = g0 at g0r ⊢
      generalize n1 / 4 = n2 at hba B1
      clear ga hb7 s7 B0
      refine g_R1W (n := 3) rfl (by decide) ?_
      refine lc_seats sa R1b hba fun I Hb M n3 gb nI hbb hIb asc1 rng1 hz1 => ?_
      have B2 := B1.box gb hbb Db Eb
      have sb := gb.rh
      clear gb hba sa B1 hbb
      fail "go"
      refine g_tupL (SqL.of hIb) ?_
      fail "newR"
      rename_i tM Hc R2 nc gc hM sc
      have B3 := B2.step gc
      have hbc := B3.hb
      have R2b := B3.Rb
      have rA := gc.rr
      clear gc hIb sb nc B2
      fail "go"
      rename_i Hd gd hbd sd
      have B4 := B3.box gd.g hbd Db Eb
      have kr := mod_rng n3 (show (0 : Int) < 5 by decide)
      generalize n3 % 5 = kind at kr ⊢
      generalize n3 / 5 = n4 at hbd B4
      clear gd hbc sc B3
      refine ⟨by fail "sz", ?_⟩
      fail "newR"
      rename_i f1 He R3 ne ge hf1 se
      have B5 := B4.step ge
      replace rA := rA.trans ge.rr
      replace hM := ge.rr _ _ hM
      clear ge ne sd B4 hbd
      fail "go"
      refine ⟨by fail "sz", ?_⟩
      fail "newR"
      rename_i f2 Hf R4 nf gf hf2 sf
      have B6 := B5.step gf
      replace rA := rA.trans gf.rr
      replace hM := gf.rr _ _ hM
      replace hf1 := gf.rr _ _ hf1
      clear gf nf se B5
      fail "go"
      refine ⟨by fail "sz", ?_⟩
      fail "newR"
      rename_i f3 Hg R5 ng gg hf3 sg
      have B7 := B6.step gg
      replace rA := rA.trans gg.rr
      replace hM := gg.rr _ _ hM
      replace hf1 := gg.rr _ _ hf1
      replace hf2 := gg.rr _ _ hf2
      clear gg ng sf B6
      fail "go"
      refine ⟨by fail "sz", ?_⟩
      fail "newR"
      rename_i f4 Hh R6 nh gh hf4 sh
      have B8 := B7.step gh
      replace rA := rA.trans gh.rr
      replace hM := gh.rr _ _ hM
      replace hf1 := gh.rr _ _ hf1
      replace hf2 := gh.rr _ _ hf2
      replace hf3 := gh.rr _ _ hf3
      clear gh nh sg B7
      fail "go"
      refine ⟨by fail "sz", ?_⟩
      fail "newM"
      rename_i f5 Hi n5 g5' m5 hf5 s5
      have B9 := B8.step g5'.g
      have hb9 := B9.hb
      have R6b := B9.Rb
      have f5b : f5 ≠ b := fun e => by rw [e] at hf5; rw [hb9] at hf5; cases hf5
      clear g5' n5 sh B8 m5
      fail "go"
      rename_i Hj gj hbj sj
      have hf5j := gj.g.hh _ _ (nin1 f5b) hf5
      have B10 := B9.box gj.g hbj Db Eb
      have fr4 := mod_rng n4 (show (0 : Int) < 4 by decide)
      generalize n4 % 4 = fi at fr4 ⊢
      generalize n4 / 4 = n6 at hbj B10
      clear gj hf5 hb9 s5 B9
      have pickF : ∃ (ft : Addr) (fk : List Int), atI [V.ref f1, .ref f2, .ref f3, .ref f4] fi = some (.ref ft) ∧ SqT K R6 ft (fk.map V.int) ∧ fk.length ≤ 2 ∧ ∀ f ∈ fk, 0 ≤ f ∧ f < 3 := by
        obtain ⟨fi, rfl⟩ := Int.eq_ofNat_of_zero_le fr4.1
        have : fi < 4 := by omega
        match fi, this with
        | 0, _ => exact ⟨f1, [], rfl, SqT.of hf1, by decide, by decide⟩
        | 1, _ => exact ⟨f2, [], rfl, SqT.of hf2, by decide, by decide⟩
        | 2, _ => exact ⟨f3, [1], rfl, SqT.of hf3, by decide, by decide⟩
        | 3, _ => exact ⟨f4, [0, 2], rfl, SqT.of hf4, by decide, by decide⟩
      obtain ⟨ft, fk, hfi, hft, fl, fr⟩ := pickF
      refine g_ixL (SqL.of hf5j) hfi ?_
      clear hf5j hf1 hf2 hf3 hf4 hfi
      fail "go"
      refine g_R1W (n := 3) rfl (by decide) ?_
      refine lc_seats sj R6b hbj fun I2 Hk BF n7 gk nI2 hbk hIk asc2 rng2 hz2 => ?_
      have B11 := B10.box gk hbk Db Eb
      have sk := gk.rh
      replace rA := rA.trans gk.rr
      clear gk hbj sj B10 hbk
      fail "go"
      refine g_tupL (SqL.of hIk) ?_
      fail "newR"
      rename_i tB Hl R7 nl gl hBF sl
      have B12 := B11.step gl
      have hbl := B12.hb
      have R7b := B12.Rb
      replace rA := rA.trans gl.rr
      replace hM := gl.rr _ _ hM
      replace hft := sqT_mono gl.rr hft
      clear gl hIk sk nl B11
      have zM : z ∈ M := hz1 z0 z3
      have zB : z ∈ BF := hz2 z0 z3
      have frs : ∀ f ∈ fk, 0 ≤ f ∧ f < 3 := fr
      fail "gi"
      refine g_seqIN (fun σ H' => ∃ (R' : Hp) (n' : Int) (tm tb tf : Addr) (M BF fk : List Int), σ = [some (.ref a), some (.int z), some (.ref b), some cv, some (.ref D), some (.ref E), some (.int (i : Int)), some (.int (1 + g0)), some (.ref tm), some (.int kind), some (.ref tf), some (.ref tb), x12, x13, none, none, none, none] ∧ LBun R1 H7 R' H' b D E n' us uls ∧ SqT K R' tm (M.map V.int) ∧ M.Pairwise (· < ·) ∧ (∀ y ∈ M, 0 ≤ y ∧ y < 3) ∧ z ∈ M ∧ SqT K R' tb (BF.map V.int) ∧ BF.Pairwise (· < ·) ∧ (∀ y ∈ BF, 0 ≤ y ∧ y < 3) ∧ SqT K R' tf (fk.map V.int) ∧ fk.length ≤ 2 ∧ ∀ f ∈ fk, 0 ≤ f ∧ f < 3) ?_ (fun Nx rest => ?_)
      · clear B12 hbl R7b rA hM hft hBF sl asc1 rng1 asc2 rng2 zM zB frs fr fl hz1 hz2
        rintro σ Hm ⟨R8, n8, tm, tb, tf, M, BF, fk, rfl, B, hM, asc1, rng1, zM, hBF, asc2, rng2, hft, fl, frs⟩
        have rA := B.g.rr
        have sm := B.g.rh
        have hbm := B.hb
        have R8b := B.Rb
        have haf8 := rA _ _ haf1
        have lok : LbOk ⟨1 + g0, M, BF, fk⟩ := ⟨asc_bits asc1 rng1, asc_bits asc2 rng2, (show fk.length ≤ 16 by omega), fun f hf => (by have := frs f hf; omega)⟩
        have sml : smallLb ⟨1 + g0, M, BF, fk⟩ := ⟨show 1 ≤ 1 + g0 by omega, show 1 + g0 ≤ 4 by omega, fl, frs⟩
        have fr16 : ∀ f ∈ fk, 0 ≤ f ∧ f < 16777216 := lok.frk
        fail "go"
        by_cases k0 : kind = 0
        · subst k0
          rw [if_pos (by decide)]
          fail "go"
          have pr0 := mod_rng (z + 1) (show (0 : Int) < 3 by decide)
          have pne : (z + 1) % 3 ≠ z := by omega
          generalize (z + 1) % 3 = pl at pr0 pne ⊢
          refine ⟨by fail "sz", ?_⟩
          fail "newR"
          rename_i q1 Hn R9 nn gn hq1 sn
          have B1 := B.step gn
          have dlb : Dp K R9 (.ref q1) (Lb.d ⟨1 + g0, M, BF, fk⟩) := .tup (SqT.of hq1) (.cons (.int _) (.cons (.tup (sqT_mono gn.rr hM) (dpAll_ints _)) (.cons (.tup (sqT_mono gn.rr hBF) (dpAll_ints _)) (.cons (.tup (sqT_mono gn.rr hft) (dpAll_ints _)) .nil))))
          have haf9 := gn.rr _ _ haf8
          clear gn nn sm hbm B hq1
          fail "go"
          refine ⟨R9, a, .ref q1, L, pl, ⟨1 + g0, M, BF, fk⟩, i, rfl, sn, ⟨_, haf9⟩, hOk, pr0.1, pr0.2, dp_mono sn dlb, (by show 0 ≤ 1 + g0; omega), lok.few, fr16, fun pr w R10 Ho go npr Rpr0 hpr dw => ?_⟩
          have B2 := B1.step go
          have rB := B2.g.rr
          have so := B2.g.rh
          have hDo := B2.hD
          have hEo := B2.hE
          have hbo := B2.hb
          have R10b := B2.Rb
          have RDo := B2.RD
          have wl : BW L (labelBlk L pl ⟨1 + g0, M, BF, fk⟩) := labelBlk_W hOk pr0.1 pr0.2 (show 0 ≤ 1 + g0 by omega) (show 1 + g0 < 281474976710656 by omega) lok.few
          have lrd := label_other (L := L) (l := ⟨1 + g0, M, BF, fk⟩) pne
          generalize labelBlk L pl ⟨1 + g0, M, BF, fk⟩ = lk at dw wl lrd
          have prb : pr ≠ b := (ne_of_none B1.hb npr).symm
          clear go sn B1 dlb haf8 haf9
          have ul : us.length = cs.length := by have := dpAll_len st.du; simpa using this
          have eN : L.device + (i : Int) = ((L.device.toNat + i : Nat) : Int) := by omega
          have clen := st.len
          have duo := dpAll_mono rB st.du
          have dlo := dpAll_mono rB st.dl
          fail "go"
          rename_i Hp2 gp hbp sp2
          have hprp := gp.g.hh _ _ (nin1 prb) hpr
          have hDp := gp.g.hh _ _ (nin1 Db) hDo
          have hEp := gp.g.hh _ _ (nin1 Eb) hEo
          have gP : Mu' [b] R10 Ho R10 Hp2 := ⟨gp.g⟩
          clear gp hDo hEo hpr hbo so
          refine g_ite (fun c => ?_) (fun c => ?_)
          · fail "go"
            refine g_setL (j := L.device.toNat + i) hDp (by rw [eN]; exact ixN_nat (by omega)) ?_
            fail "mut"
            rename_i Hq gq hDq sq
            have hEq := gq.g.hh _ _ (nin1 ED) hEp
            have hbq := gq.g.hh _ _ (nin1 Db.symm) hbp
            have lx : lbAt L z (cs.set (L.device.toNat + i) (sealOf L (L.device + (i : Int)) (some lk))) i = none := by rw [lbAt_set (by omega), if_pos rfl, lrd]
            have cwl : CW L (sealOf L (L.device + (i : Int)) (some lk)) := sealW fun x e => by cases e; exact wl
            have stN := st.next (ls' := ls) hi hDq hEq ⟨_, hbq⟩ (by rw [List.map_set]; exact dpAll_set _ duo dw) dlo (by rw [List.length_set]; exact clen) (fun d h => by
              rcases List.mem_or_eq_of_mem_set h with h | rfl
              · exact st.cw _ h
              · exact cwl) (fun j h1 h2 => getD_set_ne (by omega)) (.inl ⟨lx, rfl⟩)
            fail "go"
            exact ⟨R10, _, _, _, _, _, _, _, _, _, _, _, _, rfl, gA.trans ((B2.g.mono (by simp)).trans ((gP.g.mono (by simp)).trans (gq.g.mono (by simp)))), stN⟩
          · have lx : lbAt L z cs i = none := by unfold lbAt; rw [st.non i (Nat.le_refl i) hi]; rfl
            have stN := st.next (ls' := ls) hi hDp hEp ⟨_, hbp⟩ duo dlo clen st.cw (fun j h1 h2 => rfl) (.inl ⟨lx, rfl⟩)
            fail "go"
            exact ⟨R10, _, _, _, _, _, _, _, _, _, _, _, _, rfl, gA.trans ((B2.g.mono (by simp)).trans (gP.g.mono (by simp))), stN⟩
        · rw [if_neg (by simpa using k0)]
          fail "go"
          refine ⟨by fail "sz", ?_⟩
          fail "newR"
          rename_i q1 Hn R9 nn gn hq1 sn
          have B1 := B.step gn
          have dlb : Dp K R9 (.ref q1) (Lb.d ⟨1 + g0, M, BF, fk⟩) := .tup (SqT.of hq1) (.cons (.int _) (.cons (.tup (sqT_mono gn.rr hM) (dpAll_ints _)) (.cons (.tup (sqT_mono gn.rr hBF) (dpAll_ints _)) (.cons (.tup (sqT_mono gn.rr hft) (dpAll_ints _)) .nil))))
          have haf9 := gn.rr _ _ haf8
          have gn_rr := gn.rr
          clear gn nn sm hbm B hq1
          fail "go"
          refine ⟨R9, a, .ref q1, L, z, ⟨1 + g0, M, BF, fk⟩, i, rfl, sn, ⟨_, haf9⟩, hOk, z0, z3, dp_mono sn dlb, (by show 0 ≤ 1 + g0; omega), lok.few, fr16, fun pr w R10 Ho go npr Rpr0 hpr dw => ?_⟩
          have B2 := B1.step go
          have npr7 : H7 pr = none := B1.g.free npr
          have B2r := gn_rr.trans go.rr
          have rB := B2.g.rr
          have so := B2.g.rh
          have hDo := B2.hD
          have wl : BW L (labelBlk L z ⟨1 + g0, M, BF, fk⟩) := labelBlk_W hOk z0 z3 (show 0 ≤ 1 + g0 by omega) (show 1 + g0 < 281474976710656 by omega) lok.few
          have lrd := label_read (L := L) (z := z) lok
          rw [if_pos ⟨show 1 + g0 ≠ 0 by omega, zM⟩] at lrd
          generalize labelBlk L z ⟨1 + g0, M, BF, fk⟩ = lk at dw wl lrd
          have dlb10 := dp_mono go.rr dlb
          have prD : pr ≠ D := (ne_of_none B1.hD npr).symm
          have prE : pr ≠ E := (ne_of_none B1.hE npr).symm
          have prb : pr ≠ b := (ne_of_none B1.hb npr).symm
          clear go sn B1 dlb haf8 haf9
          have sealI : True := trivial
          have ul : us.length = cs.length := by have := dpAll_len st.du; simpa using this
          have eN : L.device + (i : Int) = ((L.device.toNat + i : Nat) : Int) := by omega
          have clen := st.len
          have fin : ∀ {R' H' : Hp} {us' uls' : List V} {cs' : List Cell} {ls' : List (Option Lb)}, Gr [b, D, E] R10 Ho R' H' → LbdSt K L R' H' b D E z (i + 1) us' uls' cs' ls' → Gr [b, D, E] R H6 R' H' ∧ LbdSt K L R' H' b D E z (i + 1) us' uls' cs' ls' := fun g st' => ⟨gA.trans ((B2.g.mono (by simp)).trans g), st'⟩
          have same' : ∀ (c : Cell) (j : Nat), j ≠ i → j < 2 → (cs.set (L.device.toNat + i) c).getD (L.device.toNat + j) none = cs.getD (L.device.toNat + j) none := fun c j h1 h2 => getD_set_ne (by omega)
          have cwS : ∀ c, CW L c → ∀ d ∈ cs.set (L.device.toNat + i) c, CW L d := fun c hc d h => by
            rcases List.mem_or_eq_of_mem_set h with h | rfl
            · exact st.cw _ h
            · exact hc
          have duo := dpAll_mono rB st.du
          have dlo := dpAll_mono rB st.dl
          have hEo := B2.hE
          have hbo : ∃ n, Ho b = some (.lst [.int n]) := ⟨_, B2.hb⟩
          have RDo := B2.RD
          have REo := B2.RE
          have few := st.few
          have ull : uls.length = ls.length := by have := dpAll_len st.dl; simpa using this
          fail "go"
          by_cases k1 : kind = 1
          · subst k1
            rw [if_pos (by decide)]
            obtain ⟨tw, xw, yw, rfl, htw, hxw, hyw⟩ := dpT2 (show Dp K R10 w (.tuple [optD (some lk), .int (chk L (L.device + (i : Int)) (some lk))]) from dw)
            obtain rfl := dp_int hyw
            clear dw hyw
            generalize hck : chk L (L.device + (i : Int)) (some lk) = ck at htw
            have htwo := sqT_mono so htw
            refine g_asgS ?_
            refine g_tup ?_
            refine g_cons ?_
            refine g_op ?_
            refine g_op ?_
            refine g_var rfl ?_
            refine g_c ?_
            refine g_ixL (SqL.of hpr) rfl ?_
            refine g_c ?_
            refine g_ixT htwo rfl ?_
            refine g_cons ?_
            refine g_op ?_
            refine g_op ?_
            refine g_op ?_
            refine g_var rfl ?_
            refine g_c ?_
            refine g_ixL (SqL.of hpr) rfl ?_
            refine g_c ?_
            refine g_ixT htwo rfl ?_
            refine g_c ?_
            refine g_sub ?_
            refine g_nil ?_
            refine ⟨by fail "sz", ?_⟩
            fail "newR"
            rename_i q2 Hq R11 nq gq hq2 sq
            have hprq := gq.same _ _ hpr
            have hDq := gq.same _ _ hDo
            have hEq := gq.same _ _ hEo
            have hbq : ∃ n, Hq b = some (.lst [.int n]) := let ⟨n, e⟩ := hbo; ⟨n, gq.same _ _ e⟩
            have dwc : Dp K R11 (.ref q2) (cellD (some (some lk, ck - 1))) := .tup (SqT.of hq2) (.cons (dp_mono gq.rr hxw) (.cons (.int _) .nil))
            refine g_var rfl ?_
            refine g_c ?_
            refine g_setL hprq (j := 1) rfl ?_
            have Rpr := gq.fr _ _ hpr Rpr0
            have gpr : Mu [pr] R11 Hq (upd Hq pr (.lst ([V.int (L.device + (i : Int)), .ref tw].set 1 (.ref q2)))) := ⟨Gr.mut sq Rpr hprq⟩
            have hpr2 : upd Hq pr (.lst ([V.int (L.device + (i : Int)), .ref tw].set 1 (.ref q2))) pr = some (.lst [V.int (L.device + (i : Int)), .ref q2]) := upd_same
            generalize upd Hq pr (.lst ([V.int (L.device + (i : Int)), .ref tw].set 1 (.ref q2))) = Hr at gpr hpr2 ⊢
            have hDr := gpr.g.hh _ _ (nin1 prD.symm) hDq
            have hEr := gpr.g.hh _ _ (nin1 prE.symm) hEq
            have hbr : ∃ n, Hr b = some (.lst [.int n]) := let ⟨n, e⟩ := hbq; ⟨n, gpr.g.hh _ _ (nin1 prb.symm) e⟩
            have RDr := gq.fr _ _ hDo RDo
            have sr := gpr.g.rh
            have gT : Mu' [pr] R10 Ho R11 Hr := ⟨gq.nil.trans gpr.g⟩
            have r10_11 := gq.rr
            clear gq gpr hprq hDq hEq hbq hpr htwo htw hq2
            fail "go"
            refine g_setL (j := L.device.toNat + i) hDr (by rw [eN]; exact ixN_nat (by omega)) ?_
            fail "mut"
            rename_i Hs gs hDs ss
            have hEs := gs.g.hh _ _ (nin1 ED) hEr
            have hbs : ∃ n, Hs b = some (.lst [.int n]) := let ⟨n, e⟩ := hbr; ⟨n, gs.g.hh _ _ (nin1 Db.symm) e⟩
            have gU : Mu' [pr, D] R10 Ho R11 Hs := ⟨(gT.g.mono (by simp)).trans (gs.g.mono (by simp))⟩
            have ss' := ss
            clear gs gT
            fail "go"
            have lx : lbAt L z (cs.set (L.device.toNat + i) (some (some lk, ck - 1))) i = none := by
              unfold lbAt
              rw [getD_set_self (by omega)]
              show labelOf L z (if ck - 1 = chk L (L.device + (i : Int)) (some lk) then some lk else none) = none
              rw [hck, if_neg (by omega)]
              rfl
            have cwl : CW L (some (some lk, ck - 1)) := fun x e => by cases e; exact wl
            have stN := st.next (ls' := ls) hi hDs hEs hbs (by rw [List.map_set]; exact dpAll_set _ (dpAll_mono r10_11 duo) dwc) (dpAll_mono r10_11 dlo) (by rw [List.length_set]; exact clen) (cwS _ cwl) (same' _) (.inl ⟨lx, rfl⟩)
            have gW : Gr [b, D, E] R1 H7 R11 Hs := ((B2.g.mono (M' := [pr, b, D, E]) (by simp)).trans (gU.g.mono (by simp))).forget fun y hy hn => by
              rcases List.mem_cons.mp hy with h | h
              · rw [h]; exact npr7
              · exact absurd h hn
            exact ⟨R11, _, _, _, _, _, _, _, _, _, _, _, _, rfl, gA.trans gW, stN⟩
          · rw [if_neg (by simpa using k1)]
            fail "go"
            rw [if_pos (by simp; omega)]
            fail "go"
            refine g_setL (j := L.device.toNat + i) hDo (by rw [eN]; exact ixN_nat (by omega)) ?_
            fail "mut"
            rename_i Hq gq hDq sq
            have hEq := gq.g.hh _ _ (nin1 ED) hEo
            have hbq : ∃ n, Hq b = some (.lst [.int n]) := let ⟨n, e⟩ := hbo; ⟨n, gq.g.hh _ _ (nin1 Db.symm) e⟩
            fail "go"
            rw [if_pos (by simp; omega)]
            fail "go"
            refine ⟨by fail "sz", ?_⟩
            have gqM : Mu' [D] R10 Ho R10 Hq := ⟨gq.g⟩
            clear gq hDo hEo
            fail "newR"
            rename_i q3 Hr R12 nr grr hq3 sr
            have hDr := grr.same _ _ hDq
            have hEr := grr.same _ _ hEq
            have hbr : ∃ n, Hr b = some (.lst [.int n]) := let ⟨n, e⟩ := hbq; ⟨n, grr.same _ _ e⟩
            have REr := grr.fr _ _ hEq REo
            have rC := rB.trans grr.rr
            have r812 := B2r.trans grr.rr
            have hMr := sqT_mono r812 hM
            have hBFr := sqT_mono r812 hBF
            have hftr := sqT_mono r812 hft
            have dl3 : Dp K R12 (.ref q3) (lbD (some ⟨1 + g0, M, BF, fk⟩)) := .tup (SqT.of hq3) (.cons (.int _) (.cons (.tup hMr (dpAll_ints _)) (.cons (.tup hBFr (dpAll_ints _)) (.cons (.tup hftr (dpAll_ints _)) .nil))))
            have gT : Mu' [D] R10 Ho R12 Hr := ⟨gqM.g.trans grr.nil⟩
            have r10_12 := grr.rr
            have lsz : uls.length < sizeLine := Nat.lt_of_le_of_lt (show _ ≤ 1000 by omega) (by decide)
            clear grr gqM hq3 hbq hDq hEq sq nr
            fail "go"
            rename_i Hs gs hEs ss
            have hDs := gs.g.hh _ _ (nin1 ED.symm) hDr
            have hbs : ∃ n, Hs b = some (.lst [.int n]) := let ⟨n, e⟩ := hbr; ⟨n, gs.g.hh _ _ (nin1 Eb.symm) e⟩
            have lx : lbAt L z (cs.set (L.device.toNat + i) (sealOf L (L.device + (i : Int)) (some lk))) i = some ⟨1 + g0, M, BF, fk⟩ := by rw [lbAt_set (by omega), if_pos rfl, lrd]
            have cwl : CW L (sealOf L (L.device + (i : Int)) (some lk)) := sealW fun x e => by cases e; exact wl
            have stN := st.next (ls' := ls ++ [some ⟨1 + g0, M, BF, fk⟩]) hi hDs hEs hbs (by rw [List.map_set]; exact dpAll_set _ (dpAll_mono r10_12 duo) (dp_mono r10_12 dw)) (by rw [List.map_append]; exact dpAll_app (dpAll_mono r10_12 dlo) (.cons dl3 .nil)) (by rw [List.length_set]; exact clen) (cwS _ cwl) (same' _) (.inr ⟨_, lx, rfl, sml⟩)
            exact ⟨R12, _, _, _, _, _, _, _, _, _, _, _, _, rfl, fin ((gT.g.mono (by simp)).trans (gs.g.mono (by simp))) stN⟩
      · fail "go"
        rcases hcv with rfl | ⟨tC, C, rfl, hC, ascC, rngC⟩
        · rw [if_neg (by simp)]
          fail "go"
          exact rest _ _ ⟨R7, _, _, _, _, M, BF, fk, rfl, B12, SqT.of hM, asc1, rng1, zM, SqT.of hBF, asc2, rng2, hft, fl, frs⟩
        · rw [if_pos (by simp)]
          have hC7 := sqT_mono (gA.rr.trans rA) hC
          fail "go"
          rename_i Hm gm hbm sm
          have B13 := B12.box gm.g hbm Db Eb
          generalize n7 / 4 = n9 at hbm B13
          have hC7H := sqT_mono sm hC7
          clear gm hbl B12 sl
          refine g_ite (fun e1 => ?_) (fun e1 => ?_)
          · fail "go"
            refine g_inF (.inr hC7H) rfl (flat_ints _) ?_
            rw [inV_ints]
            refine ⟨_, rfl, ?_⟩
            by_cases zC : z ∈ C
            · rw [if_pos (by simpa using zC)]
              fail "go"
              refine ⟨by fail "sz", ?_⟩
              fail "newR"
              rename_i u1 Hn R8 nn gn hu1 sn
              have B14 := B13.step gn
              have hC8 := sqT_mono gn.rr hC7
              clear gn nn sm B13 hbm hC7H
              fail "go"
              refine ⟨by fail "sz", ?_⟩
              fail "newR"
              rename_i u2 Ho R9 no go hu2 so
              have B15 := B14.step go
              have hC9 := sqT_mono go.rr hC8
              replace hu1 := go.rr _ _ hu1
              clear go no sn B14 hC8
              fail "go"
              refine ⟨by fail "sz", ?_⟩
              fail "newR"
              rename_i u3 Hp' R10 np' gp hu3 sp'
              have B16 := B15.step gp
              have hC10 := sqT_mono gp.rr hC9
              replace hu1 := gp.rr _ _ hu1
              replace hu2 := gp.rr _ _ hu2
              clear gp np' so B15 hC9
              fail "go"
              refine ⟨by fail "sz", ?_⟩
              fail "newM"
              rename_i u4 Hq nq' gq mq hu4 sq
              have B17 := B16.step gq.g
              have hbq := B17.hb
              have R10b := B17.Rb
              have u4b : u4 ≠ b := fun e => by rw [e] at hu4; rw [hbq] at hu4; cases hu4
              clear gq nq' sp' B16 mq
              fail "go"
              rename_i Hr grr hbr sr
              have hu4r := grr.g.hh _ _ (nin1 u4b) hu4
              have B18 := B17.box grr.g hbr Db Eb
              have ur := mod_rng n9 (show (0 : Int) < 3 by decide)
              generalize n9 % 3 = ui at ur ⊢
              clear grr hu4 hbq sq B17
              have pickU : ∃ (ft : Addr) (fk : List Int), atI [V.ref u1, .ref u2, .ref u3] ui = some (.ref ft) ∧ SqT K R10 ft (fk.map V.int) ∧ fk.length ≤ 2 ∧ ∀ f ∈ fk, 0 ≤ f ∧ f < 3 := by
                obtain ⟨ui, rfl⟩ := Int.eq_ofNat_of_zero_le ur.1
                have : ui < 3 := by omega
                match ui, this with
                | 0, _ => exact ⟨u1, [], rfl, SqT.of hu1, by decide, by decide⟩
                | 1, _ => exact ⟨u2, [], rfl, SqT.of hu2, by decide, by decide⟩
                | 2, _ => exact ⟨u3, [1], rfl, SqT.of hu3, by decide, by decide⟩
              obtain ⟨ft', fk', hui, hft', fl', fr'⟩ := pickU
              refine g_ixL (SqL.of hu4r) hui ?_
              clear hu4r hui
              fail "go"
              exact rest _ _ ⟨R10, _, _, _, _, C, C, fk', rfl, B18, hC10, ascC, rngC, zC, hC10, ascC, rngC, hft', fl', fr'⟩
            · rw [if_neg (by simpa using zC)]
              fail "go"
              exact rest _ _ ⟨R7, _, _, _, _, M, BF, fk, rfl, B13, SqT.of hM, asc1, rng1, zM, SqT.of hBF, asc2, rng2, hft, fl, frs⟩
          · fail "go"
            exact rest _ _ ⟨R7, _, _, _, _, M, BF, fk, rfl, B13, SqT.of hM, asc1, rng1, zM, SqT.of hBF, asc2, rng2, hft, fl, frs⟩
    · rintro σ H7 ⟨R1, us, uls, cs, ls, x6, x7, x8, x9, x10, x11, x12, x13, rfl, gA, st⟩
      have R1b := gA.fr _ _ hb6 Rb
      have R1D := gA.fr _ _ hD6 RD
      have R1E := gA.fr _ _ h6 RE
      have haf1 := gA.rr _ _ haf
      have gH : Mu' [b, D, E] R H R1 H7 := ⟨g06.g.nil.trans gA⟩
      have hD7 := st.hD
      have hE7 := st.hE
      have hb7 := st.hb
      clear hb6 hD6 h6 s6 st0 g06 gA
      fail "go"
      refine g_R1W (n := 3) rfl (by decide) ?_
      refine for_range (lo := 0) (n := 3) (fun i σ H' => ∃ (R2 : Hp) (us : List V) (cs : List Cell) (x14 x15 x16 : Option V), σ = [some (.ref a), some (.int z), some (.ref b), some cv, some (.ref D), some (.ref E), x6, x7, x8, x9, x10, x11, x12, x13, x14, x15, x16, none] ∧ Gr [D] R1 H7 R2 H' ∧ LbdSt K L R2 H' b D E z 2 us uls cs ls) ⟨R1, us, cs, none, none, none, rfl, Gr.refl gH.g.rh, st⟩ ?_ ?_
      · rintro i σ H8 hi ⟨R2, us, cs, x14, x15, x16, rfl, gB, st⟩
        rw [Int.zero_add]
        obtain ⟨n1, hb8⟩ := st.hb
        have hD8 := st.hD
        have hE8 := st.hE
        have R2D := gB.fr _ _ hD7 R1D
        have s8 := gB.rh
        have haf2 := gB.rr _ _ haf1
        have haH8 := s8 _ _ haf2
        fail "go"
        refine ⟨by fail "sz", ?_⟩
        fail "newM"
        rename_i q0 H9 n9 g9 m9 h9 s9
        fail "go"
        refine ⟨q0, [n1], _, rfl, SqL.of h9, by omega, ?_⟩
        have hD9 := g9.g.same _ _ hD8
        have g09 : Mu' [] R2 H8 R2 H9 := ⟨g9.g⟩
        clear g9 haH8 s8 h9
        fail "go"
        refine ⟨by fail "sz", ?_⟩
        fail "newM"
        rename_i q Ha na ga ma ha' sa
        generalize lawNumber [n1] (5 + (i : Int)) = N at ha'
        have hDa := ga.g.same _ _ hD9
        have Dq : D ≠ q := ne_of_none hD9 na
        have fq : H8 q = none := g09.g.free na
        have haHa := sa _ _ haf2
        have gQ : Mu' [q] R2 H8 R2 Ha := ⟨(g09.g.trans ga.g).nil⟩
        clear ga g09 s9 hD9 na
        fail "go"
        rename_i Hb gb hb' sb
        have hDb := gb.g.hh _ _ (nin1 Dq) hDa
        have gQ2 : Mu' [q] R2 H8 R2 Hb := ⟨gQ.g.trans gb.g⟩
        have vr := mod_rng N (show (0 : Int) < L.device by omega)
        generalize N % L.device = ad at vr ⊢
        obtain ⟨ad, rfl⟩ := Int.eq_ofNat_of_zero_le vr.1
        clear gb ha' haHa sa hDa gQ
        fail "go"
        refine ⟨R2, a, q, L, _, rfl, sb, ⟨_, haf2⟩, hOk, ma, hb', fun v R4 Hc k gc _ dk bk => ?_⟩
        have hDc := gc.hh _ _ (nin1 Dq) hDb
        have gD : Gr [] R2 H8 R4 Hc := (gQ2.g.trans gc).forget (by intro y hy _; rw [List.mem_singleton.mp hy]; exact fq)
        have sc := gD.rh
        have haf4 := gD.rr _ _ haf2
        have R4D := gD.fr _ _ hD8 R2D
        clear gc gQ2 hDb hb' sb
        have gD' : Mu' [] R2 H8 R4 Hc := ⟨gD⟩
        clear gD
        fail "go"
        refine ⟨R4, a, v, L, (ad : Int), some k, rfl, sc, ⟨_, haf4⟩, hOk, dk, bk.x.full, fun w R5 Hd gd dw => ?_⟩
        have hDd := gd.same _ _ hDc
        have R5D := gd.fr _ _ hDc R4D
        have gE : Mu' [] R2 H8 R5 Hd := ⟨gD'.g.trans gd⟩
        have sd := gd.rh
        have ul : us.length = cs.length := by have := dpAll_len st.du; simpa using this
        have clen := st.len
        clear gd hDc sc
        fail "go"
        refine g_setL (j := ad) hDd (ixN_nat (by omega)) ?_
        fail "mut"
        rename_i He ge hDe se
        have hEe := ge.g.hh _ _ (nin1 ED) (gE.g.same _ _ hE8)
        have hbe := ge.g.hh _ _ (nin1 Db.symm) (gE.g.same _ _ hb8)
        refine ⟨R5, _, _, _, _, _, rfl, gB.trans (gE.g.nil.trans ge.g), st.data (n := ad) (c := sealOf L (ad : Int) (some k)) (by omega) hDe hEe ⟨_, hbe⟩ (by rw [List.map_set]; exact dpAll_set _ (dpAll_mono gE.g.rr st.du) dw) (dpAll_mono gE.g.rr st.dl) (sealW fun x e => by cases e; exact bk)⟩
      · rintro σ H8 ⟨R2, us, cs, x14, x15, x16, rfl, gB, st⟩
        have s8 := gB.rh
        have haf2 := gB.rr _ _ haf1
        have haH8 := s8 _ _ haf2
        have hD8 := st.hD
        have hE8 := st.hE
        obtain ⟨n8, hb8⟩ := st.hb
        have R2D := gB.fr _ _ hD7 R1D
        have R2E := gB.fr _ _ hE7 R1E
        have gH8 : Mu' [b, D, E] R H R2 H8 := ⟨gH.g.trans (gB.mono (by simp))⟩
        clear gB gH hD7 hE7 hb7
        fail "go"
        intro x dx nx ndx nex
        have ms := made_same (C := T.C_Side) nx ndx
        refine ⟨R2, x, dx, a, z, .ref D, us, L, rfl, s8.trans ms, s8.free nx, upd_same, ⟨_, haf2⟩, hOk, ⟨by omega, by omega⟩, .inl ⟨D, rfl, SqL.of (ms _ _ hD8)⟩, fun HA d l1 l2 l3 g nd n1 n2 n3' e12 e13 e23 edx hs hd e1 e2 e3 => ⟨rfl, ?_⟩⟩
        obtain ⟨gN, fN, so⟩ := side_new (cs := cs) s8 nx ndx g nd n1 n2 n3' e12 e13 e23 hs hd e1 e2 e3 st.du
        have gNm : Mu' [] R2 H8 R2 HA := ⟨gN⟩
        have hDA := gN.same _ _ hD8
        have hEA := gN.same _ _ hE8
        have hbA := gN.same _ _ hb8
        have sA := gN.rh
        clear gN g hs hd e1 e2 e3 ms n1 n2 n3' nd haH8
        fail "go"
        refine ⟨by fail "sz", ?_⟩
        intro r nr
        have gr' := Gr.newR (M := []) (o := .lst [.ref x, .ref D, .ref E]) sA nr
        have hr' : upd R2 r (.lst [.ref x, .ref D, .ref E]) r = some (.lst [.ref x, .ref D, .ref E]) := upd_same
        have hDr := gr'.same _ _ hDA
        have hEr := gr'.same _ _ hEA
        have hbr := gr'.same _ _ hbA
        have RDr : (upd R2 r (HO.lst [.ref x, .ref D, .ref E])) D = none := gr'.fr _ _ hDA R2D
        have REr : (upd R2 r (HO.lst [.ref x, .ref D, .ref E])) E = none := gr'.fr _ _ hEA R2E
        have sor := so.toD.frame gr' fun _ _ => List.not_mem_nil
        have gT : Gr [b, D, E] R H (upd R2 r (.lst [.ref x, .ref D, .ref E])) (upd HA r (.lst [.ref x, .ref D, .ref E])) := gH8.g.trans ((gNm.g.trans gr').nil)
        have gTb : Gr [b] R H (upd R2 r (.lst [.ref x, .ref D, .ref E])) (upd HA r (.lst [.ref x, .ref D, .ref E])) := gT.forget fun y hy hn => by
          simp only [List.mem_cons, List.not_mem_nil, or_false] at hy hn
          rcases hy with h | h | h
          · exact absurd h hn
          · rw [h]; exact HD
          · rw [h]; exact HE
        have du2 := dpAll_mono gr'.rr st.du
        have dl2 := dpAll_mono gr'.rr st.dl
        generalize upd R2 r (.lst [.ref x, .ref D, .ref E]) = R3 at *
        generalize upd HA r (.lst [.ref x, .ref D, .ref E]) = H3 at *
        have g1 := gTb.adopt1 HD RDr hDr
        have up1 := adopt1_up (o := .lst us) RDr
        have RE1 : upd R3 D (.lst us) E = none := by rw [upd_ne ED]; exact REr
        have g2 := g1.adopt1 HE RE1 hEr
        have up2 := adopt1_up (o := .lst uls) RE1
        have fH : ∀ y ∈ [x, d, l1, l2, l3], H y = none := fun y hy => by
          have := fN y hy
          cases e : H y with
          | none => rfl
          | some o => obtain ⟨o', e'⟩ := gH8.g.th _ _ e; rw [this] at e'; cases e'
        have soF : SideOkD false K T.C_Side T.C_Device (upd (upd R3 D (.lst us)) E (.lst uls)) H3 x a z (mz cs) [x, d, l1, l2, l3] := sor.re (up1.trans up2) fun y hy => by
          have n8 := fN y hy
          rw [upd_ne (fun e => by rw [e] at n8; rw [n8] at hE8; cases hE8), upd_ne (fun e => by rw [e] at n8; rw [n8] at hD8; cases hD8)]
          exact sor.non y hy
        have en : newestOf ls = labOf L z (mz cs) := by
          rw [st.new]
          unfold labOf mz
          rw [labsOf_at]
          rfl
        refine hq _ H3 r x D E [x, d, l1, l2, l3] us cs uls ls g2 ⟨_, hbr⟩ (up2 _ _ (up1 _ _ hr')) (up2 _ _ upd_same) (dpAll_mono (up1.trans up2) du2) upd_same (dpAll_mono (up1.trans up2) dl2) soF fH st.len st.cw en fun l hl => ?_
        have hm := labOf_labs hl
        unfold mz at hm
        rw [labsOf_at] at hm
        simp only [List.mem_cons, List.not_mem_nil, or_false] at hm
        rcases hm with h | h
        · exact st.sml 0 (by omega) l h.symm
        · exact st.sml 1 (by omega) l h.symm
end
def spBest (K : PySem.W.Frag) : Sp := fun vs H Q _ => ∃ (p : Addr) (us : List V) (ls : List (Option Lb)), vs = [.ref p] ∧ SqL K H p us ∧ DpAll K H us (ls.map lbD) ∧ ∀ v, Dp K H v (lbD (newestOf ls)) → Q v H
theorem newestOf_snoc (ls : List (Option Lb)) (x : Option Lb) : newestOf (ls ++ [x]) = pickLb (newestOf ls) x := by
  unfold newestOf
  rw [List.foldl_append]; rfl
section
variable {P : Program} {w : World} {K : PySem.W.Frag} {mg : Str → Option Value} {base : Heap}
theorem ok__law_best (T : Txt P K mg) : FnOk P w K mg base CX0 1 T.f__law_best T.fd__law_best ["labels"] (spBest K) := by
  refine T.F__law_best.ok sc__law_best (fun vs H Q E h => ?_) (fun cdv A outer s H vs Q E hr h => ?_)
  · obtain ⟨p, us, ls, rfl, hp, du, hq⟩ := h
    rfl
  · obtain ⟨p, us, ls, rfl, hp, du, hq⟩ := h
    refine ⟨_, (pss_cons (ps_set (i := 1) sc__law_best.nd rfl (by first | exact Or.inl rfl | exact Or.inr rfl) pe_non)
      (pss_cons (ps_for PassesOwn.never rfl (pi_listK (K := K) (pv 0)) (pg_name (i := 2) sc__law_best.nd rfl (by first | exact Or.inl rfl | exact Or.inr rfl)) (pss_one (ps_if (pt_cmpR opNotU (pv 2) pe_non (nomark _)) (pss_one (ps_if (PW.pt (pw_or (pt_cmpR opIsU (pv 1) pe_non (nomark _)) (pw_or (pt_cmpR op_gt (pe_ix (ixU (K := K)) (pv 2) pe_int (fun _ _ => rfl)) (pe_ix (ixU (K := K)) (pv 1) pe_int (fun _ _ => rfl)) (nomark _)) (pw_or1 (PW.pt (pw_and (pt_cmpR (opEqU (K := K) hr.units) (pe_ix (ixU (K := K)) (pv 2) pe_int (fun _ _ => rfl)) (pe_ix (ixU (K := K)) (pv 1) pe_int (fun _ _ => rfl)) (nomark _)) (pw_and1 (pt_cmpR op_lt (pe_callB (callLenU (K := K)) (by rfl) T.n_len (by decide +kernel) (pa_cons (pe_ix (ixU (K := K)) (pv 2) pe_int (fun _ _ => rfl)) pa_nil)) (pe_callB (callLenU (K := K)) (by rfl) T.n_len (by decide +kernel) (pa_cons (pe_ix (ixU (K := K)) (pv 1) pe_int (fun _ _ => rfl)) pa_nil)) (nomark _))))))))) (pss_one (ps_set (i := 1) sc__law_best.nd rfl (by first | exact Or.inl rfl | exact Or.inr rfl) (pv 2))) pss_nil)) pss_nil)))
      (pss_one (ps_ret (pv 1))))), ?_⟩
    try dsimp only [cxOf]
    fail "go"
    refine g_LsW hp ?_
    have ul : us.length = ls.length := by have := dpAll_len du; simpa using this
    refine for_list (K := K) (a := p) (xs := us) (fun i σ H' => ∃ (v : V) (x2 : Option V), σ = [some (.ref p), some v, x2] ∧ H' = H ∧ Dp K H v (lbD (newestOf (ls.take i)))) ⟨.non, none, rfl, rfl, .non⟩ (fun j σ H' _ ⟨_, _, _, e, _⟩ => by rw [e]; exact hp) ?_ ?_
    · rintro i x σ H' hx ⟨v, x2, rfl, rfl, dv⟩
      obtain ⟨d, hd, dx⟩ := dpAll_get' du hx
      rw [List.getElem?_map] at hd
      obtain ⟨o, ho, rfl⟩ := Option.map_eq_some_iff.mp hd
      have tk : newestOf (ls.take (i + 1)) = pickLb (newestOf (ls.take i)) o := by
        rw [List.take_add_one, ho]
        exact newestOf_snoc _ _
      cases o with
      | none =>
        obtain rfl := dp_non dx
        fail "go"
        exact ⟨v, _, rfl, rfl, by rw [tk]; exact dv⟩
      | some k =>
        obtain ⟨t, m, b, f, rfl, ht, hm, hb, hf⟩ := dpLb dx
        fail "go"
        rcases lbV dv with ⟨e0, rfl⟩ | ⟨o, t2, e0, rfl⟩
        · fail "go"
          refine ⟨_, _, rfl, rfl, ?_⟩
          rw [tk, e0]
          exact dx
        · rw [e0] at dv
          obtain ⟨t3, m3, b3, f3, e3, ht3, hm3, hb3, hf3⟩ := dpLb dv
          cases e3
          have pk : pickLb (some o) (some k) = if (if k.gen = o.gen then decide (k.mem.length < o.mem.length) else decide (k.gen > o.gen)) = true then some k else some o := rfl
          fail "go"
          by_cases c1 : o.gen < k.gen
          · rw [if_pos (decide_eq_true c1)]
            fail "go"
            refine ⟨_, _, rfl, rfl, ?_⟩
            rw [tk, e0, pk, if_neg (show ¬ k.gen = o.gen by omega), if_pos (decide_eq_true c1)]
            exact dx
          · rw [if_neg (by simpa using c1)]
            fail "go"
            by_cases c2 : k.gen = o.gen
            · rw [if_pos (decide_eq_true c2)]
              fail "go"
              by_cases c3 : (k.mem.length : Int) < (o.mem.length : Int)
              · rw [if_pos (by simpa using c3)]
                fail "go"
                refine ⟨_, _, rfl, rfl, ?_⟩
                rw [tk, e0, pk, if_pos c2, if_pos (decide_eq_true (by omega))]
                exact dx
              · rw [if_neg (by simpa using c3)]
                fail "go"
                refine ⟨_, _, rfl, rfl, ?_⟩
                rw [tk, e0, pk, if_pos c2, if_neg (by simp; omega)]
                exact dv
            · rw [if_neg (by simpa using c2)]
              fail "go"
              refine ⟨_, _, rfl, rfl, ?_⟩
              rw [tk, e0, pk, if_neg c2, if_neg (by simpa using c1)]
              exact dv
    · rintro σ H' ⟨v, x2, rfl, rfl, dv⟩
      rw [ul, List.take_length] at dv
      fail "go"
      exact hq v dv
end
def spNewer (K : PySem.W.Frag) : Sp := fun vs H Q _ => ∃ (v w : V) (l : Lb) (b : Option Lb), vs = [v, w] ∧ Dp K H v l.d ∧ Dp K H w (lbD b) ∧ Q (.bl (newer l b)) H
section
variable {P : Program} {w : World} {K : PySem.W.Frag} {mg : Str → Option Value} {base : Heap}
theorem ok_is_newer (T : Txt P K mg) : FnOk P w K mg base CX0 1 T.f_is_newer T.fd_is_newer ["label", "other"] (spNewer K) := by
  refine T.F_is_newer.ok sc_is_newer (fun vs H Q E h => ?_) (fun cdv A outer s H vs Q E hr h => ?_)
  · obtain ⟨v, w, l, b, rfl, dv, dw, hq⟩ := h
    rfl
  · obtain ⟨v, w, l, b, rfl, dv, dw, hq⟩ := h
    refine ⟨_, (pss_cons (ps_if (PW.pt (pw_or (pt_cmpR opIsU (pv 1) pe_non (nomark _)) (pw_or1 (pt_cmpR (opNeU (K := K) hr.units) (pe_ix (ixU (K := K)) (pv 0) pe_int (fun _ _ => rfl)) (pe_ix (ixU (K := K)) (pv 1) pe_int (fun _ _ => rfl)) (nomark _))))) (pss_one (ps_ret (pe_or (pe_cmpR opIsU (pv 1) pe_non (nomark _)) (pe_one (pe_cmpR op_gt (pe_ix (ixU (K := K)) (pv 0) pe_int (fun _ _ => rfl)) (pe_ix (ixU (K := K)) (pv 1) pe_int (fun _ _ => rfl)) (nomark _)))))) pss_nil)
      (pss_one (ps_ret (pe_cmpR op_lt (pe_callB (callLenU (K := K)) (by rfl) T.n_len (by decide +kernel) (pa_cons (pe_ix (ixU (K := K)) (pv 0) pe_int (fun _ _ => rfl)) pa_nil)) (pe_callB (callLenU (K := K)) (by rfl) T.n_len (by decide +kernel) (pa_cons (pe_ix (ixU (K := K)) (pv 1) pe_int (fun _ _ => rfl)) pa_nil)) (nomark _))))), ?_⟩
    try dsimp only [cxOf]
    have r0 := Same.refl H
    obtain ⟨t, m, x, f, rfl, ht, hm, _, _⟩ := dpLb dv
    rcases b with _ | o
    · obtain rfl := dp_non dw
      fail "go"
      exact hq
    · obtain ⟨t2, m2, x2, f2, rfl, ht2, hm2, _, _⟩ := dpLb dw
      dsimp only [newer] at hq
      fail "go"
      refine g_iteN (fun e => ?_) (fun e => ?_)
      · rw [if_neg e] at hq
        fail "go"
        exact hq
      · rw [if_pos e] at hq
        fail "go"
        rw [List.length_map, List.length_map]
        have z : decide ((l.mem.length : Int) < (o.mem.length : Int)) = decide (l.mem.length < o.mem.length) := by rw [decide_eq_decide]; omega
        rw [z]
        exact hq
end
def spNewest (K : PySem.W.Frag) : Sp := fun vs H Q _ => ∃ (a : Addr) (us : List V) (ls : List (Option Lb)), vs = [.ref a] ∧ SqL K H a us ∧ DpAll K H us (ls.map lbD) ∧ ∀ v, Dp K H v (lbD (newestOf ls)) → Q v H
def NewInv (K : PySem.W.Frag) (a : Addr) (ls : List (Option Lb)) (H0 : Hp) (i : Nat) (σ : St) (H : Hp) : Prop := ∃ (v : V) (x : Option V), σ = [some (.ref a), some v, x] ∧ H = H0 ∧ Dp K H v (lbD (newestOf (ls.take i)))
theorem newest_snoc {ls : List (Option Lb)} {i : Nat} {b : Option Lb} (h : ls[i]? = some b) : newestOf (ls.take (i + 1)) = pickLb (newestOf (ls.take i)) b := by
  rw [List.take_add_one, h]
  unfold newestOf
  rw [List.foldl_append]; rfl
section
variable {P : Program} {w : World} {K : PySem.W.Frag} {mg : Str → Option Value} {base : Heap}
theorem ok_newest_label (T : Txt P K mg) : FnOk P w K mg base CX0 2 T.f_newest_label T.fd_newest_label ["labels"] (spNewest K) := by
  have G_is_newer := ok_is_newer (P := P) (w := w) (base := base) T
  refine T.F_newest_label.ok sc_newest_label (fun vs H Q E h => ?_) (fun cdv A outer s H vs Q E hr h => ?_)
  · obtain ⟨a, us, ls, rfl, ha, du, hq⟩ := h
    rfl
  · obtain ⟨a, us, ls, rfl, ha, du, hq⟩ := h
    refine ⟨_, (pss_cons (ps_set (i := 1) sc_newest_label.nd rfl (by first | exact Or.inl rfl | exact Or.inr rfl) pe_non)
      (pss_cons (ps_for PassesOwn.never rfl (pi_listK (K := K) (pv 0)) (pg_name (i := 2) sc_newest_label.nd rfl (by first | exact Or.inl rfl | exact Or.inr rfl)) (pss_one (ps_if (PW.pt (pw_and (pt_cmpR opNotU (pv 2) pe_non (nomark _)) (pw_and1 (pt_truthK (K := K) (pe_call G_is_newer (hr.mono (by decide)) rfl T.g_is_newer T.F_is_newer.kp T.b_is_newer .nil pass0 (pa_cons (pv 2) (pa_cons (pv 1) pa_nil))) (by intro _; rfl))))) (pss_one (ps_set (i := 1) sc_newest_label.nd rfl (by first | exact Or.inl rfl | exact Or.inr rfl) (pv 2))) pss_nil)))
      (pss_one (ps_ret (pv 1))))), ?_⟩
    try dsimp only [cxOf]
    have r0 := Same.refl H
    have ul : us.length = ls.length := by have := dpAll_len du; simpa using this
    fail "go"
    refine g_LsW ha ?_
    refine for_list (K := K) (xs := us) (NewInv K a ls H) ⟨_, none, rfl, rfl, .non⟩ (fun i σ H2 _ ⟨_, _, _, e, _⟩ => e ▸ ha) ?_ ?_
    · rintro i x σ H2 hi ⟨v, x0, rfl, rfl, dv⟩
      obtain ⟨d, hd, dx⟩ := dpAll_get' du hi
      rw [List.getElem?_map] at hd
      obtain ⟨b, hb, rfl⟩ := Option.map_eq_some_iff.mp hd
      have hs := newest_snoc hb
      rcases b with _ | l
      · obtain rfl := dp_non dx
        fail "go"
        exact ⟨v, _, rfl, rfl, by rw [hs]; exact dv⟩
      · obtain ⟨t, m, y, f, rfl, ht, hm, _, _⟩ := dpLb dx
        fail "go"
        refine ⟨_, v, l, _, rfl, dx, dv, ?_⟩
        fail "go"
        refine ⟨_, rfl, ?_⟩
        refine g_iteB (fun e => ?_) (fun e => ?_)
        · fail "go"
          exact ⟨_, _, rfl, rfl, by rw [hs, pickLb, if_pos e]; exact dx⟩
        · fail "go"
          exact ⟨v, _, rfl, rfl, by rw [hs, pickLb, if_neg (by rw [e]; exact Bool.false_ne_true)]; exact dv⟩
    · rintro σ H2 ⟨v, x0, rfl, rfl, dv⟩
      rw [ul, List.take_length] at dv
      fail "go"
      exact hq _ dv
end
def spSeats (K : PySem.W.Frag) : Sp := fun vs H Q _ => ∃ (t : Addr) (a b c : Int), vs = [.ref t] ∧ SqT K H t [.int a, .int b, .int c] ∧ ∀ p H', Same H H' → H p = none → H' p = some (.tup ((seats3 a b c).map V.int)) → Q (.ref p) H'
def seatsUp (a b c : Int) : Nat → List Int
  | 0 => []
  | 1 => if a ≠ 0 then [0] else []
  | 2 => (if a ≠ 0 then [0] else []) ++ (if b ≠ 0 then [1] else [])
  | _ => seats3 a b c
theorem seats_step {a b c : Int} {j : Nat} (h : j < 3) : ∃ x, ([V.int a, .int b, .int c] : List V)[j]? = some (.int x) ∧ seatsUp a b c (j + 1) = seatsUp a b c j ++ (if x ≠ 0 then [(j : Int)] else []) := by
  match j, h with
  | 0, _ => exact ⟨a, rfl, by simp [seatsUp]⟩
  | 1, _ => exact ⟨b, rfl, by simp [seatsUp]⟩
  | 2, _ => exact ⟨c, rfl, by simp [seatsUp, seats3]⟩
theorem seatsUp_len {a b c : Int} {j : Nat} : (seatsUp a b c j).length ≤ 3 := by
  unfold seatsUp seats3
  split <;> (repeat' split) <;> simp
section
variable {P : Program} {w : World} {K : PySem.W.Frag} {mg : Str → Option Value} {base : Heap}
theorem ok_seats_of_bits (T : Txt P K mg) : FnOk P w K mg base CX0 1 T.f_seats_of_bits T.fd_seats_of_bits ["octets"] (spSeats K) := by
  refine T.F_seats_of_bits.ok sc_seats_of_bits (fun vs H Q E h => ?_) (fun cdv A outer s H vs Q E hr h => ?_)
  · obtain ⟨t, a, b, c, rfl, ht, hq⟩ := h
    rfl
  · obtain ⟨t, a, b, c, rfl, ht, hq⟩ := h
    refine ⟨_, (pss_one (ps_ret (pe_callTy (callTupU (K := K)) (by rfl) T.n_tuple (by decide +kernel) (pa_cons (pe_lc (own := [("seat", 1)]) (g := gName 1) (tt := _) rfl sc_seats_of_bits.nd (pi_range1 rfl T.n_range (pa_cons (pe_glob rfl T.g_SEATS T.r_SEATS) pa_nil)) (blkOk_by (N := N_seats_of_bits) (sc := defScope s_seats_of_bits) (by decide +kernel)) (fun _ _ _ _ _ => (pg_name (i := 1) sc_seats_of_bits.nd rfl (by first | exact Or.inl rfl | exact Or.inr rfl))) (fun _ _ _ _ _ => pts_one (pt_cmpR (opNeU (K := K) hr.units) (pe_ix (ixU (K := K)) (pv 0) (pv 1) (fun _ _ => rfl)) pe_int (nomark _))) (fun _ _ _ _ _ => (pv 1))) pa_nil)))), ?_⟩
    try dsimp only [cxOf]
    have r0 := Same.refl H
    fail "go"
    refine g_R1W (n := 3) rfl (by decide) ?_
    intro D nD
    refine lc_range (lo := 0) (n := 3) (fun j H' => Same H H' ∧ H' D = some (.lst ((seatsUp a b c j).map V.int))) ⟨(Gr.newM (M := []) r0 nD).rh, upd_same⟩ ?_ ?_
    · rintro j H2 hj ⟨s2, h2⟩
      rw [Int.zero_add]
      refine ⟨rfl, ?_⟩
      obtain ⟨x, hx, hs⟩ := seats_step (a := a) (b := b) (c := c) hj
      have hl := seatsUp_len (a := a) (b := b) (c := c) (j := j)
      fail "go"
      refine g_ixT (sqT_mono s2 ht) (atI_nat hx) ?_
      fail "go"
      refine g_iteN (fun e => ?_) (fun e => ?_)
      · fail "go"
        refine ⟨_, h2, by rw [List.length_map]; fail "sz", fun b o q => by rw [upd_ne (ne_of_none q nD)]; exact s2 _ _ q, ?_⟩
        rw [upd_same, hs, if_pos e, List.map_append]; rfl
      · refine ⟨s2, ?_⟩
        rw [h2, hs, if_neg (fun z => z e), List.append_nil]
    · rintro H2 ⟨s2, h2⟩
      fail "go"
      refine g_tupL (SqL.of h2) ?_
      intro p np
      have s3 : Same H2 (upd H2 p (.tup ((seatsUp a b c 3).map V.int))) := (Gr.newM (M := []) (Same.refl H2) np).rh
      exact hq _ _ (s2.trans s3) (s2.free np) upd_same
end
def spNumOf (K : PySem.W.Frag) : Sp := fun vs H Q _ => ∃ (t : Addr) (l : List Int), vs = [.ref t] ∧ (SqL K H t (l.map V.int) ∨ SqT K H t (l.map V.int)) ∧ Q (.int (numOf l)) H
def NumInv (t : Addr) (l : List Int) (H0 : Hp) (i : Nat) (σ : St) (H : Hp) : Prop := ∃ x : Option V, σ = [some (.ref t), some (.int (numOf (l.drop (l.length - i)))), x] ∧ H = H0
theorem num_step {l : List Int} {i : Nat} {n : Int} (hi : i < l.length) (h : l[l.length - 1 - i]? = some n) : numOf (l.drop (l.length - (i + 1))) = numOf (l.drop (l.length - i)) * 256 + n := by
  obtain ⟨hl, rfl⟩ := List.getElem?_eq_some_iff.mp h
  have e : l.length - (i + 1) = l.length - 1 - i := by omega
  have e2 : l.length - i = l.length - 1 - i + 1 := by omega
  rw [e, e2, List.drop_eq_getElem_cons hl, numOf]
section
variable {P : Program} {w : World} {K : PySem.W.Frag} {mg : Str → Option Value} {base : Heap}
theorem ok_number_of (T : Txt P K mg) : FnOk P w K mg base CX0 1 T.f_number_of T.fd_number_of ["octets"] (spNumOf K) := by
  refine T.F_number_of.ok sc_number_of (fun vs H Q E h => ?_) (fun cdv A outer s H vs Q E hr h => ?_)
  · obtain ⟨t, l, rfl, ht, hq⟩ := h
    rfl
  · obtain ⟨t, l, rfl, ht, hq⟩ := h
    refine ⟨_, (pss_cons (ps_set (i := 1) sc_number_of.nd rfl (by first | exact Or.inl rfl | exact Or.inr rfl) pe_int)
      (pss_cons (ps_for PassesOwn.never rfl (pi_revK (K := K) (by rfl) T.n_reversed (pv 0)) (pg_name (i := 2) sc_number_of.nd rfl (by first | exact Or.inl rfl | exact Or.inr rfl)) (pss_one (ps_set (i := 1) sc_number_of.nd rfl (by first | exact Or.inl rfl | exact Or.inr rfl) (pe_op (opAddU (K := K)) (pe_op opMultU (pv 1) pe_int) (pv 2)))))
      (pss_one (ps_ret (pv 1))))), ?_⟩
    try dsimp only [cxOf]
    have r0 := Same.refl H
    fail "go"
    have i0 : NumInv t l H 0 ((L2.start N_number_of [V.ref t]).set 1 (some (.int 0))) H := ⟨none, by rw [Nat.sub_zero, List.drop_length]; rfl, rfl⟩
    rcases ht with ht | ht
    · refine ⟨t, _, rfl, .inl ⟨ht, ?_⟩⟩
      refine RT.for_Itv (NumInv t l H) i0 (fun i σ H2 ⟨_, _, e⟩ => e ▸ ht) ?_ ?_
      · rintro i x σ H2 hi hx ⟨x0, rfl, rfl⟩
        rw [List.length_map] at hi hx
        obtain ⟨n, hn, rfl⟩ := map_get hx
        fail "go"
        exact ⟨_, by rw [num_step hi hn]; rfl, rfl⟩
      · rintro σ H2 ⟨x0, rfl, rfl⟩
        rw [List.length_map, Nat.sub_self, List.drop_zero]
        fail "go"
        exact hq
    · refine ⟨t, _, rfl, .inr ⟨ht, ?_⟩⟩
      refine RT.for_ItvT (NumInv t l H) i0 (fun i σ H2 ⟨_, _, e⟩ => e ▸ ht) ?_ ?_
      · rintro i x σ H2 hi hx ⟨x0, rfl, rfl⟩
        rw [List.length_map] at hi hx
        obtain ⟨n, hn, rfl⟩ := map_get hx
        fail "go"
        exact ⟨_, by rw [num_step hi hn]; rfl, rfl⟩
      · rintro σ H2 ⟨x0, rfl, rfl⟩
        rw [List.length_map, Nat.sub_self, List.drop_zero]
        fail "go"
        exact hq
end
def spBits (K : PySem.W.Frag) : Sp := fun vs H Q _ => ∃ (t : Addr) (l : List Int), vs = [.ref t] ∧ SqT K H t (l.map V.int) ∧ ∀ p H', Same H H' → H p = none → H' p = some (.lst ((bits l).map V.int)) → Q (.ref p) H'
theorem bits_step (l : List Int) {j : Nat} (h : j < 3) : (bits l).take (j + 1) = (bits l).take j ++ [if decide (0 + (j : Int) ∈ l) = true then 1 else 0] := by
  match j, h with
  | 0, _ => simp [bits, bit]
  | 1, _ => simp [bits, bit]
  | 2, _ => simp [bits, bit]
section
variable {P : Program} {w : World} {K : PySem.W.Frag} {mg : Str → Option Value} {base : Heap}
theorem ok_bits_of_seats (T : Txt P K mg) : FnOk P w K mg base CX0 1 T.f_bits_of_seats T.fd_bits_of_seats ["seats"] (spBits K) := by
  refine T.F_bits_of_seats.ok sc_bits_of_seats (fun vs H Q E h => ?_) (fun cdv A outer s H vs Q E hr h => ?_)
  · obtain ⟨t, l, rfl, ht, hq⟩ := h
    rfl
  · obtain ⟨t, l, rfl, ht, hq⟩ := h
    refine ⟨_, (pss_one (ps_ret (pe_lc (own := [("seat", 1)]) (g := gName 1) (tt := tYes) rfl sc_bits_of_seats.nd (pi_range1 rfl T.n_range (pa_cons (pe_glob rfl T.g_SEATS T.r_SEATS) pa_nil)) (blkOk_by (N := N_bits_of_seats) (sc := defScope s_bits_of_seats) (by decide +kernel)) (fun _ _ _ _ _ => (pg_name (i := 1) sc_bits_of_seats.nd rfl (by first | exact Or.inl rfl | exact Or.inr rfl))) (fun _ _ _ _ _ => pts_nil) (fun _ _ _ _ _ => (pe_callTy callIntU (by rfl) T.n_int (by decide +kernel) (pa_cons (pe_cmpR (opInF (K := K)) (pv 1) (pv 0) (by rfl)) pa_nil)))))), ?_⟩
    try dsimp only [cxOf]
    have r0 := Same.refl H
    fail "go"
    refine g_R1W (n := 3) rfl (by decide) ?_
    intro D nD
    refine lc_range (lo := 0) (n := 3) (fun j H' => Same H H' ∧ H' D = some (.lst (((bits l).take j).map V.int))) ⟨(Gr.newM (M := []) r0 nD).rh, upd_same⟩ ?_ ?_
    · rintro j H2 hj ⟨s2, h2⟩
      refine ⟨rfl, ?_⟩
      fail "go"
      refine g_inF (.inr (sqT_mono s2 ht)) rfl (flat_ints l) ?_
      rw [inV_ints]
      fail "go"
      refine ⟨_, h2, ?_, fun b o q => by rw [upd_ne (ne_of_none q nD)]; exact s2 _ _ q, ?_⟩
      · have : (bits l).length = 3 := rfl
        rw [List.length_map, List.length_take]; fail "sz"
      · rw [upd_same, bits_step l hj, List.map_append]; rfl
    · rintro H2 ⟨s2, h2⟩
      exact hq _ _ s2 nD h2
end
def OctInv (R : Hp) (n : Int) (k : Nat) (p : Addr) (i : Nat) (σ : St) (H : Hp) : Prop := ∃ x : Option V, σ = [some (.int (lowsRest n i)), some (.int (k : Int)), some (.ref p), x] ∧ Same R H ∧ H p = some (.lst ((lows n i).map V.int))
section
variable {P : Program} {w : World} {K : PySem.W.Frag} {mg : Str → Option Value} {base : Heap}
theorem ok_number_octets (T : Txt P K mg) : FnOk P w K mg base CX0 1 T.f_number_octets T.fd_number_octets ["number", "count"] (spOctets) := by
  refine T.F_number_octets.ok sc_number_octets (fun vs H Q E h => ?_) (fun cdv A outer s H vs Q E hr h => ?_)
  · obtain ⟨n, k, rfl, hk, hq⟩ := h
    rfl
  · obtain ⟨n, k, rfl, hk, hq⟩ := h
    refine ⟨_, (pss_cons (ps_set (i := 2) sc_number_octets.nd rfl (by first | exact Or.inl rfl | exact Or.inr rfl) (pe_lst pa_nil))
      (pss_cons (ps_for PassesOwn.never rfl (pi_range1 rfl T.n_range (pa_cons (pv 1) pa_nil)) (pg_name (i := 3) sc_number_octets.nd rfl (by first | exact Or.inl rfl | exact Or.inr rfl)) (pss_cons (ps_expr (pe_bm PySem.F.plainAttrs_list PySem.F.slot_list_append PySem.F.type_list_append mt_append (pv 2) (pa_cons (pe_op opModU (pv 0) pe_int) pa_nil)))
      (pss_one (ps_set (i := 0) sc_number_octets.nd rfl (by first | exact Or.inl rfl | exact Or.inr rfl) (pe_op opFloorDivU (pv 0) pe_int)))))
      (pss_one (ps_ret (pv 2))))), ?_⟩
    try dsimp only [cxOf]
    have r0 := Same.refl H
    fail "go"
    refine ⟨by fail "sz", ?_⟩
    fail "newM"
    rename_i p H1 n1 g1 m1 h1 s1
    fail "go"
    refine g_R1W rfl (by omega) ?_
    refine for_range (lo := 0) (n := k) (OctInv H n k p) ⟨none, rfl, s1, h1⟩ ?_ ?_
    · rintro i σ H2 hi ⟨x0, rfl, s2, h2⟩
      fail "go"
      rename_i H3 g3 h3 s3
      refine ⟨some (.int (0 + (i : Int))), ?_, s3, ?_⟩
      · rw [lowsRest_succ]; rfl
      · rw [lows_succ, List.map_append]; exact h3
    · rintro σ H2 ⟨x0, rfl, s2, h2⟩
      fail "go"
      exact hq _ _ s2 m1 h2
end
def spLabelBlock (K : PySem.W.Frag) (C : Addr) : Sp := fun vs H Q _ => ∃ (a : Addr) (v : V) (L : Lay) (n : Int) (l : Lb), vs = [.ref a, .int n, v] ∧ LayAt C H a L ∧ L.Ok ∧ Dp K H v l.d ∧ l.forks.length ≤ 300 ∧ ∀ w H', Same H H' → Dp K H' w (labelBlk L n l).d → NewDp K H H' w (labelBlk L n l).d → Q w H'
def LbForks (R : Hp) (a t m b f p : Addr) (n : Int) (l : Lb) (i : Nat) (σ : St) (H : Hp) : Prop := ∃ x : Option V, σ = [some (.ref a), some (.int n), some (.ref t), some (.int l.gen), some (.ref m), some (.ref b), some (.ref f), some (.ref p), x] ∧ Same R H ∧ H p = some (.lst ((labelHead n l ++ fork3 (l.forks.take i)).map V.int))
section
variable {P : Program} {w : World} {K : PySem.W.Frag} {mg : Str → Option Value} {base : Heap}
theorem ok_label_block (T : Txt P K mg) : FnOk P w K mg base CX0 2 T.f_label_block T.fd_label_block ["layout", "seat", "label"] (spLabelBlock K T.C_Layout) := by
  have cl_Layout := T.cl_Layout
  have a_Layout_block_size := T.a_Layout_block_size
  have G_bits_of_seats := ok_bits_of_seats (P := P) (w := w) (base := base) T
  have G_number_octets := ok_number_octets (P := P) (w := w) (base := base) T
  refine T.F_label_block.ok sc_label_block (fun vs H Q E h => ?_) (fun cdv A outer s H vs Q E hr h => ?_)
  · obtain ⟨a, v, L, n, l, rfl, ⟨dx, ha⟩, hL, dv, hf, hq⟩ := h
    rfl
  · obtain ⟨a, v, L, n, l, rfl, ⟨dx, ha⟩, hL, dv, hf, hq⟩ := h
    refine ⟨_, (pss_cons (ps_asg (pv 2) (pg_tupK (K := K) rfl (pgs_cons (pg_name (i := 3) sc_label_block.nd rfl (by first | exact Or.inl rfl | exact Or.inr rfl)) (pgs_cons (pg_name (i := 4) sc_label_block.nd rfl (by first | exact Or.inl rfl | exact Or.inr rfl)) (pgs_cons (pg_name (i := 5) sc_label_block.nd rfl (by first | exact Or.inl rfl | exact Or.inr rfl)) (pgs_cons (pg_name (i := 6) sc_label_block.nd rfl (by first | exact Or.inl rfl | exact Or.inr rfl)) pgs_nil))))))
      (pss_cons (ps_set (i := 7) sc_label_block.nd rfl (by first | exact Or.inl rfl | exact Or.inr rfl) (pe_op (opAddU (K := K)) (pe_op (opAddU (K := K)) (pe_op (opAddU (K := K)) (pe_op (opAddU (K := K)) (pe_callTy (callListU (K := K)) (by rfl) T.n_list (by decide +kernel) (pa_cons (pe_glob rfl T.g_LETTERS_labels T.r_LETTERS_labels) pa_nil)) (pe_lst (pa_cons pe_int (pa_cons (pv 1) pa_nil)))) (pe_call G_bits_of_seats (hr.mono (by decide)) rfl T.g_bits_of_seats T.F_bits_of_seats.kp T.b_bits_of_seats .nil pass0 (pa_cons (pv 4) pa_nil))) (pe_call G_bits_of_seats (hr.mono (by decide)) rfl T.g_bits_of_seats T.F_bits_of_seats.kp T.b_bits_of_seats .nil pass0 (pa_cons (pv 5) pa_nil))) (pe_lst (pa_cons (pe_callB (callLenU (K := K)) (by rfl) T.n_len (by decide +kernel) (pa_cons (pv 6) pa_nil)) pa_nil))))
      (pss_cons (ps_for PassesOwn.never rfl (pi_tupK (K := K) (pv 6)) (pg_name (i := 8) sc_label_block.nd rfl (by first | exact Or.inl rfl | exact Or.inr rfl)) (pss_one (ps_expr (pe_bm PySem.F.plainAttrs_list PySem.F.slot_list_extend PySem.F.type_list_extend mt_extend (pv 7) (pa_cons (pe_call G_number_octets (hr.mono (by decide)) rfl T.g_number_octets T.F_number_octets.kp T.b_number_octets .nil pass0 (pa_cons (pv 8) (pa_cons (pe_glob rfl T.g_FORK_OCTETS T.r_FORK_OCTETS) pa_nil))) pa_nil)))))
      (pss_one (ps_ret (pe_tup (pa_cons (pe_glob rfl T.g_DATA T.r_DATA) (pa_cons (pv 3) (pa_cons pe_int (pa_cons (pe_callTy (callTupU (K := K)) (by rfl) T.n_tuple (by decide +kernel) (pa_cons (pe_op (opAddU (K := K)) (pv 7) (pe_op opMultU (pe_lst (pa_cons pe_int pa_nil)) (pe_op opSubU (pe_fldK (K := K) (pv 0) rfl) (pe_callB (callLenU (K := K)) (by rfl) T.n_len (by decide +kernel) (pa_cons (pv 7) pa_nil))))) pa_nil)) pa_nil)))))))))), ?_⟩
    try dsimp only [cxOf]
    have r0 := Same.refl H
    obtain ⟨t, m, b, f, rfl, ht, hm, hb, hfk⟩ := dpLb dv
    fail "go"
    refine g_listT (T.q_LETTERS_labels _) ?_
    fail "newM"
    rename_i p1 H1 n1 g1 m1 h1 s1
    fail "go"
    refine ⟨by fail "sz", ?_⟩
    fail "newM"
    rename_i p2 H2 n2 g2 m2 h2 s2
    refine g_catI (l := [83, 73, 68, 69]) (m := [1, n]) (by fail "hp") h2 (by simp) ?_
    fail "newM"
    rename_i p3 H3 n3 g3 m3 h3 s3
    fail "go"
    refine ⟨m, l.mem, rfl, by fail "sq", ?_⟩
    fail "ret"
    rename_i p4 H4 h4 f4 g4 m4 s4
    refine g_catI (by fail "hp") h4 (by simp [bits]) ?_
    fail "newM"
    rename_i p5 H5 n5 g5 m5 h5 s5
    fail "go"
    refine ⟨b, l.bef, rfl, by fail "sq", ?_⟩
    fail "ret"
    rename_i p6 H6 h6 f6 g6 m6 s6
    refine g_catI (by fail "hp") h6 (by simp [bits]) ?_
    fail "newM"
    rename_i p7 H7 n7 g7 m7 h7 s7
    fail "go"
    rw [List.length_map]
    refine ⟨by fail "sz", ?_⟩
    fail "newM"
    rename_i p8 H8 n8 g8 m8 h8 s8
    refine g_catI (m := [(l.forks.length : Int)]) (by fail "hp") h8 (by simp [bits]) ?_
    fail "newM"
    rename_i p9 H9 n9 g9 m9 h9 s9
    fail "go"
    refine g_TsW (by fail "sq") ?_
    have h9' : H9 p9 = some (.lst ((labelHead n l ++ fork3 (l.forks.take 0)).map V.int)) := by rw [h9]; simp [labelHead, fork3]
    refine for_tup (K := K) (xs := l.forks.map V.int) (LbForks H a t m b f p9 n l) ⟨none, rfl, s9, h9'⟩ (fun i σ HX _ ⟨_, _, sX, _⟩ => sqT_mono sX hfk) ?_ ?_
    · clear s1 s2 s3 s4 s5 s6 s7 s8 s9 h1 h2 h3 h4 h5 h6 h7 h8 h9 h9' g1 g2 g3 g4 g5 g6 g7 g8 g9 r0
      rintro i x σ H10 hi ⟨x0, rfl, s10, h10⟩
      obtain ⟨o, ho, rfl⟩ := map_get hi
      have hil : i < l.forks.length := (List.getElem?_eq_some_iff.mp ho).1
      have htl : (l.forks.take i).length = i := by rw [List.length_take]; omega
      have fl : (fork3 (l.forks.take i)).length = 3 * i := by rw [fork3_len, htl]
      fail "go"
      fail "ret"
      rename_i p11 H11 h11 f11 g11 m11 s11
      fail "go"
      refine g_ext (l := p9) (show H11 p9 = some (.lst ((labelHead n l ++ fork3 (l.forks.take i)).map V.int)) by fail "hp") h11 (by rw [List.length_map, List.length_map, List.length_append, labelHead_len, fl, lows_len]; fail "sz") ?_
      fail "mut"
      rename_i H12 g12 h12 s12
      fail "go"
      refine ⟨_, rfl, s12, ?_⟩
      rw [h12, take_snoc ho, fork3_snoc, ← List.map_append, List.append_assoc]
    · clear s1 s2 s3 s4 s5 s6 s7 s8 s9 h1 h2 h3 h4 h5 h6 h7 h8 h9 h9' g1 g2 g3 g4 g5 g6 g7 g8 g9 r0
      rintro σ H10 ⟨x0, rfl, s10, h10⟩
      rw [List.length_map, List.take_length] at h10
      have o1 := hL.o1
      have fl := labelFront_len n l
      change H10 p9 = some (.lst ((labelFront n l).map V.int)) at h10
      fail "go"
      refine ⟨by fail "sz", ?_⟩
      fail "newM"
      rename_i p11 H11 n11 g11 m11 h11 s11
      fail "go"
      rw [List.length_map]
      refine g_repZ h11 (by omega) (by omega) ?_
      fail "newM"
      rename_i p12 H12 n12 g12 m12 h12 s12
      refine g_catI (by fail "hp") h12 (by rw [List.length_replicate]; omega) ?_
      fail "newM"
      rename_i p13 H13 n13 g13 m13 h13 s13
      fail "go"
      refine g_tupL (SqL.of h13) ?_
      fail "newM"
      rename_i p14 H14 n14 g14 m14 h14 s14
      fail "go"
      refine ⟨by fail "sz", ?_⟩
      fail "newM"
      rename_i p15 H15 n15 g15 m15 h15 s15
      have h14' : H15 p14 = some (.tup ((labelOcts L n l).map V.int)) := g15.g.hh _ _ (by simp) h14
      exact hq _ _ s15 (.tup (SqT.of h15) (.cons (.int _) (.cons (.int _) (.cons (.int _) (.cons (.tup (SqT.of h14') (dpAll_ints _)) .nil))))) (fun R => .tup (SqT.of (adopt_at m15 h15)) (.cons (.int _) (.cons (.int _) (.cons (.int _) (.cons (.tup (SqT.of (adopt_at m14 h14')) (dpAll_ints _)) .nil)))))
end
def spLabelOf (K : PySem.W.Frag) (C : Addr) : Sp := fun vs H Q _ => ∃ (a : Addr) (v : V) (L : Lay) (n : Int) (k : Option Blk), vs = [.ref a, .int n, v] ∧ LayAt C H a L ∧ L.Ok ∧ Dp K H v (optD k) ∧ (∀ b, k = some b → OctBlk L b) ∧ ∀ w H', Same H H' → Dp K H' w (lbD (labelOf L n k)) → Q w H'
theorem getD_oct {l : List Int} {j : Nat} {P : Int → Prop} (h : ∀ n ∈ l, P n) (hj : j < l.length) : P (l.getD j 0) := by
  rw [List.getD_eq_getElem?_getD, List.getElem?_eq_getElem hj]
  exact h _ (List.getElem_mem hj)
section
variable {P : Program} {w : World} {K : PySem.W.Frag} {mg : Str → Option Value} {base : Heap}
theorem ok_label_of (T : Txt P K mg) : FnOk P w K mg base CX0 3 T.f_label_of T.fd_label_of ["layout", "seat", "block"] (spLabelOf K T.C_Layout) := by
  have G_seats_of_bits := ok_seats_of_bits (P := P) (w := w) (base := base) T
  have G_number_of := ok_number_of (P := P) (w := w) (base := base) T
  have G_label_block := ok_label_block (P := P) (w := w) (base := base) T
  refine T.F_label_of.ok sc_label_of (fun vs H Q E h => ?_) (fun cdv A outer s H vs Q E hr h => ?_)
  · obtain ⟨a, v, L, n, k, rfl, ha, hL, dv, hk, hq⟩ := h
    rfl
  · obtain ⟨a, v, L, n, k, rfl, ha, hL, dv, hk, hq⟩ := h
    refine ⟨_, (pss_cons (ps_if (PW.pt (pw_or (pt_cmpR opIsU (pv 2) pe_non (nomark _)) (pw_or (pt_cmpR (opNeU (K := K) hr.units) (pe_ix (ixU (K := K)) (pv 2) pe_int (fun _ _ => rfl)) (pe_glob rfl T.g_DATA T.r_DATA) (nomark _)) (pw_or1 (pt_cmpR (opEqU (K := K) hr.units) (pe_ix (ixU (K := K)) (pv 2) pe_int (fun _ _ => rfl)) pe_int (nomark _)))))) (pss_one (ps_ret pe_non)) pss_nil)
      (pss_cons (ps_set (i := 3) sc_label_of.nd rfl (by first | exact Or.inl rfl | exact Or.inr rfl) (pe_ix (ixU (K := K)) (pv 2) pe_int (fun _ _ => rfl)))
      (pss_cons (ps_set (i := 4) sc_label_of.nd rfl (by first | exact Or.inl rfl | exact Or.inr rfl) (pe_call G_seats_of_bits (hr.mono (by decide)) rfl T.g_seats_of_bits T.F_seats_of_bits.kp T.b_seats_of_bits .nil pass0 (pa_cons (pe_slice (slU (K := K)) (pv 3) (po_some (pe_glob rfl T.g_MEMBERS_AT T.r_MEMBERS_AT)) (po_some (pe_op (opAddU (K := K)) (pe_glob rfl T.g_MEMBERS_AT T.r_MEMBERS_AT) (pe_glob rfl T.g_SEATS T.r_SEATS)))) pa_nil)))
      (pss_cons (ps_set (i := 5) sc_label_of.nd rfl (by first | exact Or.inl rfl | exact Or.inr rfl) (pe_call G_seats_of_bits (hr.mono (by decide)) rfl T.g_seats_of_bits T.F_seats_of_bits.kp T.b_seats_of_bits .nil pass0 (pa_cons (pe_slice (slU (K := K)) (pv 3) (po_some (pe_op (opAddU (K := K)) (pe_glob rfl T.g_MEMBERS_AT T.r_MEMBERS_AT) (pe_glob rfl T.g_SEATS T.r_SEATS))) (po_some (pe_glob rfl T.g_COUNT_AT T.r_COUNT_AT))) pa_nil)))
      (pss_cons (ps_if (PW.pt (pw_or (pt_cmpR (opNinF (K := K)) (pv 1) (pv 4) (by rfl)) (pw_or1 (pt_cmpR op_gt (pe_ix (ixU (K := K)) (pv 3) (pe_glob rfl T.g_COUNT_AT T.r_COUNT_AT) (fun _ _ => rfl)) (pe_glob rfl T.g_MOST_FORKS T.r_MOST_FORKS) (nomark _))))) (pss_one (ps_ret pe_non)) pss_nil)
      (pss_cons (ps_setLc (i := 6) (own := [("number", 9)]) (g := gName 9) (tt := tYes) rfl sc_label_of.nd rfl rfl (sw_true rfl rfl rfl (by decide +kernel)) (pi_range1 rfl T.n_range (pa_cons (pe_ix (ixU (K := K)) (pv 3) (pe_glob rfl T.g_COUNT_AT T.r_COUNT_AT) (fun _ _ => rfl)) pa_nil)) (blkOk_by (N := N_label_of) (sc := defScope s_label_of) (by decide +kernel)) (fun _ _ _ _ _ => (pg_name (i := 9) sc_label_of.nd rfl (by first | exact Or.inl rfl | exact Or.inr rfl))) (fun _ _ _ _ _ => pts_nil) (fun _ _ _ _ _ => (pe_op (opAddU (K := K)) (pe_glob rfl T.g_FORKS_AT T.r_FORKS_AT) (pe_op opMultU (pe_glob rfl T.g_FORK_OCTETS T.r_FORK_OCTETS) (pv 9)))))
      (pss_cons (ps_set (i := 7) sc_label_of.nd rfl (by first | exact Or.inl rfl | exact Or.inr rfl) (pe_callTy (callTupU (K := K)) (by rfl) T.n_tuple (by decide +kernel) (pa_cons (pe_lc (own := [("start", 10)]) (g := gName 10) (tt := tYes) rfl sc_label_of.nd (pi_listK (K := K) (pv 6)) (blkOk_by (N := N_label_of) (sc := defScope s_label_of) (by decide +kernel)) (fun _ _ _ _ _ => (pg_name (i := 10) sc_label_of.nd rfl (by first | exact Or.inl rfl | exact Or.inr rfl))) (fun _ _ _ _ _ => pts_nil) (fun _ _ _ _ _ => (pe_call G_number_of (hr.mono (by decide)) rfl T.g_number_of T.F_number_of.kp T.b_number_of .nil pass0 (pa_cons (pe_slice (slU (K := K)) (pv 3) (po_some (pv 10)) (po_some (pe_op (opAddU (K := K)) (pv 10) (pe_glob rfl T.g_FORK_OCTETS T.r_FORK_OCTETS)))) pa_nil)))) pa_nil)))
      (pss_cons (ps_set (i := 8) sc_label_of.nd rfl (by first | exact Or.inl rfl | exact Or.inr rfl) (pe_tup (pa_cons (pe_ix (ixU (K := K)) (pv 2) pe_int (fun _ _ => rfl)) (pa_cons (pv 4) (pa_cons (pv 5) (pa_cons (pv 7) pa_nil))))))
      (pss_cons (ps_if (pt_cmpR (opNeU (K := K) hr.units) (pe_call G_label_block (hr.mono (by decide)) rfl T.g_label_block T.F_label_block.kp T.b_label_block .nil pass0 (pa_cons (pv 0) (pa_cons (pv 1) (pa_cons (pv 8) pa_nil)))) (pv 2) (nomark _)) (pss_one (ps_ret pe_non)) pss_nil)
      (pss_one (ps_ret (pv 8)))))))))))), ?_⟩
    try dsimp only [cxOf]
    have r0 := Same.refl H
    rcases k with _ | k
    · obtain rfl := dp_non dv
      fail "go"
      exact hq _ _ r0 .non
    have hk := hk k rfl
    obtain ⟨t, u, rfl, ht, hu⟩ := dpBlk dv
    fail "go"
    refine g_iteN (fun e => ?_) (fun e3 => ?_)
    · fail "go"
      refine hq _ _ r0 ?_
      rw [labelOf, if_neg (fun z => e z.1)]
      exact .non
    fail "go"
    refine g_ite (fun e => ?_) (fun es => ?_)
    · fail "go"
      refine hq _ _ r0 ?_
      rw [labelOf, if_neg (fun z => z.2.1 e)]
      exact .non
    have o1 := hL.o1
    have hl := hk.len e3
    fail "go"
    refine g_slT3 (j := 6) hu (by decide) (by omega) rfl rfl ?_
    fail "newM"
    rename_i p1 H1 n1 g1 m1 h1 s1
    fail "go"
    refine ⟨_, _, _, _, rfl, SqT.of h1, ?_⟩
    fail "ret"
    rename_i p2 H2 h2 f2 g2 m2 s2
    fail "go"
    refine g_slT3 (j := 9) (sqT_mono s2 hu) (by decide) (by omega) rfl rfl ?_
    fail "newM"
    rename_i p3 H3 n3 g3 m3 h3 s3
    fail "go"
    refine ⟨_, _, _, _, rfl, SqT.of h3, ?_⟩
    fail "ret"
    rename_i p4 H4 h4 f4 g4 m4 s4
    have h2' : H4 p2 = some (.tup ((memOf k.body).map V.int)) := by fail "hp"
    have h4' : H4 p4 = some (.tup ((befOf k.body).map V.int)) := h4
    clear g1 g2 g3 g4 h1 h2 h3 h4 s1 s2 s3 n1 n3 f2 f4
    fail "go"
    refine g_ninF (.inr (SqT.of h2')) rfl (flat_ints _) ?_
    rw [inV_ints]
    fail "go"
    refine g_iteN (fun e => ?_) (fun em => ?_)
    · fail "go"
      refine hq _ _ s4 ?_
      rw [labelOf, if_neg (fun z => e z.2.2.1)]
      exact .non
    fail "go"
    refine g_ixT (sqT_mono s4 hu) (atI_getD (j := 12) (by omega)) ?_
    fail "go"
    refine g_ite (fun e => ?_) (fun e16 => ?_)
    · fail "go"
      refine hq _ _ s4 ?_
      rw [labelOf, if_neg (fun z => by have := z.2.2.2.1; omega)]
      exact .non
    fail "go"
    refine g_ixT (sqT_mono s4 hu) (atI_getD (j := 12) (by omega)) ?_
    have b12 := getD_oct (hk.oct e3) (show 12 < k.body.length by omega)
    have hfk : forksOf k.body = (List.range (k.body.getD 12 0).toNat).map (forkOf k.body) := rfl
    fail "go"
    have em16 : k.body.getD 12 0 ≤ 16 := by omega
    generalize hc : k.body.getD 12 0 = c at b12 hfk e16
    refine g_R1W (n := c.toNat) (by omega) (by omega) ?_
    intro D5 n5
    refine lc_range (lo := 0) (n := c.toNat) (fun j H' => Same H4 H' ∧ H' D5 = some (.lst ((startsI j).map V.int))) ⟨(Gr.newM (M := []) (Same.refl H4) n5).rh, by rw [upd_same]; rfl⟩ ?_ ?_
    · rintro j H5 hj ⟨s5, h5⟩
      rw [Int.zero_add]
      refine ⟨rfl, ?_⟩
      fail "go"
      refine ⟨_, h5, by rw [List.length_map, startsI_len]; fail "sz", fun b o q => by rw [upd_ne (ne_of_none q n5)]; exact s5 _ _ q, ?_⟩
      rw [upd_same, startsI_succ, List.map_append]; rfl
    rintro H5 ⟨s45, h5⟩
    have s5 := s4.trans s45
    fail "go"
    refine g_LsW (SqL.of h5) fun D6 n6 => ?_
    refine lc_list (K := K) (a := D5) (fun j H' => Same H5 H' ∧ H' D6 = some (.lst (((List.range j).map (forkOf k.body)).map V.int))) ⟨(Gr.newM (M := []) (Same.refl H5) n6).rh, upd_same⟩ (fun j H' _ ⟨s, _⟩ => SqL.of (s _ _ h5)) ?_ ?_
    · rintro j x H6 hj ⟨s6, h6⟩
      obtain ⟨st, hst, rfl⟩ := map_get hj
      obtain ⟨hjc, rfl⟩ := startsI_get hst
      have s06 := s5.trans s6
      refine ⟨rfl, ?_⟩
      fail "go"
      refine g_slT3 (j := 13 + 3 * j) (sqT_mono s06 hu) (by omega) (by omega) (by omega) (by omega) ?_
      fail "newM"
      rename_i p7 H7 n7 g7 m7 h7 s7
      fail "go"
      refine ⟨p7, [_, _, _], rfl, .inr (SqT.of h7), ?_⟩
      have h6' := g7.g.same _ _ h6
      refine ⟨_, h6', by rw [List.length_map, List.length_map, List.length_range]; fail "sz", fun b o q => by rw [upd_ne (ne_of_none q n6)]; exact g7.g.same _ _ (s6 _ _ q), ?_⟩
      have ef : forkOf k.body j = numOf [k.body.getD (13 + 3 * j) 0, k.body.getD (13 + 3 * j + 1) 0, k.body.getD (13 + 3 * j + 2) 0] := by
        unfold forkOf
        rw [show 14 + 3 * j = 13 + 3 * j + 1 by omega, show 15 + 3 * j = 13 + 3 * j + 2 by omega]
      rw [upd_same, List.range_succ, List.map_append, List.map_append, List.map_singleton, List.map_singleton, ef]
    rintro H6 ⟨s56, h6⟩
    rw [List.length_map, startsI_len, ← hfk] at h6
    have s46 := s45.trans s56
    have s6 := s5.trans s56
    have fl : (forksOf k.body).length ≤ 16 := by rw [hfk, List.length_map, List.length_range]; omega
    fail "go"
    refine g_tupL (SqL.of h6) ?_
    fail "newM"
    rename_i p7 H7 n7 g7 m7 h7 s7
    fail "go"
    refine ⟨by fail "sz", ?_⟩
    fail "newM"
    rename_i p8 H8 n8 g8 m8 h8 s8
    have s48 : Same H4 H8 := s46.trans (g7.g.same.trans g8.g.same)
    have ml : Dp K H8 (.ref p8) (readLb k).d := mkLb (SqT.of h8) (SqT.of (s48 _ _ h2')) (SqT.of (s48 _ _ h4')) (SqT.of (g8.g.same _ _ h7))
    fail "go"
    refine ⟨a, _, L, n, readLb k, rfl, ha.mono s8, hL, ml, by show (forksOf k.body).length ≤ 300; omega, fun w H9 s9 dw _ => ?_⟩
    have dw' := dw
    obtain ⟨t9, u9, rfl, _, _⟩ := dpBlk dw'
    have dv9 : Dp K H9 (.ref t) k.d := dp_mono (s8.trans s9) dv
    fail "go"
    refine g_neDa dw dv9 (la_shaped (la_blk _)) (la_shaped (la_blk k)) (.inl ⟨_, rfl⟩) ?_
    rw [eqv_blk]
    fail "go"
    refine g_iteN (fun e => ?_) (fun e => ?_)
    · fail "go"
      refine hq _ _ (s8.trans s9) ?_
      rw [labelOf, if_neg (fun z => e z.2.2.2.2)]
      exact .non
    · fail "go"
      refine hq _ _ (s8.trans s9) ?_
      rw [labelOf, if_pos ⟨e3, es, em, em16, e⟩]
      exact dp_mono s9 ml
end
def spDevRead (K : PySem.W.Frag) (C : Addr) : Sp := fun vs H Q _ => ∃ (d a l1 l2 l3 : Addr) (us : List V) (v : V) (n : Nat), vs = [.ref d, .int (n : Int)] ∧ DevG C H d a l1 l2 l3 ∧ SqL K H l2 us ∧ us[n]? = some v ∧ Q v H
section
variable {P : Program} {w : World} {K : PySem.W.Frag} {mg : Str → Option Value} {base : Heap}
theorem ok_Device_read (T : Txt P K mg) : FnOk P w K mg base CX0 1 T.f_Device_read T.fd_Device_read ["self", "address"] (spDevRead K T.C_Device) := by
  have cl_Device := T.cl_Device
  have a_Device_seen := T.a_Device_seen
  refine T.F_Device_read.ok sc_Device_read (fun vs H Q E h => ?_) (fun cdv A outer s H vs Q E hr h => ?_)
  · obtain ⟨d, a, l1, l2, l3, us, v, n, rfl, ⟨dx, ff, bb, hd⟩, hl, hv, hq⟩ := h
    rfl
  · obtain ⟨d, a, l1, l2, l3, us, v, n, rfl, ⟨dx, ff, bb, hd⟩, hl, hv, hq⟩ := h
    refine ⟨_, (pss_cons (ps_if (PW.pt (pw_or (pt_cmpR op_lt (pv 1) pe_int (nomark _)) (pw_or1 (pt_cmpR op_ge (pv 1) (pe_callB (callLenU (K := K)) (by rfl) T.n_len (by decide +kernel) (pa_cons (pe_fldK (K := K) (pv 0) rfl) pa_nil)) (nomark _))))) (pss_one (ps_ret pe_non)) pss_nil)
      (pss_one (ps_ret (pe_ix (ixU (K := K)) (pe_fldK (K := K) (pv 0) rfl) (pv 1) (fun _ _ => rfl))))), ?_⟩
    try dsimp only [cxOf]
    have r0 := Same.refl H
    have hn : n < us.length := (List.getElem?_eq_some_iff.mp hv).1
    fail "go"
    refine g_iteF (decide_eq_false (by omega)) ?_
    fail "go"
    refine g_ixL hl (atI_nat hv) ?_
    fail "go"
    exact hq
end
def spPairs (K : PySem.W.Frag) : Sp := fun vs H Q _ => ∃ (a : Addr) (ns : List Int), vs = [.ref a] ∧ SqT K H a (ns.map V.int) ∧ ns.length ≤ 300 ∧ ∀ p H', Same H H' → H p = none → H' p = some (.lst ((pairs ns).map V.int)) → Q (.ref p) H'
def PairInv (R : Hp) (a : Addr) (ns : List Int) (p : Addr) (i : Nat) (σ : St) (H : Hp) : Prop := ∃ x : Option V, σ = [some (.ref a), some (.ref p), x] ∧ Same R H ∧ H p = some (.lst ((pairs (ns.take i)).map V.int))
section
variable {P : Program} {w : World} {K : PySem.W.Frag} {mg : Str → Option Value} {base : Heap}
theorem ok_pairs_of (T : Txt P K mg) : FnOk P w K mg base CX0 1 T.f_pairs_of T.fd_pairs_of ["numbers"] (spPairs K) := by
  refine T.F_pairs_of.ok sc_pairs_of (fun vs H Q E h => ?_) (fun cdv A outer s H vs Q E hr h => ?_)
  · obtain ⟨a, ns, rfl, ha, hk, hq⟩ := h
    rfl
  · obtain ⟨a, ns, rfl, ha, hk, hq⟩ := h
    refine ⟨_, (pss_cons (ps_set (i := 1) sc_pairs_of.nd rfl (by first | exact Or.inl rfl | exact Or.inr rfl) (pe_lst pa_nil))
      (pss_cons (ps_for PassesOwn.never rfl (pi_tupK (K := K) (pv 0)) (pg_name (i := 2) sc_pairs_of.nd rfl (by first | exact Or.inl rfl | exact Or.inr rfl)) (pss_cons (ps_expr (pe_bm PySem.F.plainAttrs_list PySem.F.slot_list_append PySem.F.type_list_append mt_append (pv 1) (pa_cons (pe_op opModU (pv 2) pe_int) pa_nil)))
      (pss_one (ps_expr (pe_bm PySem.F.plainAttrs_list PySem.F.slot_list_append PySem.F.type_list_append mt_append (pv 1) (pa_cons (pe_op opFloorDivU (pv 2) pe_int) pa_nil))))))
      (pss_one (ps_ret (pv 1))))), ?_⟩
    try dsimp only [cxOf]
    have r0 := Same.refl H
    fail "go"
    refine ⟨by fail "sz", ?_⟩
    fail "newM"
    rename_i p H1 n1 g1 m1 h1 s1
    fail "go"
    refine g_TsW (by fail "sq") ?_
    refine for_tup (K := K) (xs := ns.map V.int) (PairInv H a ns p) ⟨none, rfl, s1, h1⟩ (fun i σ H2 _ ⟨_, _, s2, _⟩ => sqT_mono s2 ha) ?_ ?_
    · rintro i x σ H2 hi ⟨x0, rfl, s2, h2⟩
      obtain ⟨n, hn, rfl⟩ := map_get hi
      have hil : i < ns.length := (List.getElem?_eq_some_iff.mp hn).1
      have htl : (ns.take i).length = i := by rw [List.length_take]; omega
      fail "go"
      rename_i H3 g3 h3 s3
      refine ⟨_, rfl, s3, ?_⟩
      rw [take_snoc hn, pairs_snoc, List.map_append]
      rw [h3, List.append_assoc]; rfl
    · rintro σ H2 ⟨x0, rfl, s2, h2⟩
      rw [List.length_map, List.take_length] at h2
      fail "go"
      exact hq _ _ s2 m1 h2
end
def spSummary (K : PySem.W.Frag) (C : Addr) : Sp := fun vs H Q _ => ∃ (a t : Addr) (L : Lay) (ns : List Int) (mk act : Int), vs = [.ref a, .int mk, .ref t, .int act] ∧ LayAt C H a L ∧ L.Ok ∧ SqT K H t (ns.map V.int) ∧ (ns.length : Int) ≤ L.payload ∧
  ∀ p H' l, Same H H' → H p = none → H' p = some (.lst ((l : List Int).map V.int)) → l.getD 0 0 = 83 → l.getD 3 0 = 83 → l.length ≤ 400 → Q (.ref p) H'
section
variable {P : Program} {w : World} {K : PySem.W.Frag} {mg : Str → Option Value} {base : Heap}
theorem ok_summary_octets (T : Txt P K mg) : FnOk P w K mg base CX0 2 T.f_summary_octets T.fd_summary_octets ["layout", "mark", "numbers", "action"] (spSummary K T.C_Layout) := by
  have cl_Layout := T.cl_Layout
  have a_Layout_payload := T.a_Layout_payload
  have G_number_octets := ok_number_octets (P := P) (w := w) (base := base) T
  have G_pairs_of := ok_pairs_of (P := P) (w := w) (base := base) T
  refine T.F_summary_octets.ok sc_summary_octets (fun vs H Q E h => ?_) (fun cdv A outer s H vs Q E hr h => ?_)
  · obtain ⟨a, t, L, ns, mk, act, rfl, ⟨dx, ha⟩, hL, ht, hn, hq⟩ := h
    rfl
  · obtain ⟨a, t, L, ns, mk, act, rfl, ⟨dx, ha⟩, hL, ht, hn, hq⟩ := h
    refine ⟨_, (pss_cons (ps_set (i := 4) sc_summary_octets.nd rfl (by first | exact Or.inl rfl | exact Or.inr rfl) (pe_op (opAddU (K := K)) (pe_op (opAddU (K := K)) (pe_op (opAddU (K := K)) (pe_callTy (callListU (K := K)) (by rfl) T.n_list (by decide +kernel) (pa_cons (pe_glob rfl T.g_LETTERS_bodies T.r_LETTERS_bodies) pa_nil)) (pe_lst (pa_cons (pv 1) pa_nil))) (pe_call G_number_octets (hr.mono (by decide)) rfl T.g_number_octets T.F_number_octets.kp T.b_number_octets .nil pass0 (pa_cons (pe_callB (callLenU (K := K)) (by rfl) T.n_len (by decide +kernel) (pa_cons (pv 2) pa_nil)) (pa_cons pe_int pa_nil)))) (pe_lst (pa_cons (pv 3) pa_nil))))
      (pss_cons (ps_set (i := 4) sc_summary_octets.nd rfl (by first | exact Or.inl rfl | exact Or.inr rfl) (pe_op (opAddU (K := K)) (pv 4) (pe_op opMultU (pe_lst (pa_cons pe_int pa_nil)) (pe_op opSubU (pe_glob rfl T.g_HEADER T.r_HEADER) (pe_callB (callLenU (K := K)) (by rfl) T.n_len (by decide +kernel) (pa_cons (pv 4) pa_nil))))))
      (pss_one (ps_ret (pe_op (opAddU (K := K)) (pe_op (opAddU (K := K)) (pv 4) (pe_call G_pairs_of (hr.mono (by decide)) rfl T.g_pairs_of T.F_pairs_of.kp T.b_pairs_of .nil pass0 (pa_cons (pv 2) pa_nil))) (pe_op opMultU (pe_lst (pa_cons pe_int pa_nil)) (pe_op opMultU pe_int (pe_op opSubU (pe_fldK (K := K) (pv 0) rfl) (pe_callB (callLenU (K := K)) (by rfl) T.n_len (by decide +kernel) (pa_cons (pv 2) pa_nil)))))))))), ?_⟩
    try dsimp only [cxOf]
    have r0 := Same.refl H
    have b2 := hL.b2
    have pl : L.payload = L.blk - 1 := rfl
    fail "go"
    refine g_listT (T.q_LETTERS_bodies _) ?_
    fail "newM"
    rename_i p1 H1 n1 g1 m1 h1 s1
    fail "go"
    refine ⟨by fail "sz", ?_⟩
    fail "newM"
    rename_i p2 H2 n2 g2 m2 h2 s2
    refine g_catI (l := [83, 71, 70, 83]) (m := [mk]) (g2.g.same _ _ h1) h2 (by simp) ?_
    fail "newM"
    rename_i p3 H3 n3 g3 m3 h3 s3
    clear h1 h2 g1 g2 g3
    have ht3 := sqT_mono s3 ht
    fail "go"
    fail "ret"
    rename_i p4 H4 h4 f4 g4 m4 s4
    refine g_catI (g4.g.same _ _ h3) h4 (by simp) ?_
    fail "newM"
    rename_i p5 H5 n5 g5 m5 h5 s5
    fail "go"
    refine ⟨by fail "sz", ?_⟩
    fail "newM"
    rename_i p6 H6 n6 g6 m6 h6 s6
    refine g_catI (m := [act]) (g6.g.same _ _ h5) h6 (by simp) ?_
    fail "newM"
    rename_i p7 H7 n7 g7 m7 h7 s7
    clear h3 h4 h5 h6 g4 g5 g6 s3 s4 s5 s6 g7
    fail "go"
    refine ⟨by fail "sz", ?_⟩
    fail "newM"
    rename_i p8 H8 n8 g8 m8 h8 s8
    have h78 := g8.g.same _ _ h7
    fail "go"
    rw [List.length_map]
    refine g_repZ h8 (by simp) (by simp) ?_
    fail "newM"
    rename_i p9 H9 n9 g9 m9 h9 s9
    refine g_catI (g9.g.same _ _ h78) h9 (by simp) ?_
    fail "newM"
    rename_i pA HA nA gA mA hA sA
    clear h7 h78 h8 h9 g8 g9 gA s8 s9 s7
    have htA := sqT_mono sA ht
    have haA := sA _ _ ha
    fail "go"
    refine ⟨t, ns, rfl, htA, by omega, ?_⟩
    fail "ret"
    rename_i pB HB hB fB gB mB sB
    generalize hZ : (List.replicate _ (0 : Int)) = Z at hA
    have zl : Z.length ≤ 16 := by rw [← hZ]; simp
    refine g_catI (gB.g.same _ _ hA) hB (by simp; omega) ?_
    fail "newM"
    rename_i pC HC nC gC mC hC sC
    have htC := sqT_mono sC ht
    have haC := sC _ _ ha
    clear hA hB gB sB htA haA sA gC
    fail "go"
    refine ⟨by fail "sz", ?_⟩
    fail "newM"
    rename_i pD HD nD gD mD hD sD
    have hCD := gD.g.same _ _ hC
    have htD := sqT_mono sD ht
    have haD := sD _ _ ha
    fail "go"
    rw [List.length_map]
    refine g_repZ hD (by omega) (by omega) ?_
    fail "newM"
    rename_i pE HE nE gE mE hE sE
    refine g_catI (gE.g.same _ _ hCD) hE (by simp; omega) ?_
    fail "newM"
    rename_i pF HF nF gF mF hF sF
    exact hq _ _ _ sF mF hF (by simp) (by simp) (by simp; omega)
end
def spBitsOf (K : PySem.W.Frag) : Sp := fun vs H Q _ => ∃ (u : Addr) (us : List Int) (n : Int), vs = [.ref u, .int n] ∧ SqT K H u (us.map V.int) ∧ 0 ≤ n ∧ n ≤ 1000 ∧ (∀ x ∈ us, 1 ≤ x ∧ x ≤ n) ∧ ∀ p H' l, Same H H' → H p = none → H' p = some (.lst ((l : List Int).map V.int)) → l.length ≤ 200 → Q (.ref p) H'
def BitsInv (H : Hp) (u p : Addr) (n : Int) (z : Nat) (σ : St) (H' : Hp) : Prop := ∃ (x : Option V) (l : List Int), σ = [some (.ref u), some (.int n), some (.ref p), x] ∧ Same H H' ∧ H' p = some (.lst (l.map V.int)) ∧ l.length = z
def bitW (j : Int) : Int := [1, 2, 4, 8, 16, 32, 64, 128].getD j.toNat 0
theorem bit_at {j : Int} (h0 : 0 ≤ j) (h1 : j < 8) : atI ([.int 1, .int 2, .int 4, .int 8, .int 16, .int 32, .int 64, .int 128] : List V) j = some (.int (bitW j)) ∧ 0 < bitW j ∧ bitW j ≤ 128 := by
  have : j = 0 ∨ j = 1 ∨ j = 2 ∨ j = 3 ∨ j = 4 ∨ j = 5 ∨ j = 6 ∨ j = 7 := by omega
  rcases this with rfl | rfl | rfl | rfl | rfl | rfl | rfl | rfl <;> exact ⟨rfl, by decide, by decide⟩
section
variable {P : Program} {w : World} {K : PySem.W.Frag} {mg : Str → Option Value} {base : Heap}
theorem ok_bits_of (T : Txt P K mg) : FnOk P w K mg base CX0 2 T.f_bits_of T.fd_bits_of ["used", "last_id"] (spBitsOf K) := by
  have G_parts_of := ok_parts_of (P := P) (w := w) (base := base) T
  refine T.F_bits_of.ok sc_bits_of (fun vs H Q E h => ?_) (fun cdv A outer s H vs Q E hr h => ?_)
  · obtain ⟨u, us, n, rfl, hu, n0, n1, hx, hq⟩ := h
    rfl
  · obtain ⟨u, us, n, rfl, hu, n0, n1, hx, hq⟩ := h
    refine ⟨_, (pss_cons (ps_set (i := 2) sc_bits_of.nd rfl (by first | exact Or.inl rfl | exact Or.inr rfl) (pe_op opMultU (pe_lst (pa_cons pe_int pa_nil)) (pe_call G_parts_of (hr.mono (by decide)) rfl T.g_parts_of T.F_parts_of.kp T.b_parts_of .nil pass0 (pa_cons (pv 1) (pa_cons pe_int pa_nil)))))
      (pss_cons (ps_for PassesOwn.never rfl (pi_tupK (K := K) (pv 0)) (pg_name (i := 3) sc_bits_of.nd rfl (by first | exact Or.inl rfl | exact Or.inr rfl)) (pss_one (ps_augS (pv 2) (pe_op opFloorDivU (pe_op opSubU (pv 3) pe_int) pe_int) (pgetLK (K := K)) (pe_ix (ixU (K := K)) (pe_glob rfl T.g_BITS T.r_BITS) (pe_op opModU (pe_op opSubU (pv 3) pe_int) pe_int) (fun _ _ => rfl)) ip_add set_list)))
      (pss_one (ps_ret (pv 2))))), ?_⟩
    try dsimp only [cxOf]
    have r0 := Same.refl H
    fail "go"
    refine ⟨by fail "sz", ?_⟩
    fail "newM"
    rename_i p1 H1 n1' g1 m1 h1 s1
    fail "go"
    have pn : partsOf n 8 = (n + 7) / 8 := by unfold partsOf; congr 1; omega
    refine g_repZ h1 (by omega) (by omega) ?_
    fail "newM"
    rename_i p H2 n2 g2 m2 h2 s2
    fail "go"
    refine g_TsW (sqT_mono s2 hu) ?_
    refine for_tup (K := K) (xs := us.map V.int) (fun _ => BitsInv H u p n (partsOf n 8).toNat) ⟨none, _, rfl, s2, h2, by simp⟩ (fun i σ HX _ ⟨_, _, _, sX, _⟩ => sqT_mono sX hu) ?_ ?_
    · clear h1 h2 s1 s2 g1 g2 r0
      rintro i x σ H3 hi ⟨x0, l, rfl, s3, h3, hl⟩
      obtain ⟨o, ho, rfl⟩ := map_get hi
      obtain ⟨o1, o2⟩ := hx o (List.mem_of_getElem? ho)
      obtain ⟨j, hj⟩ := Int.eq_ofNat_of_zero_le (show 0 ≤ (o - 1) / 8 by omega)
      have jl : j < l.length := by omega
      obtain ⟨b1, b2, b3⟩ := bit_at (j := (o - 1) % 8) (by omega) (by omega)
      fail "go"
      refine g_getL (j := j) (SqL.of h3) hj (by rw [List.getElem?_map, List.getElem?_eq_getElem jl]; rfl) ?_
      fail "go"
      refine g_ixT (T.q_BITS _) b1 ?_
      fail "go"
      rw [hj]
      refine g_setL (j := j) h3 (ixN_nat (by rw [List.length_map]; exact jl)) ?_
      fail "mut"
      rename_i H4 g4 h4 s4
      refine ⟨_, l.set j (l[j] + bitW ((o - 1) % 8)), rfl, s4, ?_, by rw [List.length_set]; exact hl⟩
      rw [h4, List.map_set]
    · rintro σ H3 ⟨x0, l, rfl, s3, h3, hl⟩
      fail "go"
      exact hq _ _ l s3 m2 h3 (by omega)
end
/-- the body of a COMMIT or a MOVE -/
def SumB (K : PySem.W.Frag) (H : Hp) (L : Lay) (k : Int) (v : V) : Prop := ∃ (p : Addr) (ns : List Int), SqT K H p (ns.map V.int) ∧ (ns.length : Int) ≤ L.payload ∧
  ((k = 2 ∧ v = .ref p) ∨ (k = 1 ∧ ∃ (q u : Addr) (us : List Int) (act : Int), v = .ref q ∧ SqT K H q [.ref p, .ref u, .int act] ∧ SqT K H u (us.map V.int) ∧ (∀ x ∈ us, 1 ≤ x ∧ x ≤ L.lastId)))
theorem SumB.mono {K : PySem.W.Frag} {H H' : Hp} {L : Lay} {k : Int} {v : V} (s : Same H H') (h : SumB K H L k v) : SumB K H' L k v := by
  obtain ⟨p, ns, hp, hl, h⟩ := h
  refine ⟨p, ns, sqT_mono s hp, hl, ?_⟩
  rcases h with h | ⟨h, q, u, us, act, e, hq, hu, hx⟩
  · exact .inl h
  · exact .inr ⟨h, q, u, us, act, e, sqT_mono s hq, sqT_mono s hu, hx⟩
theorem last_big {L : Lay} (h : L.Ok) : 0 ≤ L.lastId ∧ L.lastId ≤ 1000 := by
  have := h.fits; have := h.o1; have := h.s1; have := h.s2; have := h.b1; have := h.b2
  unfold partsOf at *
  have e : L.payload = L.blk - 1 := rfl
  have e2 : L.lastId = (L.seg - 2) * L.payload + L.payload := rfl
  have h1 : 0 ≤ (L.seg - 2) * L.payload := Int.mul_nonneg (by omega) (by omega)
  have h2 : (L.seg - 2) * L.payload ≤ 14 * L.payload := Int.mul_le_mul_of_nonneg_right (by omega) (by omega)
  omega
def spBody (K : PySem.W.Frag) (C : Addr) : Sp := fun vs H Q _ => ∃ (a t : Addr) (L : Lay) (k : Int), vs = [.ref a, .int k, .ref t] ∧ LayAt C H a L ∧ L.Ok ∧ ((∃ ns : List Int, 3 ≤ k ∧ SqT K H t (ns.map V.int) ∧ ns.length ≤ 300 ∧
  ∀ p H', Same H H' → H p = none → H' p = some (.lst ((bodyOf L k ns).map V.int)) → Q (.ref p) H') ∨ (SumB K H L k (.ref t) ∧ ∀ p H' l, Same H H' → H p = none → H' p = some (.lst ((l : List Int).map V.int)) → l.getD 0 0 = 83 → l.getD 3 0 = 83 → l.length ≤ 2000 → Q (.ref p) H'))
def BodyMid (R : Hp) (a t : Addr) (k : Int) (ns : List Int) (σ : St) (H : Hp) : Prop := ∃ p, σ = [some (.ref a), some (.int k), some (.ref t), some (.ref p)] ∧ Same R H ∧ R p = none ∧ H p = some (.lst ((found k ns).map V.int))
def BodySum (R : Hp) (a t : Addr) (k : Int) (σ : St) (H : Hp) : Prop := ∃ p l, σ = [some (.ref a), some (.int k), some (.ref t), some (.ref p)] ∧ Same R H ∧ R p = none ∧ H p = some (.lst ((l : List Int).map V.int)) ∧ l.getD 0 0 = 83 ∧ l.getD 3 0 = 83 ∧ l.length ≤ 1000 ∧ 4 ≤ l.length
theorem getD_app {l m : List Int} {i : Nat} (h : i < l.length) : (l ++ m).getD i 0 = l.getD i 0 := by
  rw [List.getD_eq_getElem?_getD, List.getD_eq_getElem?_getD, List.getElem?_append_left h]
theorem len4_of {l : List Int} (h : l.getD 3 0 = 83) : 4 ≤ l.length := by
  apply Classical.byContradiction
  intro z
  rw [List.getD_eq_getElem?_getD, List.getElem?_eq_none (by omega)] at h
  simp at h
local macro_rules | `(tactic| fail "calls") => `(tactic| ((with_reducible show spPairs _ _ _ _ _); refine ⟨_, _, rfl, by fail "sq", by fail "ar", ?_⟩))
section
variable {P : Program} {w : World} {K : PySem.W.Frag} {mg : Str → Option Value} {base : Heap}
theorem ok_body_octets (T : Txt P K mg) : FnOk P w K mg base CX0 3 T.f_body_octets T.fd_body_octets ["layout", "kind", "body"] (spBody K T.C_Layout) := by
  have cl_Layout := T.cl_Layout
  have a_Layout_last_id := T.a_Layout_last_id
  have a_Layout_block_size := T.a_Layout_block_size
  have G_summary_octets := ok_summary_octets (P := P) (w := w) (base := base) T
  have G_bits_of := ok_bits_of (P := P) (w := w) (base := base) T
  have G_pairs_of := ok_pairs_of (P := P) (w := w) (base := base) T
  refine T.F_body_octets.ok sc_body_octets (fun vs H Q E h => ?_) (fun cdv A outer s H vs Q E hr h => ?_)
  · obtain ⟨a, t, L, k, rfl, ⟨dx, ha⟩, hL, hcase⟩ := h
    rfl
  · obtain ⟨a, t, L, k, rfl, ⟨dx, ha⟩, hL, hcase⟩ := h
    refine ⟨_, (pss_cons (ps_if (pt_cmpR (opEqU (K := K) hr.units) (pv 1) (pe_glob rfl T.g_COMMIT T.r_COMMIT) (nomark _)) (pss_one (ps_set (i := 3) sc_body_octets.nd rfl (by first | exact Or.inl rfl | exact Or.inr rfl) (pe_op (opAddU (K := K)) (pe_call G_summary_octets (hr.mono (by decide)) rfl T.g_summary_octets T.F_summary_octets.kp T.b_summary_octets .nil pass0 (pa_cons (pv 0) (pa_cons pe_int (pa_cons (pe_ix (ixU (K := K)) (pv 2) pe_int (fun _ _ => rfl)) (pa_cons (pe_ix (ixU (K := K)) (pv 2) pe_int (fun _ _ => rfl)) pa_nil))))) (pe_call G_bits_of (hr.mono (by decide)) rfl T.g_bits_of T.F_bits_of.kp T.b_bits_of .nil pass0 (pa_cons (pe_ix (ixU (K := K)) (pv 2) pe_int (fun _ _ => rfl)) (pa_cons (pe_fldK (K := K) (pv 0) rfl) pa_nil)))))) (pss_one (ps_if (pt_cmpR (opEqU (K := K) hr.units) (pv 1) (pe_glob rfl T.g_MOVE T.r_MOVE) (nomark _)) (pss_one (ps_set (i := 3) sc_body_octets.nd rfl (by first | exact Or.inl rfl | exact Or.inr rfl) (pe_call G_summary_octets (hr.mono (by decide)) rfl T.g_summary_octets T.F_summary_octets.kp T.b_summary_octets .nil pass0 (pa_cons (pv 0) (pa_cons pe_int (pa_cons (pv 2) (pa_cons pe_int pa_nil))))))) (pss_one (ps_if (pt_cmpR (opEqU (K := K) hr.units) (pv 1) (pe_glob rfl T.g_DATA T.r_DATA) (nomark _)) (pss_one (ps_set (i := 3) sc_body_octets.nd rfl (by first | exact Or.inl rfl | exact Or.inr rfl) (pe_callTy (callListU (K := K)) (by rfl) T.n_list (by decide +kernel) (pa_cons (pv 2) pa_nil)))) (pss_one (ps_set (i := 3) sc_body_octets.nd rfl (by first | exact Or.inl rfl | exact Or.inr rfl) (pe_call G_pairs_of (hr.mono (by decide)) rfl T.g_pairs_of T.F_pairs_of.kp T.b_pairs_of .nil pass0 (pa_cons (pv 2) pa_nil)))))))))
      (pss_one (ps_ret (pe_op (opAddU (K := K)) (pv 3) (pe_op opMultU (pe_lst (pa_cons pe_int pa_nil)) (pe_op opSubU (pe_fldK (K := K) (pv 0) rfl) (pe_callB (callLenU (K := K)) (by rfl) T.n_len (by decide +kernel) (pa_cons (pv 3) pa_nil)))))))), ?_⟩
    try dsimp only [cxOf]
    have r0 := Same.refl H
    rcases hcase with ⟨ns, hk, ht, hl, hq⟩ | ⟨hsum, hq⟩
    · refine g_seqIN (BodyMid H a t k ns) ?_ (fun N rest => ?_)
      · rintro σ H1 ⟨p, rfl, s1, m1, h1⟩
        fail "go"
        refine ⟨by fail "sz", ?_⟩
        fail "newM"
        rename_i z H2 n2 g2 m2 h2 s2
        fail "go"
        have f1 := found_len (k := k) (l := ns)
        have o1 := hL.o1
        rw [List.length_map]
        refine g_repZ (by fail "hp") (by omega) (by omega) ?_
        fail "newM"
        rename_i y H3 n3 g3 m3 h3 s3
        fail "go"
        refine g_catI (l := found k ns) (by fail "hp") h3 (by rw [List.length_replicate]; omega) ?_
        fail "newM"
        rename_i w H4 n4 g4 m4 h4 s4
        exact hq _ _ s4 m4 h4
      · fail "go"
        refine g_iteF (decide_eq_false (by omega)) ?_
        fail "go"
        refine g_iteF (decide_eq_false (by omega)) ?_
        fail "go"
        refine g_ite (fun e => ?_) (fun e => ?_)
        · fail "go"
          refine g_listT (by fail "sq") ?_
          fail "newM"
          rename_i p H1 n1 g1 m1 h1 s1
          fail "go"
          refine rest _ _ ⟨p, rfl, s1, m1, ?_⟩
          rw [found, if_pos e]; exact h1
        · fail "go"
          intro p H1 s1 n1 h1
          fail "go"
          refine rest _ _ ⟨p, rfl, s1, n1, ?_⟩
          rw [found, if_neg e]; exact h1
    · refine g_seqIN (BodySum H a t k) ?_ (fun N rest => ?_)
      · rintro σ H1 ⟨p, l, rfl, s1, m1, h1, l0, l3, ll, l4⟩
        have o1 := hL.o1
        fail "go"
        refine ⟨by fail "sz", ?_⟩
        fail "newM"
        rename_i z H2 n2 g2 m2 h2 s2
        have h12 := g2.g.same _ _ h1
        have ha2 := s2 _ _ ha
        fail "go"
        rw [List.length_map]
        refine g_repZ h2 (by omega) (by omega) ?_
        fail "newM"
        rename_i y H3 n3 g3 m3 h3 s3
        refine g_catI (l := l) (g3.g.same _ _ h12) h3 (by rw [List.length_replicate]; omega) ?_
        fail "newM"
        rename_i w H4 n4 g4 m4 h4 s4
        exact hq _ _ _ s4 m4 h4 ((getD_app (by omega)).trans l0) ((getD_app (by omega)).trans l3) (by rw [List.length_append, List.length_replicate]; omega)
      · obtain ⟨p, ns, hp, hn, ⟨rfl, ev⟩ | ⟨rfl, q, u, us, act, ev, hqt, hu, hx⟩⟩ := hsum
        · cases ev
          fail "go"
          refine ⟨a, t, L, ns, 2, 0, rfl, ⟨dx, ha⟩, hL, hp, hn, fun p1 H1 l s1 n1 h1 l0 l3 ll => ?_⟩
          fail "go"
          exact rest _ _ ⟨p1, l, rfl, s1, n1, h1, l0, l3, by omega, len4_of l3⟩
        · cases ev
          obtain ⟨lb0, lb1⟩ := last_big hL
          fail "go"
          refine ⟨a, p, L, ns, 1, act, rfl, ⟨dx, ha⟩, hL, hp, hn, fun p1 H1 l s1 n1 h1 l0 l3 ll => ?_⟩
          have hq1 := sqT_mono s1 hqt
          have hu1 := sqT_mono s1 hu
          have ha1 := s1 _ _ ha
          fail "go"
          refine ⟨u, us, L.lastId, rfl, hu1, lb0, lb1, hx, fun p2 H2 l2 s2 n2 h2 ll2 => ?_⟩
          refine g_catI (s2 _ _ h1) h2 (by omega) ?_
          intro p3 n3
          have gg := Gr.newM (M := []) (o := .lst ((l ++ l2).map V.int)) (Same.refl H2) n3
          have s3 := s1.trans (s2.trans gg.same)
          fail "go"
          exact rest _ _ ⟨p3, l ++ l2, rfl, s3, (s1.trans s2).free n3, upd_same, (getD_app (by have := len4_of l3; omega)).trans l0, (getD_app (by have := len4_of l3; omega)).trans l3, by rw [List.length_append]; omega, by rw [List.length_append]; have := len4_of l3; omega⟩
end
local macro_rules | `(tactic| fail "calls") => `(tactic| ((with_reducible show spOctets _ _ _ _); first | refine ⟨_, 6, rfl, by omega, ?_⟩ | refine ⟨_, 2, rfl, by omega, ?_⟩ | refine ⟨_, 3, rfl, by omega, ?_⟩))
def spBlock (K : PySem.W.Frag) (C : Addr) : Sp := fun vs H Q _ => ∃ (a : Addr) (v : V) (L : Lay), vs = [.ref a, v] ∧ LayAt C H a L ∧ L.Ok ∧ ((∃ b : Option Blk, Dp K H v (optD b) ∧ BlkOk b ∧
  ∀ p H', Same H H' → H p = none → H' p = some (.lst ((octs L b).map V.int)) → Q (.ref p) H') ∨
  (∃ (t q : Addr) (k s z : Int), v = .ref t ∧ SqT K H t [.int k, .int s, .int z, .ref q] ∧ SumB K H L k (.ref q) ∧
  ∀ p H' l, Same H H' → H p = none → H' p = some (.lst ((l : List Int).map V.int)) → l.getD 16 0 = 83 → l.getD 19 0 = 83 → l.length ≤ 3000 → Q (.ref p) H'))
theorem getD_appR {l m : List Int} {n : Nat} (h : l.length = n) (i : Nat) : (l ++ m).getD (n + i) 0 = m.getD i 0 := by
  rw [List.getD_eq_getElem?_getD, List.getD_eq_getElem?_getD, List.getElem?_append_right (by omega), h, Nat.add_sub_cancel_left]
section
variable {P : Program} {w : World} {K : PySem.W.Frag} {mg : Str → Option Value} {base : Heap}
theorem ok_block_octets (T : Txt P K mg) : FnOk P w K mg base CX0 4 T.f_block_octets T.fd_block_octets ["layout", "block"] (spBlock K T.C_Layout) := by
  have cl_Layout := T.cl_Layout
  have a_Layout_block_size := T.a_Layout_block_size
  have G_number_octets := ok_number_octets (P := P) (w := w) (base := base) T
  have G_body_octets := ok_body_octets (P := P) (w := w) (base := base) T
  refine T.F_block_octets.ok sc_block_octets (fun vs H Q E h => ?_) (fun cdv A outer s H vs Q E hr h => ?_)
  · obtain ⟨a, v, L, rfl, ⟨dx, ha⟩, hL, hcase⟩ := h
    rfl
  · obtain ⟨a, v, L, rfl, ⟨dx, ha⟩, hL, hcase⟩ := h
    refine ⟨_, (pss_cons (ps_if (pt_cmpR opIsU (pv 1) pe_non (nomark _)) (pss_one (ps_ret (pe_op opMultU (pe_lst (pa_cons pe_int pa_nil)) (pe_op (opAddU (K := K)) (pe_glob rfl T.g_SPARE T.r_SPARE) (pe_fldK (K := K) (pv 0) rfl))))) pss_nil)
      (pss_cons (ps_asg (pv 1) (pg_tupK (K := K) rfl (pgs_cons (pg_name (i := 2) sc_block_octets.nd rfl (by first | exact Or.inl rfl | exact Or.inr rfl)) (pgs_cons (pg_name (i := 3) sc_block_octets.nd rfl (by first | exact Or.inl rfl | exact Or.inr rfl)) (pgs_cons (pg_name (i := 4) sc_block_octets.nd rfl (by first | exact Or.inl rfl | exact Or.inr rfl)) (pgs_cons (pg_name (i := 5) sc_block_octets.nd rfl (by first | exact Or.inl rfl | exact Or.inr rfl)) pgs_nil))))))
      (pss_cons (ps_set (i := 6) sc_block_octets.nd rfl (by first | exact Or.inl rfl | exact Or.inr rfl) (pe_op (opAddU (K := K)) (pe_op (opAddU (K := K)) (pe_lst (pa_cons (pv 2) pa_nil)) (pe_call G_number_octets (hr.mono (by decide)) rfl T.g_number_octets T.F_number_octets.kp T.b_number_octets .nil pass0 (pa_cons (pv 3) (pa_cons pe_int pa_nil)))) (pe_call G_number_octets (hr.mono (by decide)) rfl T.g_number_octets T.F_number_octets.kp T.b_number_octets .nil pass0 (pa_cons (pv 4) (pa_cons pe_int pa_nil)))))
      (pss_one (ps_ret (pe_op (opAddU (K := K)) (pe_op (opAddU (K := K)) (pv 6) (pe_op opMultU (pe_lst (pa_cons pe_int pa_nil)) (pe_op opSubU (pe_glob rfl T.g_SPARE T.r_SPARE) (pe_callB (callLenU (K := K)) (by rfl) T.n_len (by decide +kernel) (pa_cons (pv 6) pa_nil))))) (pe_call G_body_octets (hr.mono (by decide)) rfl T.g_body_octets T.F_body_octets.kp T.b_body_octets .nil pass0 (pa_cons (pv 0) (pa_cons (pv 2) (pa_cons (pv 5) pa_nil)))))))))), ?_⟩
    try dsimp only [cxOf]
    have r0 := Same.refl H
    have o1 := hL.o1
    rcases hcase with ⟨b, hv, hb, hq⟩ | ⟨t, q, k, s, z, rfl, ht, hsum, hq⟩
    · cases b with
      | none =>
        obtain rfl := dp_non hv
        fail "go"
        refine ⟨by fail "sz", ?_⟩
        fail "newM"
        rename_i z H2 n2 g2 m2 h2 s2
        fail "go"
        refine g_repZ (by fail "hp") (by omega) (by omega) ?_
        fail "newM"
        rename_i y H3 n3 g3 m3 h3 s3
        exact hq _ _ s3 m3 h3
      | some b =>
        obtain ⟨t, u, rfl, ht, hu⟩ := dpBlk hv
        obtain ⟨b1, b2⟩ := hb
        have bl := bodyOf_len (k := b.kind) hL b2
        fail "go"
        refine ⟨by fail "sz", ?_⟩
        fail "newM"
        rename_i z H1 n1 g1 m1 h1 s1
        fail "go"
        fail "ret"
        rename_i p2 H2 h2 f2 g2 m2 s2
        refine g_catI (l := [b.kind]) (by fail "hp") h2 (by simp) ?_
        fail "newM"
        rename_i p3 H3 n3 g3 m3 h3 s3
        fail "go"
        fail "ret"
        rename_i p4 H4 h4 f4 g4 m4 s4
        refine g_catI (by fail "hp") h4 (by simp) ?_
        fail "newM"
        rename_i p5 H5 n5 g5 m5 h5 s5
        fail "go"
        refine ⟨by fail "sz", ?_⟩
        fail "newM"
        rename_i p6 H6 n6 g6 m6 h6 s6
        fail "go"
        rw [List.length_map]
        refine g_repZ (by fail "hp") (by simp) (by simp) ?_
        fail "newM"
        rename_i p7 H7 n7 g7 m7 h7 s7
        refine g_catI (by fail "hp") h7 (by simp) ?_
        fail "newM"
        rename_i p8 H8 n8 g8 m8 h8 s8
        fail "go"
        refine ⟨a, u, L, _, rfl, ⟨dx, by fail "hp"⟩, hL, .inl ⟨_, b1, by fail "sq", b2, ?_⟩⟩
        fail "ret"
        rename_i p9 H9 h9 f9 g9 m9 s9
        fail "go"
        refine g_catI (by fail "hp") h9 (by simp; omega) ?_
        fail "newM"
        rename_i pA HA nA gA mA hA sA
        refine hq _ _ sA mA ?_
        rw [hA]
        have e7 : ((16 : Int) - (([b.kind] ++ lows b.seq 6 ++ lows b.place 2).length : Int)).toNat = 7 := by simp
        rw [e7]
        rfl
    · fail "go"
      refine ⟨by fail "sz", ?_⟩
      fail "newM"
      rename_i y H1 n1 g1 m1 h1 s1
      fail "go"
      fail "ret"
      rename_i p2 H2 h2 f2 g2 m2 s2
      refine g_catI (l := [k]) (by fail "hp") h2 (by simp) ?_
      fail "newM"
      rename_i p3 H3 n3 g3 m3 h3 s3
      fail "go"
      fail "ret"
      rename_i p4 H4 h4 f4 g4 m4 s4
      refine g_catI (by fail "hp") h4 (by simp) ?_
      fail "newM"
      rename_i p5 H5 n5 g5 m5 h5 s5
      fail "go"
      refine ⟨by fail "sz", ?_⟩
      fail "newM"
      rename_i p6 H6 n6 g6 m6 h6 s6
      fail "go"
      rw [List.length_map]
      refine g_repZ (by fail "hp") (by simp) (by simp) ?_
      fail "newM"
      rename_i p7 H7 n7 g7 m7 h7 s7
      refine g_catI (by fail "hp") h7 (by simp) ?_
      fail "newM"
      rename_i p8 H8 n8 g8 m8 h8 s8
      have hsum8 := hsum.mono s8
      fail "go"
      refine ⟨a, q, L, _, rfl, ⟨dx, by fail "hp"⟩, hL, .inr ⟨hsum8, ?_⟩⟩
      intro p9 H9 l s9 n9 h9 l0 l3 ll
      have h89 := s9 _ _ h8
      have s89 := s8.trans s9
      clear g1 g2 g3 g4 g5 g6 g7 g8 h1 h2 h3 h4 h5 h6 h7 h8 hsum8
      fail "go"
      have e7 : ((16 : Int) - (([k] ++ lows s 6 ++ lows z 2).length : Int)).toNat = 7 := by simp
      rw [e7] at h89
      have hl16 : (([k] ++ lows s 6 ++ lows z 2) ++ List.replicate 7 (0 : Int)).length = 16 := by simp
      refine g_catI h89 h9 (by rw [hl16]; omega) ?_
      intro pA nA
      have gA := Gr.newM (M := []) (o := .lst (((([k] ++ lows s 6 ++ lows z 2) ++ List.replicate 7 (0 : Int)) ++ l).map V.int)) s89 nA
      refine hq _ _ _ gA.rh (s89.free nA) upd_same ?_ ?_ ?_
      · exact (getD_appR hl16 0).trans l0
      · exact (getD_appR hl16 3).trans l3
      · rw [List.length_append, hl16]; omega
end
def spCheck (K : PySem.W.Frag) (C : Addr) : Sp := fun vs H Q _ => ∃ (a : Addr) (v : V) (L : Lay) (n : Int) (b : Option Blk), vs = [.ref a, .int n, v] ∧ LayAt C H a L ∧ L.Ok ∧ Dp K H v (optD b) ∧ BlkOk b ∧ ∀ H', Same H H' → Q (.int (chk L n b)) H'
def ChkInv (R : Hp) (a : Addr) (v : V) (n : Int) (os : List Int) (i : Nat) (σ : St) (H : Hp) : Prop := ∃ x : Option V, σ = [some (.ref a), some (.int n), some v, some (.int ((os.take i).foldl chkStep (n + 1))), x] ∧ Same R H
section
variable {P : Program} {w : World} {K : PySem.W.Frag} {mg : Str → Option Value} {base : Heap}
theorem ok_check_of (T : Txt P K mg) : FnOk P w K mg base CX0 5 T.f_check_of T.fd_check_of ["layout", "address", "block"] (spCheck K T.C_Layout) := by
  have G_block_octets := ok_block_octets (P := P) (w := w) (base := base) T
  refine T.F_check_of.ok sc_check_of (fun vs H Q E h => ?_) (fun cdv A outer s H vs Q E hr h => ?_)
  · obtain ⟨a, v, L, n, b, rfl, ha, hL, hv, hb, hq⟩ := h
    rfl
  · obtain ⟨a, v, L, n, b, rfl, ha, hL, hv, hb, hq⟩ := h
    refine ⟨_, (pss_cons (ps_set (i := 3) sc_check_of.nd rfl (by first | exact Or.inl rfl | exact Or.inr rfl) (pe_op (opAddU (K := K)) (pv 1) pe_int))
      (pss_cons (ps_for PassesOwn.never rfl (pi_listK (K := K) (pe_call G_block_octets (hr.mono (by decide)) rfl T.g_block_octets T.F_block_octets.kp T.b_block_octets .nil pass0 (pa_cons (pv 0) (pa_cons (pv 2) pa_nil)))) (pg_name (i := 4) sc_check_of.nd rfl (by first | exact Or.inl rfl | exact Or.inr rfl)) (pss_one (ps_set (i := 3) sc_check_of.nd rfl (by first | exact Or.inl rfl | exact Or.inr rfl) (pe_op opModU (pe_op (opAddU (K := K)) (pe_op (opAddU (K := K)) (pe_op opMultU (pv 3) (pe_glob rfl T.g_FACTOR T.r_FACTOR)) (pv 4)) pe_int) (pe_glob rfl T.g_PRIME T.r_PRIME)))))
      (pss_one (ps_ret (pv 3))))), ?_⟩
    try dsimp only [cxOf]
    have r0 := Same.refl H
    fail "go"
    refine ⟨a, v, L, rfl, ha, hL, .inl ⟨b, hv, hb, ?_⟩⟩
    fail "ret"
    rename_i p H1 h1 f1 g1 m1 s1
    refine g_LsW (SqL.of h1) ?_
    refine for_list (K := K) (xs := (octs L b).map V.int) (ChkInv H1 a v n (octs L b)) ⟨none, rfl, Same.refl H1⟩ (fun i σ H2 _ ⟨_, _, s2⟩ => SqL.of (s2 _ _ h1)) ?_ ?_
    · rintro i x σ H2 hi ⟨x0, rfl, s2⟩
      obtain ⟨o, ho, rfl⟩ := map_get hi
      fail "go"
      refine ⟨some (.int o), ?_, s2⟩
      rw [take_snoc ho, List.foldl_append]; rfl
    · rintro σ H2 ⟨x0, rfl, s2⟩
      rw [List.length_map, List.take_length]
      fail "go"
      exact hq _ (s1.trans s2)
end
def spWhole (K : PySem.W.Frag) (C : Addr) : Sp := fun vs H Q _ => ∃ (a : Addr) (v : V) (L : Lay) (n : Int) (c : Cell), vs = [.ref a, .int n, v] ∧ LayAt C H a L ∧ L.Ok ∧ Dp K H v (cellD c) ∧ CellOk c ∧ ∀ H', Same H H' → Q (.bl (whole L n c)) H'
section
variable {P : Program} {w : World} {K : PySem.W.Frag} {mg : Str → Option Value} {base : Heap}
theorem ok_is_whole (T : Txt P K mg) : FnOk P w K mg base CX0 6 T.f_is_whole T.fd_is_whole ["layout", "address", "cell"] (spWhole K T.C_Layout) := by
  have G_check_of := ok_check_of (P := P) (w := w) (base := base) T
  refine T.F_is_whole.ok sc_is_whole (fun vs H Q E h => ?_) (fun cdv A outer s H vs Q E hr h => ?_)
  · obtain ⟨a, v, L, n, c, rfl, ha, hL, hv, hc, hq⟩ := h
    rfl
  · obtain ⟨a, v, L, n, c, rfl, ha, hL, hv, hc, hq⟩ := h
    refine ⟨_, (pss_cons (ps_if (PW.pt (pw_or (pt_cmpR opIsU (pv 2) pe_non (nomark _)) (pw_or1 (pt_cmpR opIsU (pe_ix (ixU (K := K)) (pv 2) pe_int (fun _ _ => rfl)) pe_non (nomark _))))) (pss_one (ps_ret pe_bl)) pss_nil)
      (pss_one (ps_ret (pe_cmpR (opEqU (K := K) hr.units) (pe_ix (ixU (K := K)) (pv 2) pe_int (fun _ _ => rfl)) (pe_call G_check_of (hr.mono (by decide)) rfl T.g_check_of T.F_check_of.kp T.b_check_of .nil pass0 (pa_cons (pv 0) (pa_cons (pv 1) (pa_cons (pe_ix (ixU (K := K)) (pv 2) pe_int (fun _ _ => rfl)) pa_nil)))) (nomark _))))), ?_⟩
    try dsimp only [cxOf]
    have r0 := Same.refl H
    rcases cellV hv with ⟨rfl, rfl⟩ | ⟨b, k, t, u, rfl, rfl, ht, hu⟩
    · fail "go"
      exact hq _ r0
    · fail "go"
      rcases optV hu with ⟨rfl, rfl⟩ | ⟨d, w, rfl, rfl⟩
      · fail "go"
        exact hq _ r0
      · fail "go"
        refine ⟨a, _, L, n, some d, rfl, ha, hL, hu, hc, fun H1 s1 => ?_⟩
        fail "go"
        exact hq _ s1
end
def spSideRead (K : PySem.W.Frag) (CL CS CD : Addr) : Sp := fun vs H Q _ => ∃ (dk : Bool) (R : Hp) (s a : Addr) (L : Lay) (z : Int) (m : Rows) (ms : List Addr) (n : Nat) (c : Cell), vs = [.ref s, .int (n : Int)] ∧ Same R H ∧ LayAt CL R a L ∧ L.Ok ∧ SideOkD dk K CS CD R H s a z m ms ∧ m.seen[n]? = some c ∧ CellOk c ∧
  ∀ v H', Same H H' → Dp K R v (optD (readC L n c)) → Q v H'
section
variable {P : Program} {w : World} {K : PySem.W.Frag} {mg : Str → Option Value} {base : Heap}
theorem ok_Side_read (T : Txt P K mg) : FnOk P w K mg base CX0 7 T.f_Side_read T.fd_Side_read ["self", "address"] (spSideRead K T.C_Layout T.C_Side T.C_Device) := by
  have cl_Side := T.cl_Side
  have a_Side_device := T.a_Side_device
  have a_Side_layout := T.a_Side_layout
  have G_Device_read := ok_Device_read (P := P) (w := w) (base := base) T
  have G_is_whole := ok_is_whole (P := P) (w := w) (base := base) T
  refine T.F_Side_read.ok sc_Side_read (fun vs H Q E h => ?_) (fun cdv A outer s H vs Q E hr h => ?_)
  · obtain ⟨dk, R, s, a, L, z, m, ms, n, c, rfl, sR, ha, hL, hso, hn, hc, hq⟩ := h
    rfl
  · obtain ⟨dk, R, s, a, L, z, m, ms, n, c, rfl, sR, ha, hL, hso, hn, hc, hq⟩ := h
    refine ⟨_, (pss_cons (ps_set (i := 2) sc_Side_read.nd rfl (by first | exact Or.inl rfl | exact Or.inr rfl) (pe_meth (pe_fldK (K := K) (pv 0) rfl) T.cl_Device T.m_Device_read G_Device_read (hr.mono (by decide)) T.b_Device_read .nil pass0 (pa_cons (pv 1) pa_nil)))
      (pss_cons (ps_if (pt_truthK (K := K) (pe_call G_is_whole (hr.mono (by decide)) rfl T.g_is_whole T.F_is_whole.kp T.b_is_whole .nil pass0 (pa_cons (pe_fldK (K := K) (pv 0) rfl) (pa_cons (pv 1) (pa_cons (pv 2) pa_nil)))) (by intro _; rfl)) (pss_one (ps_ret (pe_ix (ixU (K := K)) (pv 2) pe_int (fun _ _ => rfl)))) pss_nil)
      (pss_one (ps_ret pe_non)))), ?_⟩
    try dsimp only [cxOf]
    obtain ⟨d, ds, rfl, ⟨⟨sx, hs⟩, nin, non, dev⟩⟩ := hso
    obtain ⟨l1, l2, l3, eds, ⟨dx, ff, bb, hd, pw⟩, nd, non', u1, u2, u3, h1, h2, h3, d1, d2, d3⟩ := dev
    obtain ⟨v, hv, dv⟩ := cells_get d2 hn
    fail "go"
    refine ⟨d, a, l1, l2, l3, u2, v, n, rfl, ⟨_, _, _, hd⟩, SqL.of h2, hv, ?_⟩
    fail "go"
    refine ⟨a, v, L, n, c, rfl, ha.mono sR, hL, dp_mono sR dv, hc, fun H1 s1 => ?_⟩
    have sR1 := sR.trans s1
    fail "go"
    refine ⟨_, rfl, ?_⟩
    rcases c with _ | ⟨_ | b, k⟩
    · refine g_iteF rfl ?_
      fail "go"
      exact hq _ _ s1 .non
    · refine g_iteF rfl ?_
      fail "go"
      exact hq _ _ s1 .non
    · obtain ⟨t, x, y, rfl, ht, hx, hy⟩ := dpT2 dv
      have ht1 := sqT_mono sR1 ht
      by_cases e : k = chk L n (some b)
      · refine g_iteT (by simp [whole, e]) ?_
        fail "go"
        refine hq _ _ s1 ?_
        rw [readC, if_pos e]
        exact hx
      · refine g_iteF (by simp [whole, e]) ?_
        fail "go"
        refine hq _ _ s1 ?_
        rw [readC, if_neg e]
        exact .non
end
structure LabOk (L : Lay) (m : Rows) : Prop where
  len : (m.seen.length : Int) = L.device + 2
  dev : 0 ≤ L.device ∧ L.device < 900
  ok : ∀ c ∈ m.seen, CellOk c ∧ ∀ b k, c = some (some b, k) → OctBlk L b
theorem readC_oct {L : Lay} {n : Int} {c : Cell} (h : ∀ b k, c = some (some b, k) → OctBlk L b) : ∀ b, readC L n c = some b → OctBlk L b := fun b e => by
  rcases c with _ | ⟨_ | b', k⟩
  · cases e
  · cases e
  · rw [readC] at e
    split at e
    · cases e; exact h _ _ rfl
    · cases e
def spLabels (K : PySem.W.Frag) (CL CS CD : Addr) : Sp := fun vs H Q _ => ∃ (dk : Bool) (R : Hp) (s a : Addr) (L : Lay) (z : Int) (m : Rows) (ms : List Addr), vs = [.ref s] ∧ Same R H ∧ LayAt CL R a L ∧ L.Ok ∧ SideOkD dk K CS CD R H s a z m ms ∧ LabOk L m ∧
  ∀ p H' us, Same H H' → H p = none → H' p = some (.lst us) → DpAll K H' us ((labsOf L z m).map lbD) → Q (.ref p) H'
def LabInv (K : PySem.W.Frag) (H : Hp) (p : Addr) (ls : List (Option Lb)) (i : Nat) (H' : Hp) : Prop := ∃ us, Same H H' ∧ H' p = some (.lst us) ∧ DpAll K H' us ((ls.take i).map lbD)
theorem only_lbs : ∀ ls : List (Option Lb), tupOnlyAll (ls.map lbD) = true
  | [] => by simp [tupOnlyAll]
  | c :: r => by rw [List.map_cons, tupOnlyAll, only_lb, only_lbs r]; rfl
section
variable {P : Program} {w : World} {K : PySem.W.Frag} {mg : Str → Option Value} {base : Heap}
theorem ok_Side_labels (T : Txt P K mg) : FnOk P w K mg base CX0 8 T.f_Side_labels T.fd_Side_labels ["self"] (spLabels K T.C_Layout T.C_Side T.C_Device) := by
  have cl_Layout := T.cl_Layout
  have cl_Side := T.cl_Side
  have a_Layout_device_blocks := T.a_Layout_device_blocks
  have a_Side_layout := T.a_Side_layout
  have a_Side_seat := T.a_Side_seat
  have G_label_of := ok_label_of (P := P) (w := w) (base := base) T
  have G_Side_read := ok_Side_read (P := P) (w := w) (base := base) T
  refine T.F_Side_labels.ok sc_Side_labels (fun vs H Q E h => ?_) (fun cdv A outer s H vs Q E hr h => ?_)
  · obtain ⟨dk, R, s, a, L, z, m, ms, rfl, sR, ha, hL, hso, lo, hq⟩ := h
    rfl
  · obtain ⟨dk, R, s, a, L, z, m, ms, rfl, sR, ha, hL, hso, lo, hq⟩ := h
    refine ⟨_, (pss_cons (ps_set (i := 1) sc_Side_labels.nd rfl (by first | exact Or.inl rfl | exact Or.inr rfl) (pe_fldK (K := K) (pe_fldK (K := K) (pv 0) rfl) rfl))
      (pss_one (ps_ret (pe_lc (own := [("slot", 2)]) (g := gName 2) (tt := tYes) rfl sc_Side_labels.nd (pi_range1 rfl T.n_range (pa_cons (pe_glob rfl T.g_LABELS T.r_LABELS) pa_nil)) (blkOk_by (N := N_Side_labels) (sc := defScope s_Side_labels) (by decide +kernel)) (fun _ _ _ _ _ => (pg_name (i := 2) sc_Side_labels.nd rfl (by first | exact Or.inl rfl | exact Or.inr rfl))) (fun _ _ _ _ _ => pts_nil) (fun _ _ _ _ _ => (pe_call G_label_of (hr.mono (by decide)) rfl T.g_label_of T.F_label_of.kp T.b_label_of .nil pass0 (pa_cons (pe_fldK (K := K) (pv 0) rfl) (pa_cons (pe_fldK (K := K) (pv 0) rfl) (pa_cons (pe_meth (pv 0) T.cl_Side T.m_Side_read G_Side_read (hr.mono (by decide)) T.b_Side_read .nil pass0 (pa_cons (pe_op (opAddU (K := K)) (pv 1) (pv 2)) pa_nil)) pa_nil))))))))), ?_⟩
    try dsimp only [cxOf]
    have hso0 := hso
    obtain ⟨d, ds, rfl, ⟨⟨sx, hs⟩, nin, non, dev⟩⟩ := hso
    obtain ⟨lx, haf⟩ := ha
    have haH := sR _ _ haf
    obtain ⟨len, dv0, cok⟩ := lo
    obtain ⟨dn, hdn⟩ : ∃ dn : Nat, L.device = (dn : Int) := ⟨L.device.toNat, by omega⟩
    have lab : ∀ i : Nat, i < 2 → ∃ c, m.seen[dn + i]? = some c ∧ c ∈ m.seen ∧ (labsOf L z m)[i]? = some (labelOf L z (readC L ((dn + i : Nat) : Int) c)) := fun i hi => by
      have hlt : dn + i < m.seen.length := by omega
      refine ⟨m.seen[dn + i], List.getElem?_eq_getElem hlt, List.getElem_mem hlt, ?_⟩
      have e : L.device.toNat = dn := by omega
      match i, hi with
      | 0, _ =>
        have : m.seen[dn]? = some m.seen[dn] := List.getElem?_eq_getElem hlt
        simp [labsOf, hdn, e, List.getD_eq_getElem?_getD, this]
      | 1, _ => simp [labsOf, hdn, e, List.getD_eq_getElem?_getD, List.getElem?_eq_getElem hlt]
    fail "go"
    refine g_R1W (n := 2) rfl (by omega) fun D nD => ?_
    refine lc_range (lo := 0) (n := 2) (LabInv K H D (labsOf L z m)) ⟨[], (Gr.newM (M := []) sR nD).same, upd_same, .nil⟩ ?_ ?_
    · rintro i H1 hi ⟨us, s1, hD1, du⟩
      obtain ⟨c, hc, cm, hl⟩ := lab i hi
      have hs1 := s1 _ _ hs
      have ha1 := s1 _ _ haH
      have hso1 := hso0.frame (Mu.ofSame sR s1).g (fun _ _ => List.not_mem_nil)
      have sR1 := sR.trans s1
      clear sR haH hs
      fail "go"
      refine ⟨rfl, ?_⟩
      fail "go"
      rw [hdn, show (dn : Int) + (0 + (i : Int)) = ((dn + i : Nat) : Int) by omega]
      refine ⟨dk, R, s, a, L, z, m, _, dn + i, c, rfl, sR1, ⟨_, haf⟩, hL, hso1, hc, (cok c cm).1, fun v H2 s2 dv => ?_⟩
      have hD2 := s2 _ _ hD1
      have ha2 := s2 _ _ ha1
      have sR2 := sR1.trans s2
      fail "go"
      refine ⟨a, v, L, z, _, rfl, ⟨_, ha2⟩, hL, dp_mono sR2 dv, readC_oct (cok c cm).2, fun w H3 s3 dw => ?_⟩
      have hD3 := s3 _ _ hD2
      have gD : Gr [D] (wo H D) H3 (wo H D) (upd H3 D (.lst (us ++ [w]))) := Gr.mut ((wo_same.trans s1).trans (s2.trans s3)) wo_self hD3
      have ul := dpAll_len du
      refine ⟨_, hD3, by rw [ul, List.length_map, List.length_take]; exact Nat.lt_of_le_of_lt (show _ ≤ 1000 by omega) (by decide), us ++ [w], fun b o e => ?_, upd_same, ?_⟩
      · rw [upd_ne (ne_of_none e nD)]; exact s3 _ _ (s2 _ _ (s1 _ _ e))
      · rw [List.take_add_one, hl, List.map_append]
        exact dpAll_app (dpAll_wo1 hD3 (only_lbs _) gD (dpAll_mono (s2.trans s3) du)) (.cons (dp_wo1 hD3 (only_lb _) gD dw) .nil)
    · rintro H1 ⟨us, s1, hD1, du⟩
      fail "go"
      exact hq _ _ _ s1 nD hD1 du
end
def spLabel (K : PySem.W.Frag) (CL CS CD : Addr) : Sp := fun vs H Q _ => ∃ (dk : Bool) (R : Hp) (s a : Addr) (L : Lay) (z : Int) (m : Rows) (ms : List Addr), vs = [.ref s] ∧ Same R H ∧ LayAt CL R a L ∧ L.Ok ∧ SideOkD dk K CS CD R H s a z m ms ∧ LabOk L m ∧
  ∀ v H', Same H H' → Dp K H' v (lbD (labOf L z m)) → Q v H'
section
variable {P : Program} {w : World} {K : PySem.W.Frag} {mg : Str → Option Value} {base : Heap}
theorem ok_Side_label (T : Txt P K mg) : FnOk P w K mg base CX0 9 T.f_Side_label T.fd_Side_label ["self"] (spLabel K T.C_Layout T.C_Side T.C_Device) := by
  have G_newest_label := ok_newest_label (P := P) (w := w) (base := base) T
  have G_Side_labels := ok_Side_labels (P := P) (w := w) (base := base) T
  refine T.F_Side_label.ok sc_Side_label (fun vs H Q E h => ?_) (fun cdv A outer s H vs Q E hr h => ?_)
  · obtain ⟨dk, R, s, a, L, z, m, ms, rfl, sR, ha, hL, hso, lo, hq⟩ := h
    rfl
  · obtain ⟨dk, R, s, a, L, z, m, ms, rfl, sR, ha, hL, hso, lo, hq⟩ := h
    refine ⟨_, (pss_one (ps_ret (pe_call G_newest_label (hr.mono (by decide)) rfl T.g_newest_label T.F_newest_label.kp T.b_newest_label .nil pass0 (pa_cons (pe_meth0 (pv 0) T.cl_Side T.m_Side_labels G_Side_labels (hr.mono (by decide)) T.b_Side_labels .nil pass0) pa_nil)))), ?_⟩
    try dsimp only [cxOf]
    have hso0 := hso
    obtain ⟨d, ds, rfl, ⟨⟨sx, hs⟩, nin, non, dev⟩⟩ := hso
    fail "go"
    refine ⟨dk, R, s, a, L, z, m, _, rfl, sR, ha, hL, hso0, lo, fun p H1 us s1 np hp du => ?_⟩
    fail "go"
    refine ⟨p, us, _, rfl, SqL.of hp, du, fun v dv => ?_⟩
    fail "go"
    exact hq _ _ s1 dv
end
def spFollow (K : PySem.W.Frag) (CL CS CD : Addr) : Sp := fun vs H Q _ => ∃ (R : Hp) (p a : Addr) (L : Lay) (es : List Ent), vs = [.ref p] ∧ Same R H ∧ LayAt CL R a L ∧ L.Ok ∧ H p = some (.lst (es.map fun e => V.ref e.s)) ∧ es.length ≤ 3 ∧ (∀ e ∈ es, SideOkD false K CS CD R H e.s a e.z e.m e.ms ∧ LabOk L e.m) ∧
  ∀ v H', Same H H' → Dp K H' v (lbD (folLb L (es.map Ent.zm))) → Q v H'
def FoInv (K : PySem.W.Frag) (H : Hp) (p : Addr) (ls : List (Option Lb)) (i : Nat) (H' : Hp) : Prop := ∃ us, Same H H' ∧ H' p = some (.lst us) ∧ DpAll K H' us ((ls.take i).map lbD)
section
variable {P : Program} {w : World} {K : PySem.W.Frag} {mg : Str → Option Value} {base : Heap}
theorem ok_label_to_follow (T : Txt P K mg) : FnOk P w K mg base CX0 10 T.f_label_to_follow T.fd_label_to_follow ["sides"] (spFollow K T.C_Layout T.C_Side T.C_Device) := by
  have G_newest_label := ok_newest_label (P := P) (w := w) (base := base) T
  have G_Side_label := ok_Side_label (P := P) (w := w) (base := base) T
  refine T.F_label_to_follow.ok sc_label_to_follow (fun vs H Q E h => ?_) (fun cdv A outer s H vs Q E hr h => ?_)
  · obtain ⟨R, p, a, L, es, rfl, sR, ha, hL, hp, el, hes, hq⟩ := h
    rfl
  · obtain ⟨R, p, a, L, es, rfl, sR, ha, hL, hp, el, hes, hq⟩ := h
    refine ⟨_, (pss_one (ps_ret (pe_call G_newest_label (hr.mono (by decide)) rfl T.g_newest_label T.F_newest_label.kp T.b_newest_label .nil pass0 (pa_cons (pe_lc (own := [("side", 1)]) (g := gName 1) (tt := tYes) rfl sc_label_to_follow.nd (pi_listK (K := K) (pv 0)) (blkOk_by (N := N_label_to_follow) (sc := defScope s_label_to_follow) (by decide +kernel)) (fun _ _ _ _ _ => (pg_name (i := 1) sc_label_to_follow.nd rfl (by first | exact Or.inl rfl | exact Or.inr rfl))) (fun _ _ _ _ _ => pts_nil) (fun _ _ _ _ _ => (pe_meth0 (pv 1) T.cl_Side T.m_Side_label G_Side_label (hr.mono (by decide)) T.b_Side_label .nil pass0))) pa_nil)))), ?_⟩
    try dsimp only [cxOf]
    fail "go"
    refine g_LsW (SqL.of hp) fun D nD => ?_
    have pD := ne_of_none hp nD
    refine lc_list (K := K) (a := p) (xs := es.map fun e => V.ref e.s) (FoInv K H D (es.map fun e => labOf L e.z e.m)) ⟨[], (Gr.newM (M := []) sR nD).same, upd_same, .nil⟩ (fun j H' _ ⟨us, s, _⟩ => SqL.of (s _ _ hp)) ?_ ?_
    · rintro i v H1 hv ⟨us, s1, hD1, du⟩
      rw [List.getElem?_map] at hv
      obtain ⟨e, he, rfl⟩ := Option.map_eq_some_iff.mp hv
      have hem := List.mem_of_getElem? he
      obtain ⟨so, lo⟩ := hes e hem
      have so1 := so.frame (Mu.ofSame sR s1).g (fun _ _ => List.not_mem_nil)
      have sR1 := sR.trans s1
      obtain ⟨d, ds, ems, ⟨⟨sx, hs⟩, nin, non, dev⟩⟩ := id so1
      clear sR so
      refine ⟨rfl, ?_⟩
      fail "go"
      refine ⟨false, R, e.s, a, L, e.z, e.m, _, rfl, sR1, ha, hL, so1, lo, fun w H2 s2 dw => ?_⟩
      have hD2 := s2 _ _ hD1
      have gD : Gr [D] (wo H D) H2 (wo H D) (upd H2 D (.lst (us ++ [w]))) := Gr.mut ((wo_same.trans s1).trans s2) wo_self hD2
      have ul := dpAll_len du
      refine ⟨_, hD2, by rw [ul, List.length_map, List.length_take, List.length_map]; exact Nat.lt_of_le_of_lt (show _ ≤ 1000 by omega) (by decide), us ++ [w], fun b o e => ?_, upd_same, ?_⟩
      · rw [upd_ne (ne_of_none e nD)]; exact s2 _ _ (s1 _ _ e)
      · rw [List.take_add_one, List.getElem?_map, he, List.map_append]
        exact dpAll_app (dpAll_wo1 hD2 (only_lbs _) gD (dpAll_mono s2 du)) (.cons (dp_wo1 hD2 (only_lb _) gD dw) .nil)
    · rintro H1 ⟨us, s1, hD1, du⟩
      have du : DpAll K H1 us ((es.map fun e => labOf L e.z e.m).map lbD) := by
        have : (es.map fun e => V.ref e.s).length = (es.map fun e => labOf L e.z e.m).length := by simp
        rw [this, List.take_length] at du
        exact du
      have hq : ∀ v H', Same H H' → Dp K H' v (lbD (newestOf (es.map fun e => labOf L e.z e.m))) → Q v H' := fun v H' s d => hq v H' s (by unfold folLb; rw [List.map_map]; exact d)
      fail "go"
      refine ⟨D, us, _, rfl, SqL.of hD1, du, fun v dv => ?_⟩
      fail "go"
      exact hq _ _ s1 dv
end
def spSettled (K : PySem.W.Frag) (CL CS CD : Addr) : Sp := fun vs H Q _ => ∃ (dk : Bool) (R : Hp) (s a : Addr) (L : Lay) (z : Int) (m : Rows) (ms : List Addr), vs = [.ref s] ∧ Same R H ∧ LayAt CL R a L ∧ L.Ok ∧ (0 ≤ L.device ∧ L.device < 900) ∧ SideOkD dk K CS CD R H s a z m ms ∧ (m.seen.length : Int) = L.device + 2 ∧
  ∀ H' x xs, Gr [] R H R H' → (∀ y ∈ xs, H y = none) → SideOk K CS CD R H' x a z m.settle xs → Q (.ref x) H'
def SetInv (H : Hp) (p : Addr) (us : List V) (i : Nat) (H' : Hp) : Prop := Same H H' ∧ H' p = some (.lst (us.take i))
section
variable {P : Program} {w : World} {K : PySem.W.Frag} {mg : Str → Option Value} {base : Heap}
theorem ok_Side_settled (T : Txt P K mg) : FnOk P w K mg base CX0 5 T.f_Side_settled T.fd_Side_settled ["self"] (spSettled K T.C_Layout T.C_Side T.C_Device) := by
  have cl_Layout := T.cl_Layout
  have cl_Side := T.cl_Side
  have a_Layout_device_blocks := T.a_Layout_device_blocks
  have a_Side_layout := T.a_Side_layout
  have a_Side_device := T.a_Side_device
  have a_Side_seat := T.a_Side_seat
  have G_Device_read := ok_Device_read (P := P) (w := w) (base := base) T
  have G_Side___init__ := ok_Side___init__ (P := P) (w := w) (base := base) T
  refine T.F_Side_settled.ok sc_Side_settled (fun vs H Q E h => ?_) (fun cdv A outer s H vs Q E hr h => ?_)
  · obtain ⟨dk, R, s, a, L, z, m, ms, rfl, sR, ha, hL, hdev, hso, hlen, hq⟩ := h
    rfl
  · obtain ⟨dk, R, s, a, L, z, m, ms, rfl, sR, ha, hL, hdev, hso, hlen, hq⟩ := h
    refine ⟨_, (pss_cons (ps_setLc (i := 1) (own := [("address", 2)]) (g := gName 2) (tt := tYes) rfl sc_Side_settled.nd rfl rfl (sw_true rfl rfl rfl (by decide +kernel)) (pi_range1 rfl T.n_range (pa_cons (pe_op (opAddU (K := K)) (pe_fldK (K := K) (pe_fldK (K := K) (pv 0) rfl) rfl) (pe_glob rfl T.g_LABELS T.r_LABELS)) pa_nil)) (blkOk_by (N := N_Side_settled) (sc := defScope s_Side_settled) (by decide +kernel)) (fun _ _ _ _ _ => (pg_name (i := 2) sc_Side_settled.nd rfl (by first | exact Or.inl rfl | exact Or.inr rfl))) (fun _ _ _ _ _ => pts_nil) (fun _ _ _ _ _ => (pe_meth (pe_fldK (K := K) (pv 0) rfl) T.cl_Device T.m_Device_read G_Device_read (hr.mono (by decide)) T.b_Device_read .nil pass0 (pa_cons (pv 2) pa_nil))))
      (pss_one (ps_ret (pe_make T.mk_Side G_Side___init__ (hr.mono (by decide)) rfl T.g_Side T.b_Side___init__ .nil pass0 (pa_cons (pe_fldK (K := K) (pv 0) rfl) (pa_cons (pe_fldK (K := K) (pv 0) rfl) (pa_cons (pv 1) pa_nil))))))), ?_⟩
    try dsimp only [cxOf]
    obtain ⟨d, ds, rfl, ⟨⟨sx, hs⟩, nin, non, dev⟩⟩ := hso
    obtain ⟨l1, l2, l3, eds, ⟨dx, ff, bb, hd, pw⟩, nd, non', u1, u2, u3, h1, h2, h3, d1, d2, d3⟩ := dev
    obtain ⟨lx, haf⟩ := ha
    have haH := sR _ _ haf
    have ul2 : u2.length = m.seen.length := by have := dpAll_len d2; simpa using this
    fail "go"
    refine g_R1W (n := m.seen.length) hlen.symm (by omega) fun D nD => ?_
    refine lc_range (lo := 0) (n := m.seen.length) (SetInv H D u2) ⟨(Gr.newM (M := []) sR nD).same, upd_same⟩ ?_ ?_
    · rintro i H1 hi ⟨s1, hD1⟩
      rw [Int.zero_add]
      have hs1 := s1 _ _ hs
      have hd1 := s1 _ _ hd
      have h21 := s1 _ _ h2
      obtain ⟨v, hv⟩ : ∃ v, u2[i]? = some v := ⟨u2[i], List.getElem?_eq_getElem (by omega)⟩
      clear sR haH hs hd h1 h2 h3
      refine ⟨rfl, ?_⟩
      fail "go"
      refine ⟨d, a, l1, l2, l3, u2, v, i, rfl, ⟨_, _, _, hd1⟩, SqL.of h21, hv, ?_⟩
      refine ⟨_, hD1, by rw [List.length_take]; exact Nat.lt_of_le_of_lt (show _ ≤ 1000 by omega) (by decide), fun b o e => ?_, ?_⟩
      · rw [upd_ne (ne_of_none e nD)]; exact s1 _ _ e
      · rw [upd_same, List.take_add_one, hv]; rfl
    · rintro H1 ⟨s1, hD1⟩
      rw [← ul2, List.take_length] at hD1
      have sR1 := sR.trans s1
      have hs1 := s1 _ _ hs
      have ha1 := s1 _ _ haH
      have gA : Gr [] R H R H1 := (Mu.ofSame sR s1).g
      clear sR haH hs hd h1 h2 h3
      fail "go"
      intro x dx2 nx ndx nex
      have sm := made_same (C := T.C_Side) nx ndx
      refine ⟨R, x, dx2, a, z, .ref D, u2, L, rfl, sR1.trans sm, sR1.free nx, upd_same, ⟨_, haf⟩, hL, hdev, .inl ⟨D, rfl, SqL.of (sm _ _ hD1)⟩, fun H4 d' l1' l2' l3' g nd' n1 n2 n3 e12 e13 e23 edx hs' hd' e1 e2 e3 => ⟨rfl, ?_⟩⟩
      obtain ⟨gN, fN, sN⟩ := side_new (cs := m.seen) sR1 nx ndx g nd' n1 n2 n3 e12 e13 e23 hs' hd' e1 e2 e3 d2
      exact hq H4 x _ (gA.trans gN) (fun y hy => gA.free (fN y hy)) sN
end
def spIsNext (K : PySem.W.Frag) : Sp := fun vs H Q _ => ∃ (R : Hp) (v w : V) (l own : Lb), vs = [v, w] ∧ Same R H ∧ Dp K H v l.d ∧ Dp K H w own.d ∧ ∀ H', Same H H' → Q (.bl (isNextL l own)) H'
section
variable {P : Program} {w : World} {K : PySem.W.Frag} {mg : Str → Option Value} {base : Heap}
theorem ok_is_next (T : Txt P K mg) : FnOk P w K mg base CX0 1 T.f_is_next T.fd_is_next ["label", "own"] (spIsNext K) := by
  refine T.F_is_next.ok sc_is_next (fun vs H Q E h => ?_) (fun cdv A outer s H vs Q E hr h => ?_)
  · obtain ⟨R, v, w, l, own, rfl, sR, hv, hw, hq⟩ := h
    rfl
  · obtain ⟨R, v, w, l, own, rfl, sR, hv, hw, hq⟩ := h
    refine ⟨_, (pss_one (ps_ret (pe_and (pe_cmpR (opEqU (K := K) hr.units) (pe_slice (slU (K := K)) (pv 1) po_none (po_some pe_int)) (pe_tup (pa_cons (pe_op opSubU (pe_ix (ixU (K := K)) (pv 0) pe_int (fun _ _ => rfl)) pe_int) (pa_cons (pe_ix (ixU (K := K)) (pv 0) pe_int (fun _ _ => rfl)) pa_nil))) (nomark _)) (pe_one (pe_cmpR (opEqU (K := K) hr.units) (pe_ix (ixU (K := K)) (pv 1) pe_int (fun _ _ => rfl)) (pe_ix (ixU (K := K)) (pv 0) pe_int (fun _ _ => rfl)) (nomark _)))))), ?_⟩
    try dsimp only [cxOf]
    obtain ⟨t, m, b, f, rfl, ht, hm, hb, hf⟩ := dpLb hv
    obtain ⟨t2, m2, b2, f2, rfl, ht2, hm2, hb2, hf2⟩ := dpLb hw
    fail "go"
    refine g_slT ht2 (show ¬ (HT.sIx 4 0 none = 0 ∧ HT.sIx 4 4 (some 2) = 4) by decide) ?_
    fail "newM"
    rename_i p1 H1 n1 g1 m1 h1 s1
    have q1 := g1.g.same
    have ht1 := sqT_mono q1 ht
    have hm1 := sqT_mono q1 hm
    have hb1 := sqT_mono q1 hb
    have hf1 := sqT_mono q1 hf
    have ht21 := sqT_mono q1 ht2
    have hm21 := sqT_mono q1 hm2
    have hf21 := sqT_mono q1 hf2
    clear ht hm hb hf ht2 hm2 hf2 hb2 hv hw g1 n1 m1 sR
    fail "go"
    refine ⟨by fail "sz", ?_⟩
    fail "newM"
    rename_i p2 H2 n2 g2 m2 h2 s2
    have q2 := g2.g.same
    have ht2 := sqT_mono q2 ht1
    have hb2 := sqT_mono q2 hb1
    have hf2 := sqT_mono q2 hf1
    have ht22 := sqT_mono q2 ht21
    have hm22 := sqT_mono q2 hm21
    have hf22 := sqT_mono q2 hf21
    refine g_eqPair (SqT.of (q2 _ _ h1)) (SqT.of h2) hm22 hb2 ?_
    have q := q1.trans q2
    clear g2 n2 m2 h1 h2 s1 s2 q1 q2 ht1 hm1 hb1 hf1 ht21 hm21 hf21
    refine ⟨_, rfl, ?_⟩
    by_cases c : own.gen = l.gen - 1 ∧ own.mem = l.bef
    · rw [if_pos (decide_eq_true c)]
      fail "go"
      refine g_eqIntsT hf22 hf2 ?_
      have := hq H2 q
      simpa [isNextL, c] using this
    · rw [if_neg (by simp [c])]
      have := hq H2 q
      have e : isNextL l own = false := by unfold isNextL; rw [decide_eq_false c]; rfl
      rw [e] at this
      exact this
end
def spIsCur (K : PySem.W.Frag) (CL CS CD : Addr) : Sp := fun vs H Q _ => ∃ (R : Hp) (v : V) (a : Addr) (L : Lay) (e : Ent) (l : Lb), vs = [.ref e.s, v] ∧ Same R H ∧ LayAt CL R a L ∧ L.Ok ∧ SideOkD false K CS CD R H e.s a e.z e.m e.ms ∧ LabOk L e.m ∧ Dp K H v l.d ∧
  ∀ H', Same H H' → Q (.bl (curL L l e.zm)) H'
section
variable {P : Program} {w : World} {K : PySem.W.Frag} {mg : Str → Option Value} {base : Heap}
theorem ok_is_current (T : Txt P K mg) : FnOk P w K mg base CX0 10 T.f_is_current T.fd_is_current ["side", "label"] (spIsCur K T.C_Layout T.C_Side T.C_Device) := by
  have cl_Side := T.cl_Side
  have a_Side_seat := T.a_Side_seat
  have G_Side_label := ok_Side_label (P := P) (w := w) (base := base) T
  have G_is_next := ok_is_next (P := P) (w := w) (base := base) T
  refine T.F_is_current.ok sc_is_current (fun vs H Q E h => ?_) (fun cdv A outer s H vs Q E hr h => ?_)
  · obtain ⟨R, v, a, L, e, l, rfl, sR, ha, hL, so, lo, hv, hq⟩ := h
    rfl
  · obtain ⟨R, v, a, L, e, l, rfl, sR, ha, hL, so, lo, hv, hq⟩ := h
    refine ⟨_, (pss_cons (ps_set (i := 2) sc_is_current.nd rfl (by first | exact Or.inl rfl | exact Or.inr rfl) (pe_meth0 (pv 0) T.cl_Side T.m_Side_label G_Side_label (hr.mono (by decide)) T.b_Side_label .nil pass0))
      (pss_cons (ps_if (PW.pt (pw_or (pt_cmpR opIsU (pv 2) pe_non (nomark _)) (pw_or1 (pt_cmpR (opNinF (K := K)) (pe_fldK (K := K) (pv 0) rfl) (pe_ix (ixU (K := K)) (pv 1) pe_int (fun _ _ => rfl)) (by rfl))))) (pss_one (ps_ret pe_bl)) pss_nil)
      (pss_one (ps_ret (pe_or (pe_cmpR (opEqU (K := K) hr.units) (pv 2) (pv 1) (nomark _)) (pe_one (pe_call G_is_next (hr.mono (by decide)) rfl T.g_is_next T.F_is_next.kp T.b_is_next .nil pass0 (pa_cons (pv 1) (pa_cons (pv 2) pa_nil))))))))), ?_⟩
    try dsimp only [cxOf]
    obtain ⟨t, m, b, f, rfl, ht, hm, hb, hf⟩ := dpLb hv
    obtain ⟨d, ds, ems, ⟨⟨sx, hs⟩, nin, non, dev⟩⟩ := id so
    fail "go"
    refine ⟨false, R, e.s, a, L, e.z, e.m, _, rfl, sR, ha, hL, so, lo, fun w H1 s1 dw => ?_⟩
    have hv1 := dp_mono s1 hv
    have hs1 := s1 _ _ hs
    have ht1 := sqT_mono s1 ht
    have hm1 := sqT_mono s1 hm
    rcases lbV dw with ⟨ew, rfl⟩ | ⟨own, t2, ew, rfl⟩
    · have ec : curL L l e.zm = false := by unfold curL; rw [show labOf L e.zm.1 e.zm.2 = none from ew]
      rw [ec] at hq
      fail "go"
      exact hq _ s1
    have ec : curL L l e.zm = (decide (e.z ∈ l.mem) && (decide (own = l) || isNextL l own)) := by unfold curL; rw [show labOf L e.zm.1 e.zm.2 = some own from ew]; rfl
    rw [ec] at hq
    rw [ew] at dw
    clear ht hm hb hf hv hs
    fail "go"
    refine g_ninF (.inr hm1) rfl (flat_ints _) ?_
    rw [inV_ints]
    refine ⟨_, rfl, ?_⟩
    by_cases em : e.z ∈ l.mem
    · have e0 : decide (e.z ∈ l.mem) = true := decide_eq_true em
      rw [e0] at hq ⊢
      rw [if_neg (by simp)]
      fail "go"
      refine g_eqLb (x := some own) (y := some l) dw hv1 ?_
      refine ⟨_, rfl, ?_⟩
      by_cases eo : own = l
      · rw [if_pos (by simp [eo])]
        have := hq H1 s1
        simpa [eo] using this
      · rw [if_neg (by simp [eo])]
        fail "go"
        refine ⟨R, _, _, l, own, rfl, sR.trans s1, hv1, dw, fun H2 s2 => ?_⟩
        fail "go"
        have := hq H2 (s1.trans s2)
        simpa [eo] using this
    · have e0 : decide (e.z ∈ l.mem) = false := decide_eq_false em
      rw [e0] at hq ⊢
      rw [if_pos (by rfl)]
      fail "go"
      exact hq _ s1
end
open PySem.OEX in
def spDegInit (C : Addr) : Sp := fun vs H Q _ => ∃ (e : Addr) (x : V), vs = [.ref e, x] ∧ H e = some (exo e C none) ∧ ∀ d, H d = none → d ≠ e → Q .non (upd (upd H d (exd d [("missing", x)])) e (exo e C (some d)))
open PySem.OEX in
theorem raise_deg {C : Addr} {H : Hp} {x : V} {E : XK} {Wd : Option Addr → Hp → Prop} (hE : ∀ d H', Same H H' → H' d = some (.xd [("missing", x)]) → Wd (some d) H') (a : Addr) (na : H a = none) :
    spDegInit C [.ref a, x] (upd H a (exo a C none)) (fun v H2 => v = .non ∧ ∃ (d : Addr) (fs : List (Str × V)), H2 a = some (exo a C (some d)) ∧ H2 d = some (exd d fs) ∧ H d = none ∧ Wd (some d) (upd (del H2 a) d (.xd fs))) E := by
  refine ⟨a, _, rfl, upd_same, fun d nd ne => ⟨rfl, d, [("missing", x)], ?_, ?_, ?_, ?_⟩⟩
  · exact upd_same
  · rw [upd_ne ne]; exact upd_same
  · rw [upd_ne ne] at nd; exact nd
  · rw [upd_ne ne] at nd
    refine hE d _ (fun b o e => ?_) upd_same
    have hd : b ≠ d := ne_of_none e nd
    have ha : b ≠ a := ne_of_none e na
    rw [upd_ne hd, del_ne ha, upd_ne ha, upd_ne hd, upd_ne ha]
    exact e
section
variable {P : Program} {w : World} {K : PySem.W.Frag} {mg : Str → Option Value} {base : Heap}
theorem ok_Degraded___init__ (T : Txt P K mg) : FnOk P w K mg base CX0 1 T.f_Degraded___init__ T.fd_Degraded___init__ ["self", "missing"] (spDegInit T.C_Degraded) := by
  have a_Degraded_missing := T.a_Degraded_missing
  obtain ⟨oc, od, kV, doc, pm, an, ct, osl, efd, lk, hcd⟩ := T.F_Degraded___init__.ex
  rw [efd] at lk ⊢
  refine fn_super T.z_Degraded lk hcd sc_Degraded___init__ rfl rfl rfl (fun L => rfl) (fun L => rfl) (fun vs H Q E h => ?_) (fun A outer s H vs Q E hr h => ?_)
  · obtain ⟨e, x, rfl, ha, hq⟩ := h
    rfl
  · obtain ⟨e, x, rfl, ha, hq⟩ := h
    refine ⟨_, _, rfl, ha, _, (pss_one (ps_ost (pv 0) (pv 1))), ?_⟩
    try dsimp only [NdefX.ncx, ncxH]
    unfold tOst
    fail "go"
    refine ⟨e, _, rfl, T.ox_Degraded, a_Degraded_missing, .inl ⟨ha, fun d nd ne => ?_⟩⟩
    fail "go"
    exact hq d nd ne
end
def spForkOf : Sp := fun vs H Q _ => ∃ (g z : Int), vs = [.int g, .int z] ∧ Q (.int (4 * g + z)) H
section
variable {P : Program} {w : World} {K : PySem.W.Frag} {mg : Str → Option Value} {base : Heap}
theorem ok_fork_of (T : Txt P K mg) : FnOk P w K mg base CX0 1 T.f_fork_of T.fd_fork_of ["generation", "seat"] (spForkOf) := by
  refine T.F_fork_of.ok sc_fork_of (fun vs H Q E h => ?_) (fun cdv A outer s H vs Q E hr h => ?_)
  · obtain ⟨g, z, rfl, hq⟩ := h
    rfl
  · obtain ⟨g, z, rfl, hq⟩ := h
    refine ⟨_, (pss_one (ps_ret (pe_op (opAddU (K := K)) (pe_op opMultU pe_int (pv 0)) (pv 1)))), ?_⟩
    try dsimp only [cxOf]
    fail "go"
    exact hq
end
def spFirst (K : PySem.W.Frag) (CL CS CD : Addr) : Sp := fun vs H Q _ => ∃ (R : Hp) (p a : Addr) (L : Lay) (es : List Ent) (n : Nat), vs = [.ref p, .int (n : Int)] ∧ Same R H ∧ LayAt CL R a L ∧ L.Ok ∧ (n : Int) < L.device ∧ H p = some (.lst (es.map fun e => V.ref e.s)) ∧ es.length ≤ 3 ∧ (∀ e ∈ es, SideOkD false K CS CD R H e.s a e.z e.m e.ms ∧ LabOk L e.m) ∧
  ∀ v H', Same H H' → Dp K R v (optD (wholeAt L (es.map Ent.zm) n)) → Q v H'
def FwInv (H0 : Hp) (p : Addr) (n : Nat) (L : Lay) (es : List Ent) (i : Nat) (σ : St) (H : Hp) : Prop := ∃ x y : Option V, σ = [some (.ref p), some (.int (n : Int)), x, y] ∧ Same H0 H ∧ ∀ e ∈ es.take i, readC L n (e.m.seen.getD n none) = none
section
variable {P : Program} {w : World} {K : PySem.W.Frag} {mg : Str → Option Value} {base : Heap}
theorem ok_first_whole (T : Txt P K mg) : FnOk P w K mg base CX0 8 T.f_first_whole T.fd_first_whole ["sides", "address"] (spFirst K T.C_Layout T.C_Side T.C_Device) := by
  have G_Side_read := ok_Side_read (P := P) (w := w) (base := base) T
  refine T.F_first_whole.ok sc_first_whole (fun vs H Q E h => ?_) (fun cdv A outer s H vs Q E hr h => ?_)
  · obtain ⟨R, p, a, L, es, n, rfl, sR, ha, hL, hn, hp, el, hes, hq⟩ := h
    rfl
  · obtain ⟨R, p, a, L, es, n, rfl, sR, ha, hL, hn, hp, el, hes, hq⟩ := h
    refine ⟨_, (pss_cons (ps_for PassesOwn.never rfl (pi_listK (K := K) (pv 0)) (pg_name (i := 2) sc_first_whole.nd rfl (by first | exact Or.inl rfl | exact Or.inr rfl)) (pss_cons (ps_set (i := 3) sc_first_whole.nd rfl (by first | exact Or.inl rfl | exact Or.inr rfl) (pe_meth (pv 2) T.cl_Side T.m_Side_read G_Side_read (hr.mono (by decide)) T.b_Side_read .nil pass0 (pa_cons (pv 1) pa_nil)))
      (pss_one (ps_if (pt_cmpR opNotU (pv 3) pe_non (nomark _)) (pss_one (ps_ret (pv 3))) pss_nil))))
      (pss_one (ps_ret pe_non))), ?_⟩
    try dsimp only [cxOf]
    fail "go"
    refine g_LsW (SqL.of hp) ?_
    refine for_list (K := K) (a := p) (xs := es.map fun e => V.ref e.s) (FwInv H p n L es) ⟨none, none, rfl, Same.refl H, fun e he => absurd he (by simp)⟩ (fun j σ H' _ ⟨x, y, _, s, _⟩ => SqL.of (s _ _ hp)) ?_ ?_
    · rintro i v σ H1 hv ⟨x, y, rfl, s1, hno⟩
      rw [List.getElem?_map] at hv
      obtain ⟨e, he, rfl⟩ := Option.map_eq_some_iff.mp hv
      have hem := List.mem_of_getElem? he
      obtain ⟨so, lo⟩ := hes e hem
      have so1 := so.frame (Mu.ofSame sR s1).g (fun _ _ => List.not_mem_nil)
      have sR1 := sR.trans s1
      obtain ⟨d, ds, ems, ⟨⟨sx, hs⟩, nin, non, dev⟩⟩ := id so1
      obtain ⟨c, hc⟩ : ∃ c, e.m.seen[n]? = some c := ⟨_, List.getElem?_eq_getElem (by have := lo.len; have := lo.dev; omega)⟩
      have hcm := lo.ok c (List.mem_of_getElem? hc)
      clear sR so
      fail "go"
      refine ⟨false, R, e.s, a, L, e.z, e.m, _, n, c, rfl, sR1, ha, hL, so1, hc, hcm.1, fun w H2 s2 dw => ?_⟩
      have ec : e.m.seen.getD n none = c := by rw [List.getD_eq_getElem?_getD, hc]; rfl
      have hno1 : readC L n c = none → ∀ f ∈ es.take (i + 1), readC L n (f.m.seen.getD n none) = none := fun hc f hf => by
        rw [List.take_add_one, he] at hf
        rcases List.mem_append.mp hf with hf | hf
        · exact hno f hf
        · rw [show f = e by simpa using hf, ec]; exact hc
      have hsome : ∀ b, readC L n c = some b → wholeAt L (es.map Ent.zm) n = some b := fun b hb => by
        unfold wholeAt
        have : es = es.take i ++ e :: es.drop (i + 1) := by
          have h1 := List.take_append_drop i es
          obtain ⟨hi, rfl⟩ := List.getElem?_eq_some_iff.mp he
          rw [← List.drop_eq_getElem_cons hi, h1]
        rw [this, List.map_append, List.findSome?_append, List.map_cons, List.findSome?_cons]
        have h0 : ((es.take i).map Ent.zm).findSome? (fun q => readC L n (q.2.seen.getD n none)) = none := by
          rw [List.findSome?_eq_none_iff]
          intro q hq
          obtain ⟨f, hf, rfl⟩ := List.mem_map.mp hq
          exact hno f hf
        rw [h0, Option.none_or]
        have : readC L n (e.zm.2.seen.getD n none) = some b := by rw [show e.zm.2 = e.m from rfl, ec, hb]
        rw [this]
      fail "go"
      cases hr : readC L n c with
      | none =>
        rw [hr] at dw
        obtain rfl := dp_non dw
        fail "go"
        exact ⟨_, _, rfl, s1.trans s2, hno1 hr⟩
      | some b =>
        rw [hr] at dw
        obtain ⟨t, u, rfl, _⟩ := dpBlk dw
        fail "go"
        refine hq _ _ (s1.trans s2) ?_
        rw [hsome b hr]
        exact dw
    · rintro σ H1 ⟨x, y, rfl, s1, hno⟩
      fail "go"
      refine hq _ _ s1 ?_
      have : wholeAt L (es.map Ent.zm) n = none := by
        unfold wholeAt
        rw [List.findSome?_eq_none_iff]
        intro q hq
        obtain ⟨f, hf, rfl⟩ := List.mem_map.mp hq
        exact hno f (by rw [List.length_map, List.take_length]; exact hf)
      rw [this]
      exact .non
end
def spMirInit (CM : Addr) : Sp := fun vs H Q _ => ∃ (R : Hp) (x dx a sd fa : Addr) (gen : Int), vs = [.ref x, .ref a, .ref sd, .int gen, .ref fa] ∧ Same R H ∧ R x = none ∧ H x = some (.ins CM dx []) ∧
  ∀ H' gd, Gr [x] R H R H' → H gd = none → H' x = some (.ins CM dx [("layout", .ref a), ("sides", .ref sd), ("guests", .ref gd), ("generation", .int gen), ("forks", .ref fa), ("fuse", .non), ("dark", .bl false)]) → H' gd = some (.dK []) → Q .non H'
section
variable {P : Program} {w : World} {K : PySem.W.Frag} {mg : Str → Option Value} {base : Heap}
theorem ok_Mirror___init__ (T : Txt P K mg) : FnOk P w K mg base CX0 1 T.f_Mirror___init__ T.fd_Mirror___init__ ["self", "layout", "sides", "generation", "forks"] (spMirInit T.C_Mirror) := by
  have cl_Mirror := T.cl_Mirror
  have a_Mirror_layout := T.a_Mirror_layout
  have a_Mirror_sides := T.a_Mirror_sides
  have a_Mirror_guests := T.a_Mirror_guests
  have a_Mirror_generation := T.a_Mirror_generation
  have a_Mirror_forks := T.a_Mirror_forks
  have a_Mirror_fuse := T.a_Mirror_fuse
  have a_Mirror_dark := T.a_Mirror_dark
  refine T.F_Mirror___init__.ok sc_Mirror___init__ (fun vs H Q E h => ?_) (fun cdv A outer s H vs Q E hr h => ?_)
  · obtain ⟨R, x, dx, a, sd, fa, gen, rfl, sR, Rx, hx, hq⟩ := h
    rfl
  · obtain ⟨R, x, dx, a, sd, fa, gen, rfl, sR, Rx, hx, hq⟩ := h
    refine ⟨_, (pss_cons (ps_fld (pv 0) (pv 1) rfl)
      (pss_cons (ps_fld (pv 0) (pv 2) rfl)
      (pss_cons (ps_fld (pv 0) pe_dnewK rfl)
      (pss_cons (ps_fld (pv 0) (pv 3) rfl)
      (pss_cons (ps_fld (pv 0) (pv 4) rfl)
      (pss_cons (ps_fld (pv 0) pe_non rfl)
      (pss_one (ps_fld (pv 0) pe_bl rfl)))))))), ?_⟩
    try dsimp only [cxOf]
    fail "go"
    rename_i Ha ga ha sa Hb gb hb sb
    have gA : Mu [x] R H Hb := ⟨ga.g.trans gb.g⟩
    have hx' := hb
    clear ga ha sa gb hx sR
    intro gd ngd
    generalize hqq : upd Hb gd _ = H3
    have g3 : Mu [] R Hb H3 := by subst hqq; exact ⟨Gr.newM sb ngd⟩
    have hg3 : H3 gd = some (.dK []) := by subst hqq; exact upd_same
    clear hqq
    have hx3 := g3.g.same _ _ hx'
    have s3 := g3.g.rh
    have xg : x ≠ gd := ne_of_none hx' ngd
    have ng : H gd = none := gA.g.free ngd
    have gB : Mu [x] R H H3 := ⟨gA.g.trans g3.g.nil⟩
    clear gA g3 hb hx' sb
    fail "go"
    rename_i Hc gc hc sc Hd gd' hd sd' He ge he se Hf gf hf sf Hg gg hg sg
    have gC : Gr [x] R H3 R Hg := gc.g.trans (gd'.g.trans (ge.g.trans (gf.g.trans gg.g)))
    exact hq Hg gd (gB.g.trans gC) ng hg (gC.hh _ _ (nin1 xg.symm) hg3)
end
def Mst.cutAfter (c : Int) (M : Mst) : Mst := if M.pw.dark = true then M else { M with pw := ⟨some c, false⟩ }
def spMirCut (K : PySem.W.Frag) (CM CS CD : Addr) : Sp := fun vs H Q _ => ∃ (R : Hp) (mo a : Addr) (M : Mst) (F : List Addr) (A : List (Int × Addr)) (c : Int), vs = [.ref mo, .int c] ∧ Same R H ∧ MirOk K CM CS CD R H mo a M F A ∧
  ∀ H', Gr F R H R H' → MirOk K CM CS CD R H' mo a (M.cutAfter c) F A → Q .non H'
section
variable {P : Program} {w : World} {K : PySem.W.Frag} {mg : Str → Option Value} {base : Heap}
theorem ok_Mirror_cut_after (T : Txt P K mg) : FnOk P w K mg base CX0 1 T.f_Mirror_cut_after T.fd_Mirror_cut_after ["self", "count"] (spMirCut K T.C_Mirror T.C_Side T.C_Device) := by
  have cl_Mirror := T.cl_Mirror
  have a_Mirror_dark := T.a_Mirror_dark
  have a_Mirror_fuse := T.a_Mirror_fuse
  refine T.F_Mirror_cut_after.ok sc_Mirror_cut_after (fun vs H Q E h => ?_) (fun cdv A outer s H vs Q E hr h => ?_)
  · obtain ⟨R, mo, a, M, F, A, c, rfl, sR, ⟨sd, gd, fa, es, gs, rfl, h, e1, e2, eA⟩, hq⟩ := h
    rfl
  · obtain ⟨R, mo, a, M, F, A, c, rfl, sR, ⟨sd, gd, fa, es, gs, rfl, h, e1, e2, eA⟩, hq⟩ := h
    refine ⟨_, (pss_one (ps_if (pt_not (pt_truthK (K := K) (pe_fldK (K := K) (pv 0) rfl) (by intro _; rfl))) (pss_one (ps_fld (pv 0) (pv 1) rfl)) pss_nil)), ?_⟩
    try dsimp only [cxOf]
    obtain ⟨dx, hmo⟩ := h.obj
    have Rmo := h.non mo (by simp)
    unfold Mst.cutAfter at hq
    fail "go"
    refine ⟨_, rfl, ?_⟩
    cases hd : M.pw.dark with
    | true =>
      rw [if_pos hd] at hq
      fail "go"
      exact hq H (Gr.refl sR) ⟨sd, gd, fa, es, gs, rfl, h, e1, e2, eA⟩
    | false =>
      rw [if_neg (by rw [hd]; decide)] at hq
      rw [hd] at hmo
      fail "go"
      rename_i H1 g1 h1 s1
      exact hq H1 (g1.g.mono fun x hx => mem_foot.mpr (.inl (by rw [List.mem_singleton.mp hx]; simp))) ⟨sd, gd, fa, es, gs, rfl, h.fld g1.g ⟨dx, h1⟩ hd.symm h.fks, e1, e2, eA⟩
end
def spSealed (K : PySem.W.Frag) (C : Addr) : Sp := fun vs H Q _ => ∃ (R : Hp) (a : Addr) (v : V) (L : Lay) (n : Int) (b : Option Blk), vs = [.ref a, .int n, v] ∧ Same R H ∧ LayAt C R a L ∧ L.Ok ∧ Dp K R v (optD b) ∧ BlkOk b ∧ ∀ w R' H', Gr [] R H R' H' → Dp K R' w (cellD (sealOf L n b)) → Q w H'
section
variable {P : Program} {w : World} {K : PySem.W.Frag} {mg : Str → Option Value} {base : Heap}
theorem ok_sealed (T : Txt P K mg) : FnOk P w K mg base CX0 6 T.f_sealed T.fd_sealed ["layout", "address", "block"] (spSealed K T.C_Layout) := by
  have G_check_of := ok_check_of (P := P) (w := w) (base := base) T
  refine T.F_sealed.ok sc_sealed (fun vs H Q E h => ?_) (fun cdv A outer s H vs Q E hr h => ?_)
  · obtain ⟨R, a, v, L, n, b, rfl, sR, ha, hL, hv, hb, hq⟩ := h
    rfl
  · obtain ⟨R, a, v, L, n, b, rfl, sR, ha, hL, hv, hb, hq⟩ := h
    refine ⟨_, (pss_cons (ps_if (pt_cmpR opIsU (pv 2) pe_non (nomark _)) (pss_one (ps_ret pe_non)) pss_nil)
      (pss_one (ps_ret (pe_tup (pa_cons (pv 2) (pa_cons (pe_call G_check_of (hr.mono (by decide)) rfl T.g_check_of T.F_check_of.kp T.b_check_of .nil pass0 (pa_cons (pv 0) (pa_cons (pv 1) (pa_cons (pv 2) pa_nil)))) pa_nil)))))), ?_⟩
    try dsimp only [cxOf]
    obtain ⟨rfl, rfl⟩ | ⟨c, t, rfl, rfl⟩ := optV hv
    · fail "go"
      exact hq _ _ _ (Gr.refl sR) .non
    · fail "go"
      refine ⟨a, .ref t, L, n, some c, rfl, ha.mono sR, hL, dp_mono sR hv, hb, fun H1 s1 => ?_⟩
      have s1R := sR.trans s1
      fail "go"
      refine ⟨by fail "sz", ?_⟩
      fail "newR"
      rename_i p H2 R2 f2 g2 h2 s2
      have gA : Gr [] R H R2 H2 := (Mu.ofSame sR s1).g.trans g2
      fail "go"
      exact hq _ _ _ gA (.tup (SqT.of h2) (.cons (dp_mono g2.rr hv) (.cons (.int _) .nil)))
end
def spCutAfter (K : PySem.W.Frag) (CD : Addr) : Sp := fun vs H Q _ => ∃ (dk : Bool) (R : Hp) (d a : Addr) (m : Rows) (ds : List Addr), vs = [.ref d, .int 0] ∧ Same R H ∧ DevOkD dk K CD R H d a m ds ∧ ∀ H', Gr ds R H R H' → DevOkD true K CD R H' d a m ds → Q .non H'
section
variable {P : Program} {w : World} {K : PySem.W.Frag} {mg : Str → Option Value} {base : Heap}
theorem ok_Device_cut_after (T : Txt P K mg) : FnOk P w K mg base CX0 1 T.f_Device_cut_after T.fd_Device_cut_after ["self", "count"] (spCutAfter K T.C_Device) := by
  have cl_Device := T.cl_Device
  have a_Device_dark := T.a_Device_dark
  have a_Device_fuse := T.a_Device_fuse
  refine T.F_Device_cut_after.ok sc_Device_cut_after (fun vs H Q E h => ?_) (fun cdv A outer s H vs Q E hr h => ?_)
  · obtain ⟨dk, R, d, a, m, ds, rfl, sR, ⟨l1, l2, l3, rfl, dv⟩, hq⟩ := h
    rfl
  · obtain ⟨dk, R, d, a, m, ds, rfl, sR, ⟨l1, l2, l3, rfl, dv⟩, hq⟩ := h
    refine ⟨_, (pss_one (ps_if (pt_not (pt_truthK (K := K) (pe_fldK (K := K) (pv 0) rfl) (by intro _; rfl))) (pss_one (ps_fld (pv 0) (pv 1) rfl)) pss_nil)), ?_⟩
    try dsimp only [cxOf]
    obtain ⟨⟨dx, f, b, hd, pw⟩, nd, non, u1, u2, u3, h1, h2, h3, d1, d2, d3⟩ := dv
    obtain ⟨e01, e02, e03, e12, e13, e23⟩ := nod4 nd
    have R0 := non d (by simp)
    cases b with
    | true =>
      fail "go"
      refine ⟨_, rfl, ?_⟩
      fail "go"
      have pw' : Pw true f true := by
        cases dk with
        | true => exact pw
        | false => exact absurd pw.2 (by decide)
      exact hq H (Gr.refl sR) ⟨l1, l2, l3, rfl, ⟨⟨dx, f, true, hd, pw'⟩, nd, non, u1, u2, u3, h1, h2, h3, d1, d2, d3⟩⟩
    | false =>
      fail "go"
      refine ⟨_, rfl, ?_⟩
      fail "go"
      rename_i H1 g1 h1' s1
      exact hq H1 (g1.g.mono (by simp)) ⟨l1, l2, l3, rfl, ⟨⟨dx, _, false, h1', rfl⟩, nd, non, u1, u2, u3, g1.g.hh _ _ (nin1 e01.symm) h1, g1.g.hh _ _ (nin1 e02.symm) h2, g1.g.hh _ _ (nin1 e03.symm) h3, d1, d2, d3⟩⟩
end
def spTick (K : PySem.W.Frag) (CM CS CD : Addr) : Sp := fun vs H Q _ => ∃ (R : Hp) (mo a : Addr) (M : Mst) (F : List Addr) (A : List (Int × Addr)), vs = [.ref mo] ∧ Same R H ∧ MirOk K CM CS CD R H mo a M F A ∧
  ∀ H', Gr F R H R H' → MirOk K CM CS CD R H' mo a M.tick F A → Q .non H'
def CutInv (K : PySem.W.Frag) (CM CS CD : Addr) (R H0 : Hp) (mo a sd gd fa lp : Addr) (es gs : List Ent) (gen f : Int) (i : Nat) (σ : St) (H : Hp) : Prop := ∃ x : Option V, σ = [some (.ref mo), x] ∧ Mu (foot [mo, sd, gd] (es ++ gs)) R H0 H ∧
  (∃ dx, H mo = some (.ins CM dx [("layout", .ref a), ("sides", .ref sd), ("guests", .ref gd), ("generation", .int gen), ("forks", .ref fa), ("fuse", .int f), ("dark", .bl true)])) ∧ H sd = some (.dK (es.map Ent.kv)) ∧ H gd = some (.dK (gs.map Ent.kv)) ∧
  H lp = some (.lst ((es ++ gs).map fun e => V.ref e.s)) ∧ ∀ j e, (es ++ gs)[j]? = some e → SideOkD (decide (j < i)) K CS CD R H e.s a e.z e.m e.ms
theorem pair_dj {own : List Addr} {es : List Ent} (h : Apart own es) {i j : Nat} {e f : Ent} (he : es[i]? = some e) (hf : es[j]? = some f) (ne : i ≠ j) : Dj e.ms f.ms := by
  obtain ⟨hi, rfl⟩ := List.getElem?_eq_some_iff.mp he
  obtain ⟨hj, rfl⟩ := List.getElem?_eq_some_iff.mp hf
  have hp := h.2
  rw [List.pairwise_iff_getElem] at hp
  rcases Nat.lt_trichotomy i j with l | l | l
  · exact hp i j hi hj l
  · exact absurd l ne
  · exact (hp j i hj hi l).symm
section
variable {P : Program} {w : World} {K : PySem.W.Frag} {mg : Str → Option Value} {base : Heap}
theorem ok_Mirror_count_command (T : Txt P K mg) : FnOk P w K mg base CX0 2 T.f_Mirror_count_command T.fd_Mirror_count_command ["self"] (spTick K T.C_Mirror T.C_Side T.C_Device) := by
  have cl_Mirror := T.cl_Mirror
  have cl_Side := T.cl_Side
  have a_Mirror_dark := T.a_Mirror_dark
  have a_Mirror_fuse := T.a_Mirror_fuse
  have a_Mirror_sides := T.a_Mirror_sides
  have a_Mirror_guests := T.a_Mirror_guests
  have a_Side_device := T.a_Side_device
  have G_Device_cut_after := ok_Device_cut_after (P := P) (w := w) (base := base) T
  refine T.F_Mirror_count_command.ok sc_Mirror_count_command (fun vs H Q E h => ?_) (fun cdv A outer s H vs Q E hr h => ?_)
  · obtain ⟨R, mo, a, M, F, A, rfl, sR, ⟨sd, gd, fa, es, gs, rfl, h, e1, e2, eA⟩, hq⟩ := h
    rfl
  · obtain ⟨R, mo, a, M, F, A, rfl, sR, ⟨sd, gd, fa, es, gs, rfl, h, e1, e2, eA⟩, hq⟩ := h
    refine ⟨_, (pss_cons (ps_if (PW.pt (pw_or (pt_cmpR opIsU (pe_fldK (K := K) (pv 0) rfl) pe_non (nomark _)) (pw_or1 (pt_truthK (K := K) (pe_fldK (K := K) (pv 0) rfl) (by intro _; rfl))))) (pss_one ps_retN) pss_nil)
      (pss_cons (ps_if (pt_cmpR op_gt (pe_fldK (K := K) (pv 0) rfl) pe_int (nomark _)) (pss_cons (ps_fld (pv 0) (pe_op opSubU (pe_fldK (K := K) (pv 0) rfl) pe_int) rfl)
      (pss_one ps_retN)) pss_nil)
      (pss_cons (ps_fld (pv 0) pe_bl rfl)
      (pss_one (ps_for PassesOwn.never rfl (pi_listK (K := K) (pe_op (opAddU (K := K)) (pe_listV rfl (pe_fldK (K := K) (pv 0) rfl) (by rfl) T.n_list (by decide +kernel)) (pe_listV rfl (pe_fldK (K := K) (pv 0) rfl) (by rfl) T.n_list (by decide +kernel)))) (pg_name (i := 1) sc_Mirror_count_command.nd rfl (by first | exact Or.inl rfl | exact Or.inr rfl)) (pss_one (ps_expr (pe_meth (pe_fldK (K := K) (pv 1) rfl) T.cl_Device T.m_Device_cut_after G_Device_cut_after (hr.mono (by decide)) T.b_Device_cut_after .nil pass0 (pa_cons pe_int pa_nil))))))))), ?_⟩
    try dsimp only [cxOf]
    obtain ⟨dx, hmo⟩ := h.obj
    have Rmo := h.non mo (by simp)
    have hMo : mo ∈ foot [mo, sd, gd] (es ++ gs) := mem_foot.mpr (.inl (by simp))
    obtain ⟨mes, mgs, mgen, mfk, ⟨fuse, dark⟩⟩ := M
    cases fuse with
    | none =>
      have hmo : H mo = some (.ins T.C_Mirror dx [("layout", .ref a), ("sides", .ref sd), ("guests", .ref gd), ("generation", .int mgen), ("forks", .ref fa), ("fuse", .non), ("dark", .bl dark)]) := hmo
      fail "go"
      exact hq H (Gr.refl sR) ⟨sd, gd, fa, es, gs, rfl, h, e1, e2, eA⟩
    | some f =>
      cases dark with
      | true =>
        have hmo : H mo = some (.ins T.C_Mirror dx [("layout", .ref a), ("sides", .ref sd), ("guests", .ref gd), ("generation", .int mgen), ("forks", .ref fa), ("fuse", .int f), ("dark", .bl true)]) := hmo
        fail "go"
        refine ⟨_, rfl, ?_⟩
        fail "go"
        exact hq H (Gr.refl sR) ⟨sd, gd, fa, es, gs, rfl, h, e1, e2, eA⟩
      | false =>
        have hmo : H mo = some (.ins T.C_Mirror dx [("layout", .ref a), ("sides", .ref sd), ("guests", .ref gd), ("generation", .int mgen), ("forks", .ref fa), ("fuse", .int f), ("dark", .bl false)]) := hmo
        fail "go"
        refine ⟨_, rfl, ?_⟩
        fail "go"
        refine g_ite (fun e => ?_) (fun e => ?_)
        · fail "go"
          rename_i H1 g1 h1 s1
          have et : Mst.tick ⟨mes, mgs, mgen, mfk, ⟨some f, false⟩⟩ = ⟨mes, mgs, mgen, mfk, ⟨some (f - 1), false⟩⟩ := by unfold Mst.tick Pow.tick; simp [e]
          rw [et] at hq
          exact hq H1 (g1.g.mono fun x hx => by rw [List.mem_singleton.mp hx]; exact hMo) ⟨sd, gd, fa, es, gs, rfl, h.fld g1.g ⟨dx, h1⟩ rfl h.fks, e1, e2, eA⟩
        · have et : Mst.tick ⟨mes, mgs, mgen, mfk, ⟨some f, false⟩⟩ = ⟨mes, mgs, mgen, mfk, ⟨some f, true⟩⟩ := by unfold Mst.tick Pow.tick; simp [e]
          rw [et] at hq
          have hsd := h.hsd
          have hgd := h.hgd
          obtain ⟨o1, o2⟩ := List.nodup_cons.mp h.own
          simp only [List.mem_cons, List.not_mem_nil, or_false, not_or] at o1
          fail "go"
          rename_i H1 g1 h1 s1
          have hsd1 := g1.g.hh _ _ (nin1 (Ne.symm o1.1)) hsd
          have hgd1 := g1.g.hh _ _ (nin1 (Ne.symm o1.2)) hgd
          have so1 : ∀ e ∈ es ++ gs, SideOkD false K T.C_Side T.C_Device R H1 e.s a e.z e.m e.ms := fun e he => (h.sides e he).frame g1.g fun x hx hx' => h.apart.1 e he mo (by simp) (by rw [← List.mem_singleton.mp hx']; exact hx)
          have gA : Mu (foot [mo, sd, gd] (es ++ gs)) R H H1 := ⟨g1.g.mono fun x hx => by rw [List.mem_singleton.mp hx]; exact hMo⟩
          clear hsd hgd hmo g1 sR
          have few := h.few
          rw [List.length_append] at few
          refine g_rListV hsd1 ?_
          rw [kv_vals]
          fail "newM"
          rename_i q1 H2 n2 g2 m2 h2 s2
          have hsd2 := g2.g.same _ _ hsd1
          have hgd2 := g2.g.same _ _ hgd1
          have h12 := g2.g.same _ _ h1
          have so2 : ∀ e ∈ es ++ gs, SideOkD false K T.C_Side T.C_Device R H2 e.s a e.z e.m e.ms := fun e he => (so1 e he).frame g2.g fun x hx => List.not_mem_nil
          have gB : Mu (foot [mo, sd, gd] (es ++ gs)) R H H2 := ⟨gA.g.trans g2.g.nil⟩
          clear hsd1 hgd1 h1 so1 gA g2 s1
          fail "go"
          refine g_rListV hgd2 ?_
          rw [kv_vals]
          fail "newM"
          rename_i q2 H3 n3 g3 m3 h3 s3
          have hsd3 := g3.g.same _ _ hsd2
          have hgd3 := g3.g.same _ _ hgd2
          have h13 := g3.g.same _ _ h12
          have h23 := g3.g.same _ _ h2
          have so3 : ∀ e ∈ es ++ gs, SideOkD false K T.C_Side T.C_Device R H3 e.s a e.z e.m e.ms := fun e he => (so2 e he).frame g3.g fun x hx => List.not_mem_nil
          have gC : Mu (foot [mo, sd, gd] (es ++ gs)) R H H3 := ⟨gB.g.trans g3.g.nil⟩
          clear hsd2 hgd2 h12 h2 so2 gB g3 s2
          refine g_cat h23 h3 (by rw [List.length_map, List.length_map]; fail "sz") ?_
          rw [← List.map_append]
          fail "newM"
          rename_i lp H4 n4 g4 m4 h4 s4
          have hsd4 := g4.g.same _ _ hsd3
          have hgd4 := g4.g.same _ _ hgd3
          have h14 := g4.g.same _ _ h13
          have so4 : ∀ e ∈ es ++ gs, SideOkD false K T.C_Side T.C_Device R H4 e.s a e.z e.m e.ms := fun e he => (so3 e he).frame g4.g fun x hx => List.not_mem_nil
          have nlp : ∀ e ∈ es ++ gs, lp ∉ e.ms := fun e he hx => by obtain ⟨o, ho⟩ := (so3 e he).has lp hx; rw [show H3 lp = none from n4] at ho; cases ho
          have flp : H lp = none := gC.g.free n4
          have gD : Mu (foot [mo, sd, gd] (es ++ gs)) R H H4 := ⟨gC.g.trans g4.g.nil⟩
          clear hsd3 hgd3 h13 h3 h23 so3 gC g4 s3
          fail "go"
          refine g_LsW (SqL.of h4) ?_
          refine for_list (K := K) (xs := (es ++ gs).map fun e => V.ref e.s) (CutInv K T.C_Mirror T.C_Side T.C_Device R H mo a sd gd fa lp es gs mgen f) ⟨none, rfl, gD, ⟨dx, h14⟩, hsd4, hgd4, h4, fun j e he => by rw [decide_eq_false (by omega)]; exact so4 e (List.mem_of_getElem? he)⟩ (fun i σ HX _ ⟨_, _, _, _, _, _, hl, _⟩ => SqL.of hl) ?_ ?_
          · clear hsd4 hgd4 h14 h4 so4 gD s4
            rintro i x σ H5 hi ⟨x0, rfl, g5, ⟨dx5, ho5⟩, hsd5, hgd5, hl5, so5⟩
            rw [List.getElem?_map] at hi
            obtain ⟨e, he, rfl⟩ := Option.map_eq_some_iff.mp hi
            have hem := List.mem_of_getElem? he
            have s5 := g5.g.rh
            have soE := so5 i e he
            rw [decide_eq_false (Nat.lt_irrefl i)] at soE
            obtain ⟨d, ds, ems, ⟨⟨sx, hs⟩, nin, non, dev⟩⟩ := soE
            obtain ⟨ddx, k1, k2, k3, ff, bb, hd⟩ := dev.ins
            fail "go"
            refine ⟨false, R, d, a, e.m, ds, rfl, s5, dev, fun H6 g6 dev6 => ?_⟩
            have dsub : ∀ x ∈ ds, x ∈ e.ms := fun x hx => by rw [ems]; exact List.mem_cons_of_mem _ hx
            have own0 := h.apart.1 e hem
            have hn : ∀ x ∈ [mo, sd, gd], x ∉ ds := fun x hx hx' => own0 x hx (dsub x hx')
            fail "go"
            refine ⟨_, rfl, ⟨g5.g.trans (g6.mono fun x hx => mem_foot.mpr (.inr ⟨e, hem, dsub x hx⟩))⟩, ⟨dx5, g6.hh _ _ (hn _ (by simp)) ho5⟩, g6.hh _ _ (hn _ (by simp)) hsd5, g6.hh _ _ (hn _ (by simp)) hgd5, g6.hh _ _ (fun hx => nlp e hem (dsub _ hx)) hl5, fun j f hf => ?_⟩
            by_cases ij : j = i
            · subst ij
              rw [he] at hf
              cases hf
              rw [decide_eq_true (Nat.lt_succ_self j)]
              exact ⟨d, ds, ems, ⟨⟨sx, g6.hh _ _ nin hs⟩, nin, non, dev6⟩⟩
            · have := (so5 j f hf).frame g6 fun x hx hx' => pair_dj h.apart hf he ij x hx (dsub x hx')
              rw [show decide (j < i + 1) = decide (j < i) by simp; omega]
              exact this
          · clear hsd4 hgd4 h14 h4 so4 gD s4
            rintro σ H5 ⟨x0, rfl, g5, ho5, hsd5, hgd5, hl5, so5⟩
            fail "go"
            refine hq H5 g5.g ⟨sd, gd, fa, es, gs, rfl, ⟨ho5, hsd5, hgd5, h.own, h.non, h.fks, fun e he => ?_, h.apart, h.keys, h.few⟩, e1, e2, eA⟩
            obtain ⟨j, hj⟩ := List.getElem?_of_mem he
            have := so5 j e hj
            rw [decide_eq_true (by rw [List.length_map]; exact (List.getElem?_eq_some_iff.mp hj).1)] at this
            exact this
end
def spCount (C : Addr) : Sp := fun vs H Q _ => ∃ (dk : Bool) (R : Hp) (d a l1 l2 l3 : Addr), vs = [.ref d] ∧ Same R H ∧ R d = none ∧ DevAtD dk C H d a l1 l2 l3 ∧ ∀ H', Gr [d] R H R H' →
  (∃ dx f, H' d = some (.ins C dx [("layout", .ref a), ("sure", .ref l1), ("seen", .ref l2), ("waiting", .ref l3), ("fuse", f), ("dark", .bl dk)]) ∧ Pw dk f dk) → Q .non H'
section
variable {P : Program} {w : World} {K : PySem.W.Frag} {mg : Str → Option Value} {base : Heap}
theorem ok_Device__count_command (T : Txt P K mg) : FnOk P w K mg base CX0 1 T.f_Device__count_command T.fd_Device__count_command ["self"] (spCount T.C_Device) := by
  have cl_Device := T.cl_Device
  have a_Device_dark := T.a_Device_dark
  have a_Device_fuse := T.a_Device_fuse
  refine T.F_Device__count_command.ok sc_Device__count_command (fun vs H Q E h => ?_) (fun cdv A outer s H vs Q E hr h => ?_)
  · obtain ⟨dk, R, d, a, l1, l2, l3, rfl, sR, Rd, ⟨dx, f, b, hd, pw⟩, hq⟩ := h
    rfl
  · obtain ⟨dk, R, d, a, l1, l2, l3, rfl, sR, Rd, ⟨dx, f, b, hd, pw⟩, hq⟩ := h
    refine ⟨_, (pss_cons (ps_if (PW.pt (pw_or (pt_cmpR opIsU (pe_fldK (K := K) (pv 0) rfl) pe_non (nomark _)) (pw_or1 (pt_truthK (K := K) (pe_fldK (K := K) (pv 0) rfl) (by intro _; rfl))))) (pss_one ps_retN) pss_nil)
      (pss_one (ps_if (pt_cmpR (opEqU (K := K) hr.units) (pe_fldK (K := K) (pv 0) rfl) pe_int (nomark _)) (pss_one (ps_fld (pv 0) pe_bl rfl)) (pss_one (ps_fld (pv 0) (pe_op opSubU (pe_fldK (K := K) (pv 0) rfl) pe_int) rfl))))), ?_⟩
    try dsimp only [cxOf]
    cases dk with
    | false =>
      obtain ⟨rfl, rfl⟩ := pw
      fail "go"
      exact hq _ (Gr.refl sR) ⟨dx, _, hd, rfl, rfl⟩
    | true =>
      obtain rfl : f = .int 0 := pw
      cases b with
      | true =>
        fail "go"
        refine ⟨_, rfl, ?_⟩
        fail "go"
        exact hq _ (Gr.refl sR) ⟨dx, _, hd, rfl⟩
      | false =>
        fail "go"
        refine ⟨_, rfl, ?_⟩
        fail "go"
        rename_i H1 g1 h1 s1
        exact hq _ g1.g ⟨dx, _, h1, rfl⟩
end
def spDevWrite (K : PySem.W.Frag) (CD : Addr) : Sp := fun vs H Q _ => ∃ (dk : Bool) (R : Hp) (d a : Addr) (m : Rows) (ds : List Addr) (v : V) (n : Nat) (c : Cell), vs = [.ref d, .int (n : Int), v] ∧ Same R H ∧ DevOkD dk K CD R H d a m ds ∧ n < m.seen.length ∧ m.wait.length ≤ 100000 ∧ Dp K R v (cellD c) ∧
  ∀ R' H', Gr ds R H R' H' → DevOkD dk K CD R' H' d a (m.putD dk n c) ds → Q .non H'
section
variable {P : Program} {w : World} {K : PySem.W.Frag} {mg : Str → Option Value} {base : Heap}
theorem ok_Device_write (T : Txt P K mg) : FnOk P w K mg base CX0 2 T.f_Device_write T.fd_Device_write ["self", "address", "block"] (spDevWrite K T.C_Device) := by
  have cl_Device := T.cl_Device
  have a_Device_seen := T.a_Device_seen
  have a_Device_dark := T.a_Device_dark
  have a_Device_waiting := T.a_Device_waiting
  have G_Device__count_command := ok_Device__count_command (P := P) (w := w) (base := base) T
  refine T.F_Device_write.ok sc_Device_write (fun vs H Q E h => ?_) (fun cdv A outer s H vs Q E hr h => ?_)
  · obtain ⟨dk, R, d, a, m, ds, v, n, c, rfl, sR, ⟨l1, l2, l3, rfl, dv⟩, hn, hw, dc, hq⟩ := h
    rfl
  · obtain ⟨dk, R, d, a, m, ds, v, n, c, rfl, sR, ⟨l1, l2, l3, rfl, dv⟩, hn, hw, dc, hq⟩ := h
    refine ⟨_, (pss_cons (ps_expr (pe_meth0 (pv 0) T.cl_Device T.m_Device__count_command G_Device__count_command (hr.mono (by decide)) T.b_Device__count_command .nil pass0))
      (pss_cons (ps_asg (pv 2) (pg_sub (pe_fldK (K := K) (pv 0) rfl) (pv 1) set_list))
      (pss_one (ps_if (pt_not (pt_truthK (K := K) (pe_fldK (K := K) (pv 0) rfl) (by intro _; rfl))) (pss_one (ps_expr (pe_bm PySem.F.plainAttrs_list PySem.F.slot_list_append PySem.F.type_list_append mt_append (pe_fldK (K := K) (pv 0) rfl) (pa_cons (pe_tup (pa_cons (pv 1) (pa_cons (pv 2) pa_nil))) pa_nil)))) pss_nil)))), ?_⟩
    try dsimp only [cxOf]
    have has := dv.has
    obtain ⟨hdv, nd, non, u1, u2, u3, h1, h2, h3, d1, d2, d3⟩ := dv
    obtain ⟨e01, e02, e03, e12, e13, e23⟩ := nod4 nd
    have R0 := non d (by simp)
    have R2 := non l2 (by simp)
    have R3 := non l3 (by simp)
    have ul2 : u2.length = m.seen.length := by have := dpAll_len d2; simpa using this
    have ul3 : u3.length = m.wait.length := by have := dpAll_len d3; simpa using this
    have sz3 : u3.length < sizeLine := by have := sizeLine_eq; omega
    obtain ⟨dx0, f0, b0, hd0, _⟩ := id hdv
    fail "go"
    refine ⟨dk, R, d, a, l1, l2, l3, rfl, sR, R0, hdv, ?_⟩
    rintro H0 g0 ⟨dx, f, hd, pw⟩
    have h10 := g0.hh _ _ (nin1 e01.symm) h1
    have h20 := g0.hh _ _ (nin1 e02.symm) h2
    have h30 := g0.hh _ _ (nin1 e03.symm) h3
    have g0' : Mu [d] R H H0 := ⟨g0⟩
    have s0 := g0.rh
    clear h1 h2 h3 hd0 hdv g0 sR
    fail "go"
    refine g_setL (j := n) h20 (ixN_nat (by omega)) ?_
    fail "mut"
    rename_i H1 g1 h12 s1
    have hd1 := g1.g.hh _ _ (nin1 e02) hd
    have h31 := g1.g.hh _ _ (nin1 e23.symm) h30
    have h11 := g1.g.hh _ _ (nin1 e12) h10
    have gX : Mu [d, l2] R H H1 := ⟨(g0'.g.mono (by simp)).trans (g1.g.mono (by simp))⟩
    clear hd h10 h20 h30 g1 g0' s0
    cases dk with
    | true =>
      fail "go"
      refine ⟨_, rfl, ?_⟩
      fail "go"
      have gB : Gr [d, l1, l2, l3] R H R H1 := gX.g.mono (by simp)
      refine hq R H1 gB ⟨l1, l2, l3, rfl, ⟨⟨dx, f, true, hd1, pw⟩, nd, non, u1, u2.set n v, u3, h11, h12, h31, d1, ?_, d3⟩⟩
      show DpAll K R _ ((m.seen.set n c).map cellD)
      rw [List.map_set]
      exact dpAll_set n d2 dc
    | false =>
      fail "go"
      refine ⟨_, rfl, ?_⟩
      fail "go"
      refine ⟨by fail "sz", ?_⟩
      fail "newR"
      rename_i p H2 R' f2 g2 h2' s2
      have h32 := g2.same _ _ h31
      have h22 := g2.same _ _ h12
      have hd2 := g2.same _ _ hd1
      have h13 := g2.same _ _ h11
      have gA : Gr [d, l2] R H R' H2 := gX.g.trans g2.nil
      have R3' : R' l3 = none := gA.fr _ _ (has l3 (by simp)).choose_spec R3
      have d1' := dpAll_mono g2.rr d1
      have d2' := dpAll_mono g2.rr d2
      have d3' := dpAll_mono g2.rr d3
      have dc' := dp_mono g2.rr dc
      clear gX g2 h12 h31 hd1 h11 s1 d1 d2 d3 dc
      fail "go"
      rename_i H3 g3 h3' s3
      have gB : Gr [d, l1, l2, l3] R H R' H3 := (gA.mono (by simp)).trans (g3.g.mono (by simp))
      refine hq R' H3 gB ⟨l1, l2, l3, rfl, ⟨⟨dx, f, false, g3.g.hh _ _ (nin1 e03) hd2, pw⟩, nd, non_of has non gB, u1, u2.set n v, u3 ++ [.ref p], g3.g.hh _ _ (nin1 e13) h13, g3.g.hh _ _ (nin1 e23) h22, h3', d1', ?_, ?_⟩⟩
      · show DpAll K R' _ ((m.seen.set n c).map cellD)
        rw [List.map_set]
        exact dpAll_set n d2' dc'
      · show DpAll K R' _ ((m.wait ++ [(n, c)]).map wtD)
        rw [List.map_append]
        exact dpAll_app d3' (.cons (.tup (SqT.of h2') (.cons (.int _) (.cons dc' .nil))) .nil)
end
def spSideWrite (K : PySem.W.Frag) (CL CS CD : Addr) : Sp := fun vs H Q _ => ∃ (dk : Bool) (R : Hp) (s a : Addr) (L : Lay) (z : Int) (m : Rows) (ms : List Addr) (v : V) (n : Nat) (b : Option Blk), vs = [.ref s, .int (n : Int), v] ∧ Same R H ∧ LayAt CL R a L ∧ L.Ok ∧ SideOkD dk K CS CD R H s a z m ms ∧ n < m.seen.length ∧ m.wait.length ≤ 100000 ∧ Dp K R v (optD b) ∧ BlkOk b ∧
  ∀ R' H', Gr ms R H R' H' → SideOkD dk K CS CD R' H' s a z (m.putD dk n (sealOf L n b)) ms → Q .non H'
section
variable {P : Program} {w : World} {K : PySem.W.Frag} {mg : Str → Option Value} {base : Heap}
theorem ok_Side_write (T : Txt P K mg) : FnOk P w K mg base CX0 7 T.f_Side_write T.fd_Side_write ["self", "address", "block"] (spSideWrite K T.C_Layout T.C_Side T.C_Device) := by
  have cl_Side := T.cl_Side
  have a_Side_device := T.a_Side_device
  have a_Side_layout := T.a_Side_layout
  have G_Device_write := ok_Device_write (P := P) (w := w) (base := base) T
  have G_sealed := ok_sealed (P := P) (w := w) (base := base) T
  refine T.F_Side_write.ok sc_Side_write (fun vs H Q E h => ?_) (fun cdv A outer s H vs Q E hr h => ?_)
  · obtain ⟨dk, R, s, a, L, z, m, ms, v, n, b, rfl, sR, ha, hL, hso, hn, hw, dv, okb, hq⟩ := h
    rfl
  · obtain ⟨dk, R, s, a, L, z, m, ms, v, n, b, rfl, sR, ha, hL, hso, hn, hw, dv, okb, hq⟩ := h
    refine ⟨_, (pss_one (ps_expr (pe_meth (pe_fldK (K := K) (pv 0) rfl) T.cl_Device T.m_Device_write G_Device_write (hr.mono (by decide)) T.b_Device_write .nil pass0 (pa_cons (pv 1) (pa_cons (pe_call G_sealed (hr.mono (by decide)) rfl T.g_sealed T.F_sealed.kp T.b_sealed .nil pass0 (pa_cons (pe_fldK (K := K) (pv 0) rfl) (pa_cons (pv 1) (pa_cons (pv 2) pa_nil)))) pa_nil))))), ?_⟩
    try dsimp only [cxOf]
    obtain ⟨d, ds, rfl, ⟨⟨sx, hs⟩, nin, non, dev⟩⟩ := hso
    obtain ⟨dx, k1, k2, k3, ff, bb, hd0⟩ := dev.ins
    fail "go"
    refine ⟨R, a, v, L, n, b, rfl, sR, ha, hL, dv, okb, fun c R1 H1 g1 dc => ?_⟩
    have hs1 := g1.same _ _ hs
    have s1 := g1.rh
    have dev1 := dev.frame g1 (fun _ _ => List.not_mem_nil)
    have gA : Gr (s :: ds) R H R1 H1 := g1.nil
    have ha1 := ha.mono g1.rr
    have s1n := g1.fr _ _ hs non
    clear g1 hs dev sR
    fail "go"
    refine ⟨dk, R1, d, a, m, ds, c, n, _, rfl, s1, dev1, hn, hw, dc, fun R2 H2 g2 d2 => ?_⟩
    have sds : ∀ x ∈ ds, x ∈ s :: ds := fun x hx => List.mem_cons_of_mem _ hx
    have hs2 := g2.hh _ _ nin hs1
    have s2n := g2.fr _ _ hs1 s1n
    fail "go"
    exact hq R2 H2 (gA.trans (g2.mono sds)) ⟨d, ds, rfl, ⟨⟨sx, hs2⟩, nin, s2n, d2⟩⟩
end
def spDevBar (K : PySem.W.Frag) (CD : Addr) : Sp := fun vs H Q _ => ∃ (dk : Bool) (R : Hp) (d a : Addr) (m : Rows) (ds : List Addr), vs = [.ref d] ∧ Same R H ∧ DevOkD dk K CD R H d a m ds ∧ (∀ q ∈ m.wait, q.1 < m.sure.length) ∧
  ∀ H' ds', Gr ds R H R H' → Nw H ds ds' → DevOkD dk K CD R H' d a (m.barD dk) ds' → Q .non H'
def BarInv (K : PySem.W.Frag) (R H : Hp) (d l1 : Addr) (m : Rows) (i : Nat) (σ : St) (H' : Hp) : Prop := ∃ (x y : Option V) (v1 : List V), σ = [some (.ref d), x, y] ∧ Mu [l1] R H H' ∧ H' l1 = some (.lst v1) ∧ DpAll K R v1 ((barL m.sure (m.wait.take i)).map cellD)
section
variable {P : Program} {w : World} {K : PySem.W.Frag} {mg : Str → Option Value} {base : Heap}
theorem ok_Device_barrier (T : Txt P K mg) : FnOk P w K mg base CX0 2 T.f_Device_barrier T.fd_Device_barrier ["self"] (spDevBar K T.C_Device) := by
  have cl_Device := T.cl_Device
  have a_Device_dark := T.a_Device_dark
  have a_Device_waiting := T.a_Device_waiting
  have a_Device_sure := T.a_Device_sure
  have G_Device__count_command := ok_Device__count_command (P := P) (w := w) (base := base) T
  refine T.F_Device_barrier.ok sc_Device_barrier (fun vs H Q E h => ?_) (fun cdv A outer s H vs Q E hr h => ?_)
  · obtain ⟨dk, R, d, a, m, ds, rfl, sR, ⟨l1, l2, l3, rfl, dv⟩, hw, hq⟩ := h
    rfl
  · obtain ⟨dk, R, d, a, m, ds, rfl, sR, ⟨l1, l2, l3, rfl, dv⟩, hw, hq⟩ := h
    refine ⟨_, (pss_cons (ps_expr (pe_meth0 (pv 0) T.cl_Device T.m_Device__count_command G_Device__count_command (hr.mono (by decide)) T.b_Device__count_command .nil pass0))
      (pss_one (ps_if (pt_not (pt_truthK (K := K) (pe_fldK (K := K) (pv 0) rfl) (by intro _; rfl))) (pss_cons (ps_for PassesOwn.never rfl (pi_listK (K := K) (pe_fldK (K := K) (pv 0) rfl)) (pg_tupK (K := K) rfl (pgs_cons (pg_name (i := 1) sc_Device_barrier.nd rfl (by first | exact Or.inl rfl | exact Or.inr rfl)) (pgs_cons (pg_name (i := 2) sc_Device_barrier.nd rfl (by first | exact Or.inl rfl | exact Or.inr rfl)) pgs_nil))) (pss_one (ps_asg (pv 2) (pg_sub (pe_fldK (K := K) (pv 0) rfl) (pv 1) set_list))))
      (pss_one (ps_fld (pv 0) (pe_lst pa_nil) rfl))) pss_nil))), ?_⟩
    try dsimp only [cxOf]
    have has := dv.has
    obtain ⟨hdv, nd, non, u1, u2, u3, h1, h2, h3, d1, d2, d3⟩ := dv
    obtain ⟨e01, e02, e03, e12, e13, e23⟩ := nod4 nd
    have R0 := non d (by simp)
    have R1 := non l1 (by simp)
    have ul3 : u3.length = m.wait.length := by have := dpAll_len d3; simpa using this
    obtain ⟨dx0, f0, b0, hd0, _⟩ := id hdv
    fail "go"
    refine ⟨dk, R, d, a, l1, l2, l3, rfl, sR, R0, hdv, ?_⟩
    rintro H0 g0 ⟨dx, f, hd, pw⟩
    have h10 := g0.hh _ _ (nin1 e01.symm) h1
    have h20 := g0.hh _ _ (nin1 e02.symm) h2
    have h30 := g0.hh _ _ (nin1 e03.symm) h3
    have g0' : Mu [d] R H H0 := ⟨g0⟩
    have s0 := g0.rh
    clear h1 h2 h3 hd0 hdv g0 sR
    cases dk with
    | true =>
      fail "go"
      refine ⟨_, rfl, ?_⟩
      fail "go"
      exact hq H0 [d, l1, l2, l3] (g0'.g.mono (by simp)) Nw.refl ⟨l1, l2, l3, rfl, ⟨⟨dx, f, true, hd, pw⟩, nd, non, u1, u2, u3, h10, h20, h30, d1, d2, d3⟩⟩
    | false =>
      have k : ∀ (H3 : Hp) (ds' : List Addr), Gr [d, l1, l2, l3] R H0 R H3 → Nw H0 [d, l1, l2, l3] ds' → DevOkD false K T.C_Device R H3 d a m.bar ds' → Q .non H3 := fun H3 ds' g w dv => hq H3 ds' ((g0'.g.mono (by simp)).trans g) (fun x hx => (w x hx).imp id fun h => g0'.g.free h) dv
      clear hq g0'
      fail "go"
      refine ⟨_, rfl, ?_⟩
      fail "go"
      refine g_LsW (SqL.of h30) ?_
      refine for_list (K := K) (xs := u3) (BarInv K R H0 d l1 m) ⟨none, none, u1, rfl, ⟨Gr.refl s0⟩, h10, d1⟩ (fun i σ HX _ ⟨_, _, _, _, gX, _⟩ => SqL.of (gX.g.hh _ _ (nin1 e13.symm) h30)) ?_ ?_
      · rintro i x σ H1 hx ⟨x0, y0, v1, rfl, g1, h11, dv1⟩
        have hd1 := g1.g.hh _ _ (nin1 e01) hd
        have s1 := g1.g.rh
        obtain ⟨q, t, v, hqi, rfl, ht, dq⟩ := wt_get d3 hx
        have ht1 := sqT_mono s1 ht
        have vl : v1.length = m.sure.length := by have := dpAll_len dv1; rw [List.length_map, barL_len] at this; exact this
        have hq1 := hw q (List.mem_of_getElem? hqi)
        clear hd h10 h20 h30 s0
        fail "go"
        refine g_setL (j := q.1) h11 (ixN_nat (by omega)) ?_
        fail "mut"
        rename_i H2 g2 h12 s2
        refine ⟨_, _, _, rfl, ⟨g1.g.trans g2.g⟩, h12, ?_⟩
        rw [List.take_add_one, hqi]
        show DpAll K R _ ((barL m.sure (m.wait.take i ++ [q])).map cellD)
        rw [barL_snoc, List.map_set]
        exact dpAll_set _ dv1 dq
      · rintro σ H1 ⟨x0, y0, v1, rfl, g1, h11, dv1⟩
        have hd1 := g1.g.hh _ _ (nin1 e01) hd
        have h21 := g1.g.hh _ _ (nin1 e12.symm) h20
        have s1 := g1.g.rh
        clear hd h10 h20 h30 s0
        rw [ul3, List.take_length] at dv1
        fail "go"
        refine ⟨by fail "sz", ?_⟩
        fail "newM"
        rename_i p H2 n2 g2 m2 h2' s2
        have hd2 := g2.g.same _ _ hd1
        have h12 := g2.g.same _ _ h11
        have h22 := g2.g.same _ _ h21
        have pd := (ne_of_none hd1 n2)
        have p1 := (ne_of_none h11 n2)
        have p2 := (ne_of_none h21 n2)
        have pn : H0 p = none := g1.g.free n2
        have gA : Gr [d, l1, l2, l3] R H0 R H2 := (g1.g.mono (by simp)).trans g2.g.nil
        clear g1 g2 s1 hd1 h11 h21
        fail "go"
        rename_i H3 g3 h3' s3
        have gB : Gr [d, l1, l2, l3] R H0 R H3 := gA.trans (g3.g.mono (by simp))
        refine k H3 [d, l1, l2, p] gB (fun x hx => ?_) ⟨l1, l2, p, rfl, ⟨⟨dx, f, false, h3', pw⟩, mk_nod4 e01 e02 pd e12 p1 p2, fun x hx => ?_, v1, u2, [], g3.g.hh _ _ (nin1 e01.symm) h12, g3.g.hh _ _ (nin1 e02.symm) h22, g3.g.hh _ _ (nin1 pd.symm) h2', dv1, d2, .nil⟩⟩
        · simp only [List.mem_cons, List.not_mem_nil, or_false] at hx ⊢
          rcases hx with rfl | rfl | rfl | rfl
          · exact .inl (.inl rfl)
          · exact .inl (.inr (.inl rfl))
          · exact .inl (.inr (.inr (.inl rfl)))
          · exact .inr pn
        · simp only [List.mem_cons, List.not_mem_nil, or_false] at hx
          rcases hx with rfl | rfl | rfl | rfl
          · exact R0
          · exact R1
          · exact non _ (by simp)
          · exact m2
end
def spSideBar (K : PySem.W.Frag) (CS CD : Addr) : Sp := fun vs H Q _ => ∃ (dk : Bool) (R : Hp) (s a : Addr) (z : Int) (m : Rows) (ms : List Addr), vs = [.ref s] ∧ Same R H ∧ SideOkD dk K CS CD R H s a z m ms ∧ (∀ q ∈ m.wait, q.1 < m.sure.length) ∧
  ∀ H' ms', Gr ms R H R H' → Nw H ms ms' → SideOkD dk K CS CD R H' s a z (m.barD dk) ms' → Q .non H'
section
variable {P : Program} {w : World} {K : PySem.W.Frag} {mg : Str → Option Value} {base : Heap}
theorem ok_Side_barrier (T : Txt P K mg) : FnOk P w K mg base CX0 3 T.f_Side_barrier T.fd_Side_barrier ["self"] (spSideBar K T.C_Side T.C_Device) := by
  have cl_Side := T.cl_Side
  have a_Side_device := T.a_Side_device
  have G_Device_barrier := ok_Device_barrier (P := P) (w := w) (base := base) T
  refine T.F_Side_barrier.ok sc_Side_barrier (fun vs H Q E h => ?_) (fun cdv A outer s H vs Q E hr h => ?_)
  · obtain ⟨dk, R, s, a, z, m, ms, rfl, sR, hso, hw, hq⟩ := h
    rfl
  · obtain ⟨dk, R, s, a, z, m, ms, rfl, sR, hso, hw, hq⟩ := h
    refine ⟨_, (pss_one (ps_expr (pe_meth0 (pe_fldK (K := K) (pv 0) rfl) T.cl_Device T.m_Device_barrier G_Device_barrier (hr.mono (by decide)) T.b_Device_barrier .nil pass0))), ?_⟩
    try dsimp only [cxOf]
    obtain ⟨d, ds, rfl, ⟨⟨sx, hs⟩, nin, non, dev⟩⟩ := hso
    obtain ⟨dx, k1, k2, k3, ff, bb, hd0⟩ := dev.ins
    fail "go"
    refine ⟨dk, R, d, a, m, ds, rfl, sR, dev, hw, fun H' ds' g w d' => ?_⟩
    have hs' := g.hh _ _ nin hs
    fail "go"
    refine hq H' (s :: ds') (g.mono fun x hx => List.mem_cons_of_mem _ hx) (fun x hx => ?_) ⟨d, ds', rfl, ⟨⟨sx, hs'⟩, fun z => ?_, non, d'⟩⟩
    · rcases List.mem_cons.mp hx with rfl | hx
      · exact .inl List.mem_cons_self
      · rcases w x hx with h | h
        · exact .inl (List.mem_cons_of_mem _ h)
        · exact .inr h
    · rcases w s z with h | h
      · exact nin h
      · rw [hs] at h; cases h
end
def spCopyTo (K : PySem.W.Frag) (CL CM CS CD : Addr) : Sp := fun vs H Q _ => ∃ (R : Hp) (mo a s c : Addr) (us : List V) (z : Int) (L : Lay) (M : Mst) (F : List Addr) (A : List (Int × Addr)) (bs : List (Option Blk)) (k : Nat), vs = [.ref mo, .ref s, .ref c] ∧ Same R H ∧ LayAt CL R a L ∧ L.Ok ∧ (0 ≤ L.device ∧ L.device < 900) ∧ MirOk K CM CS CD R H mo a M F A ∧ MsW L k M ∧ k ≤ 80000 ∧ (z, s) ∈ A ∧ SqL K R c us ∧ DpAll K R us (bs.map optD) ∧ (bs.length : Int) = L.device ∧ (∀ b ∈ bs, ∀ x, b = some x → BW L x) ∧
  ∀ R' H' F', MirOk K CM CS CD R' H' mo a (M.copyTo L z bs) F' A → Step F F' R H R' H' → Q .non H'
def CpInv (K : PySem.W.Frag) (CM CS CD : Addr) (R0 H0 : Hp) (mo a s c : Addr) (z : Int) (L : Lay) (M : Mst) (F0 : List Addr) (A : List (Int × Addr)) (bs : List (Option Blk)) (k i : Nat) (σ : St) (H : Hp) : Prop := ∃ (x y : Option V) (R1 : Hp) (F1 : List Addr), σ = [some (.ref mo), some (.ref s), some (.ref c), x, y] ∧ MirOk K CM CS CD R1 H mo a (M.copies L z bs i) F1 A ∧ Step F0 F1 R0 H0 R1 H ∧ MsW L (k + i) (M.copies L z bs i)
theorem copies_succ (L : Lay) (z : Int) (bs : List (Option Blk)) (i : Nat) (M : Mst) : M.copies L z bs (i + 1) = Mst.copy1 L z bs (M.copies L z bs i) i := by
  unfold Mst.copies; rw [List.range_succ, List.foldl_append]; rfl
section
variable {P : Program} {w : World} {K : PySem.W.Frag} {mg : Str → Option Value} {base : Heap}
theorem ok_Mirror_copy_to (T : Txt P K mg) : FnOk P w K mg base CX0 8 T.f_Mirror_copy_to T.fd_Mirror_copy_to ["self", "side", "content"] (spCopyTo K T.C_Layout T.C_Mirror T.C_Side T.C_Device) := by
  have cl_Side := T.cl_Side
  have cl_Mirror := T.cl_Mirror
  have a_Side_device := T.a_Side_device
  have a_Mirror_layout := T.a_Mirror_layout
  have G_Device_read := ok_Device_read (P := P) (w := w) (base := base) T
  have G_sealed := ok_sealed (P := P) (w := w) (base := base) T
  have G_Mirror_count_command := ok_Mirror_count_command (P := P) (w := w) (base := base) T
  have G_Side_write := ok_Side_write (P := P) (w := w) (base := base) T
  have G_Side_barrier := ok_Side_barrier (P := P) (w := w) (base := base) T
  refine T.F_Mirror_copy_to.ok sc_Mirror_copy_to (fun vs H Q E h => ?_) (fun cdv A outer s H vs Q E hr h => ?_)
  · obtain ⟨R, mo, a, s, c, us, z, L, M, F, A, bs, k, rfl, sR, ⟨lx, haf⟩, hL, hdev, hm, mw, k9, hsA, hc, du, bl, hbs, hq⟩ := h
    rfl
  · obtain ⟨R, mo, a, s, c, us, z, L, M, F, A, bs, k, rfl, sR, ⟨lx, haf⟩, hL, hdev, hm, mw, k9, hsA, hc, du, bl, hbs, hq⟩ := h
    refine ⟨_, (pss_cons (ps_for PassesOwn.never rfl (pi_enum (by rfl) T.n_enumerate (pa_cons (pv 2) pa_nil)) (pg_tupK (K := K) rfl (pgs_cons (pg_name (i := 3) sc_Mirror_copy_to.nd rfl (by first | exact Or.inl rfl | exact Or.inr rfl)) (pgs_cons (pg_name (i := 4) sc_Mirror_copy_to.nd rfl (by first | exact Or.inl rfl | exact Or.inr rfl)) pgs_nil))) (pss_one (ps_if (pt_cmpR (opNeU (K := K) hr.units) (pe_meth (pe_fldK (K := K) (pv 1) rfl) T.cl_Device T.m_Device_read G_Device_read (hr.mono (by decide)) T.b_Device_read .nil pass0 (pa_cons (pv 3) pa_nil)) (pe_call G_sealed (hr.mono (by decide)) rfl T.g_sealed T.F_sealed.kp T.b_sealed .nil pass0 (pa_cons (pe_fldK (K := K) (pv 0) rfl) (pa_cons (pv 3) (pa_cons (pv 4) pa_nil)))) (nomark _)) (pss_cons (ps_expr (pe_meth0 (pv 0) T.cl_Mirror T.m_Mirror_count_command G_Mirror_count_command (hr.mono (by decide)) T.b_Mirror_count_command .nil pass0))
      (pss_one (ps_expr (pe_meth (pv 1) T.cl_Side T.m_Side_write G_Side_write (hr.mono (by decide)) T.b_Side_write .nil pass0 (pa_cons (pv 3) (pa_cons (pv 4) pa_nil)))))) pss_nil)))
      (pss_cons (ps_expr (pe_meth0 (pv 0) T.cl_Mirror T.m_Mirror_count_command G_Mirror_count_command (hr.mono (by decide)) T.b_Mirror_count_command .nil pass0))
      (pss_one (ps_expr (pe_meth0 (pv 1) T.cl_Side T.m_Side_barrier G_Side_barrier (hr.mono (by decide)) T.b_Side_barrier .nil pass0))))), ?_⟩
    try dsimp only [cxOf]
    have ul : us.length = bs.length := by have := dpAll_len du; simpa using this
    fail "go"
    refine g_EnW (sqL_mono sR hc) ?_
    refine for_enum (K := K) (a := c) (xs := us) (CpInv K T.C_Mirror T.C_Side T.C_Device R H mo a s c z L M F A bs k) ⟨none, none, R, F, rfl, hm, Step.refl sR, mw⟩ (fun i σ HX _ ⟨_, _, _, _, _, _, stX, _⟩ => sqL_mono (stX.g.rr.trans stX.g.rh) hc) ?_ ?_
    · clear hm
      rintro i x T0 σ H2 hx ⟨x0, y0, R2, F2, rfl, hm2, st2, mw2⟩ nT
      obtain ⟨bd, hb, dx⟩ := dpAll_get' du hx
      rw [List.getElem?_map] at hb
      obtain ⟨b, hbi, rfl⟩ := Option.map_eq_some_iff.mp hb
      have hbW := hbs b (List.mem_of_getElem? hbi)
      have gb : bs.getD i none = b := by rw [List.getD_eq_getElem?_getD, hbi]; rfl
      have hi : i < bs.length := (List.getElem?_eq_some_iff.mp hbi).1
      have snoc := copies_succ L z bs i M
      unfold Mst.copy1 at snoc
      rw [gb] at snoc
      have s2 := st2.g.rh
      have dx2 := dp_mono st2.g.rr dx
      have haf2 := st2.g.rr _ _ haf
      have gT := Gr.newM (M := []) (o := .tup [.int ((i : Nat) : Int), x]) s2 nT
      have hT : upd H2 T0 (.tup [.int ((i : Nat) : Int), x]) T0 = some (.tup [.int ((i : Nat) : Int), x]) := upd_same
      have hm3 := hm2.frame gT fun _ _ => List.not_mem_nil
      have st3 := st2.trans (Step.nil gT)
      have s3 := gT.rh
      generalize upd H2 T0 (.tup [.int ((i : Nat) : Int), x]) = H3 at hT hm3 st3 s3 ⊢
      clear gT hm2 st2 s2
      generalize M.copies L z bs i = M2 at hm3 mw2 snoc
      obtain ⟨m, ms, so, hm', msF, momsn, rz, close⟩ := hm3.side hsA
      obtain ⟨d, ds, ems, ⟨⟨sx, hs⟩, nin, non, dev⟩⟩ := id so
      obtain ⟨l1, l2, l3, eds, ⟨ddx, ff, bb, hd, pw⟩, nd, non', v1, v2, v3, h1, h2, h3, d1, d2, d3⟩ := dev
      obtain ⟨rw', _⟩ := mw2.rows _ (show (z, m) ∈ M2.es ++ M2.gs from hm')
      have rw' : RsW L _ m := rw'
      have ln := rw'.ln
      have hlt : i < m.seen.length := by omega
      have hcS : m.seen[i]? = some (m.seen.getD i none) := by rw [List.getD_eq_getElem?_getD, List.getElem?_eq_getElem hlt]; rfl
      obtain ⟨cv, hcv, dcv⟩ := cells_get d2 hcS
      obtain ⟨dx3, sd3, gd3, fa3, kvs3, gvs3, hmo3, _⟩ := hm3.at
      rw [rz] at snoc
      clear close h1 h3 d1 d3
      fail "go"
      refine ⟨d, a, l1, l2, l3, v2, cv, i, rfl, ⟨_, _, _, hd⟩, SqL.of h2, hcv, ?_⟩
      have ha3 := s3 _ _ haf2
      fail "go"
      refine ⟨R2, a, x, L, i, b, rfl, s3, ⟨_, haf2⟩, hL, dx2, blkOk_of hL fun y e => (hbW y e).x, fun w R4 H4 g4 dw => ?_⟩
      have hm4 := hm3.frame g4 fun _ _ => List.not_mem_nil
      have st4 := st3.trans (Step.nil g4)
      have s4 := g4.rh
      have dcv4 := dp_mono s4 (dp_mono g4.rr dcv)
      have haf4 := g4.rr _ _ haf2
      have dx4 := dp_mono g4.rr dx2
      clear hm3 st3 hmo3 s3 ha3 haf2 dx2 hs hd h2 hT
      refine g_neCell dcv4 (dp_mono s4 dw) ?_
      fail "go"
      obtain ⟨dx5, sd5, gd5, fa5, kvs5, gvs5, hmo5, _⟩ := hm4.at
      refine g_iteN (fun e => ?_) (fun e => ?_)
      · rw [if_neg e] at snoc
        fail "go"
        refine ⟨R4, mo, a, M2, F2, A, rfl, s4, hm4, fun H5 g5 hm5 => ?_⟩
        have s5 := g5.rh
        obtain ⟨m5, ms5, so5, hm5', msF5, momsn5, rz5, close⟩ := hm5.side hsA
        obtain ⟨d5, ds5, ems5, ⟨⟨sx5, hs5⟩, nin5, non5, dev5⟩⟩ := id so5
        have e5 : m5 = m := rz5.symm.trans (show M2.row z = m from rz)
        subst e5
        have lw := rw'.lw
        fail "go"
        refine ⟨_, R4, s, a, L, z, m5, ms5, x, i, b, rfl, s5, ⟨_, haf4⟩, hL, so5, hlt, by omega, dx4, blkOk_of hL fun y e => (hbW y e).x, fun R6 H6 g6 so6 => ?_⟩
        obtain ⟨F6, hm6, st6⟩ := close R6 H6 ms5 (putF' i (sealOf L i b) M2.pw.tick.dark) g6 Nw.refl so6
        fail "go"
        refine ⟨_, _, R6, F6, rfl, ?_, (st4.trans (Step.of g5)).trans st6, ?_⟩
        · rw [snoc]; exact hm6
        · rw [snoc]
          exact mw2.cmd fun dk m hm w => w.putD (by have := w.ls; omega) (sealW hbW)
      · rw [if_pos e] at snoc
        fail "go"
        exact ⟨_, _, R4, F2, rfl, by rw [snoc]; exact hm4, st4, by rw [snoc]; exact mw2.up (by omega)⟩
    · clear hm
      rintro σ H2 ⟨x0, y0, R2, F2, rfl, hm2, st2, mw2⟩
      rw [ul] at hm2 mw2
      unfold Mst.copyTo at hq
      generalize M.copies L z bs bs.length = M2 at hm2 mw2 hq
      have s2 := st2.g.rh
      obtain ⟨dx2, sd2, gd2, fa2, kvs2, gvs2, hmo2, _⟩ := hm2.at
      fail "go"
      refine ⟨R2, mo, a, M2, F2, A, rfl, s2, hm2, fun H3 g3 hm3 => ?_⟩
      have s3 := g3.rh
      obtain ⟨m, ms, so, hm', msF, momsn, rz, close⟩ := hm3.side hsA
      obtain ⟨d, ds, ems, ⟨⟨sx, hs⟩, nin, non, dev⟩⟩ := id so
      obtain ⟨rw', _⟩ := mw2.rows _ (show (z, m) ∈ M2.es ++ M2.gs from hm')
      clear hm2 hmo2 s2
      fail "go"
      refine ⟨_, R2, s, a, z, m, ms, rfl, s3, so, rw'.wi, fun H4 ms4 g4 nw4 so4 => ?_⟩
      obtain ⟨F4, hm4, st4⟩ := close R2 H4 ms4 (barF M2.pw.tick.dark) g4 nw4 so4
      fail "go"
      exact hq R2 H4 F4 hm4 ((st2.trans (Step.of g3)).trans st4)
end
def spMembers (K : PySem.W.Frag) (CM CS CD : Addr) : Sp := fun vs H Q _ => ∃ (R : Hp) (mo a : Addr) (M : Mst) (F : List Addr) (A : List (Int × Addr)), vs = [.ref mo] ∧ Same R H ∧ MirOk K CM CS CD R H mo a M F A ∧
  ∀ p H', Same H H' → H p = none → H' p = some (.tup (M.seats.map V.int)) → Q (.ref p) H'
section
variable {P : Program} {w : World} {K : PySem.W.Frag} {mg : Str → Option Value} {base : Heap}
theorem ok_Mirror_members (T : Txt P K mg) : FnOk P w K mg base CX0 1 T.f_Mirror_members T.fd_Mirror_members ["self"] (spMembers K T.C_Mirror T.C_Side T.C_Device) := by
  have cl_Mirror := T.cl_Mirror
  have a_Mirror_sides := T.a_Mirror_sides
  refine T.F_Mirror_members.ok sc_Mirror_members (fun vs H Q E h => ?_) (fun cdv A outer s H vs Q E hr h => ?_)
  · obtain ⟨R, mo, a, M, F, A, rfl, sR, ⟨sd, gd, fa, es, gs, rfl, h, e1, e2, eA⟩, hq⟩ := h
    rfl
  · obtain ⟨R, mo, a, M, F, A, rfl, sR, ⟨sd, gd, fa, es, gs, rfl, h, e1, e2, eA⟩, hq⟩ := h
    refine ⟨_, (pss_one (ps_ret (pe_callTy (callTupU (K := K)) (by rfl) T.n_tuple (by decide +kernel) (pa_cons (pe_callB (call_sortedDI rfl) (by rfl) T.n_sorted (by decide +kernel) (pa_cons (pe_fldK (K := K) (pv 0) rfl) pa_nil)) pa_nil)))), ?_⟩
    try dsimp only [cxOf]
    obtain ⟨dx, hmo⟩ := h.obj
    have hsd := h.hsd
    have few := h.few
    rw [List.length_append] at few
    fail "go"
    refine ⟨sd, _, es.map (·.z), rfl, .inl hsd, zs_kv es, by rw [List.length_map]; omega, fun ys p hp ho np => ?_⟩
    have ey := (sortI_eq hp ho).trans (seats_eq e1)
    subst ey
    have g1 : Mu [] R H (upd H p (.lst (M.seats.map V.int))) := ⟨Gr.newM sR np⟩
    have h1 : upd H p (.lst (M.seats.map V.int)) p = some (.lst (M.seats.map V.int)) := upd_same
    generalize upd H p (.lst (M.seats.map V.int)) = H1 at g1 h1 ⊢
    fail "go"
    refine g_tupL (SqL.of h1) ?_
    intro q nq
    have g2 := Gr.newM (M := []) (o := .tup (M.seats.map V.int)) g1.g.rh nq
    exact hq _ _ (g1.g.same.trans g2.same) (g1.g.free nq) upd_same
end
def spWriteLabel (K : PySem.W.Frag) (CL CS CD : Addr) : Sp := fun vs H Q _ => ∃ (dk : Bool) (R : Hp) (s a : Addr) (L : Lay) (z : Int) (m : Rows) (ms : List Addr) (v : V) (l : Lb), vs = [.ref s, v] ∧ Same R H ∧ LayAt CL R a L ∧ L.Ok ∧ SideOkD dk K CS CD R H s a z m ms ∧ LabOk L m ∧ m.wait.length ≤ 100000 ∧ Dp K H v l.d ∧ l.forks.length ≤ 300 ∧
  BlkOk (some (labelBlk L z l)) ∧ ∀ R' H', Gr ms R H R' H' → SideOkD dk K CS CD R' H' s a z (m.putD dk (L.device.toNat + slotOf L z m) (sealOf L ((L.device.toNat + slotOf L z m : Nat) : Int) (some (labelBlk L z l)))) ms → Q .non H'
section
variable {P : Program} {w : World} {K : PySem.W.Frag} {mg : Str → Option Value} {base : Heap}
theorem ok_Side_write_label (T : Txt P K mg) : FnOk P w K mg base CX0 9 T.f_Side_write_label T.fd_Side_write_label ["self", "label"] (spWriteLabel K T.C_Layout T.C_Side T.C_Device) := by
  have cl_Side := T.cl_Side
  have cl_Layout := T.cl_Layout
  have a_Side_seat := T.a_Side_seat
  have a_Side_layout := T.a_Side_layout
  have a_Layout_device_blocks := T.a_Layout_device_blocks
  have G_Side_labels := ok_Side_labels (P := P) (w := w) (base := base) T
  have G_newest_label := ok_newest_label (P := P) (w := w) (base := base) T
  have G_Side_write := ok_Side_write (P := P) (w := w) (base := base) T
  have G_label_block := ok_label_block (P := P) (w := w) (base := base) T
  refine T.F_Side_write_label.ok sc_Side_write_label (fun vs H Q E h => ?_) (fun cdv A outer s H vs Q E hr h => ?_)
  · obtain ⟨dk, R, s, a, L, z, m, ms, v, l, rfl, sR, ha, hL, hso, lo, hw, dv, hf, okb, hq⟩ := h
    rfl
  · obtain ⟨dk, R, s, a, L, z, m, ms, v, l, rfl, sR, ha, hL, hso, lo, hw, dv, hf, okb, hq⟩ := h
    refine ⟨_, (pss_cons (ps_set (i := 2) sc_Side_write_label.nd rfl (by first | exact Or.inl rfl | exact Or.inr rfl) (pe_meth0 (pv 0) T.cl_Side T.m_Side_labels G_Side_labels (hr.mono (by decide)) T.b_Side_labels .nil pass0))
      (pss_cons (ps_set (i := 3) sc_Side_write_label.nd rfl (by first | exact Or.inl rfl | exact Or.inr rfl) pe_int)
      (pss_cons (ps_if (PW.pt (pw_and (pt_cmpR opNotU (pe_ix (ixU (K := K)) (pv 2) pe_int (fun _ _ => rfl)) pe_non (nomark _)) (pw_and1 (pt_cmpR (opEqU (K := K) hr.units) (pe_ix (ixU (K := K)) (pv 2) pe_int (fun _ _ => rfl)) (pe_call G_newest_label (hr.mono (by decide)) rfl T.g_newest_label T.F_newest_label.kp T.b_newest_label .nil pass0 (pa_cons (pv 2) pa_nil)) (nomark _))))) (pss_one (ps_set (i := 3) sc_Side_write_label.nd rfl (by first | exact Or.inl rfl | exact Or.inr rfl) pe_int)) pss_nil)
      (pss_one (ps_expr (pe_meth (pv 0) T.cl_Side T.m_Side_write G_Side_write (hr.mono (by decide)) T.b_Side_write .nil pass0 (pa_cons (pe_op (opAddU (K := K)) (pe_fldK (K := K) (pe_fldK (K := K) (pv 0) rfl) rfl) (pv 3)) (pa_cons (pe_call G_label_block (hr.mono (by decide)) rfl T.g_label_block T.F_label_block.kp T.b_label_block .nil pass0 (pa_cons (pe_fldK (K := K) (pv 0) rfl) (pa_cons (pe_fldK (K := K) (pv 0) rfl) (pa_cons (pv 1) pa_nil)))) pa_nil)))))))), ?_⟩
    try dsimp only [cxOf]
    have hso0 := hso
    have sR0 := sR
    obtain ⟨d, ds, rfl, ⟨⟨sx, hs⟩, nin, non, dev⟩⟩ := hso
    obtain ⟨lx, haf⟩ := ha
    fail "go"
    refine ⟨dk, R, s, a, L, z, m, _, rfl, sR, ⟨_, haf⟩, hL, hso0, lo, fun p H1 us s1 np hp du => ?_⟩
    have ha1 := s1 _ _ (sR _ _ haf)
    have hso1 := hso0.frame (Mu.ofSame sR s1).g (fun _ _ => List.not_mem_nil)
    have dv1 := dp_mono s1 dv
    have sR1 := sR.trans s1
    have hs1 := s1 _ _ hs
    obtain ⟨v0, us1, rfl, dv0, du1⟩ := dpAll_cons du
    obtain ⟨v1, us2, rfl, dvv1, du2⟩ := dpAll_cons du1
    obtain rfl := dpAll_nil du2
    have len := lo.len
    have dev0 := lo.dev
    clear hs sR
    fail "gi"
    refine g_seqIN (fun σ H' => σ = [some (.ref s), some v, some (.ref p), some (.int (slotOf L z m : Int))] ∧ Same H1 H') ?_ (fun Nx rest => ?_)
    · rintro σ H2 ⟨rfl, s2⟩
      have sl : slotOf L z m ≤ 1 := by unfold slotOf; split <;> omega
      have hs2 := s2 _ _ hs1
      have ha2 := s2 _ _ ha1
      have sR2 := sR1.trans s2
      have hso2 := hso1.frame (Mu.ofSame sR1 s2).g (fun _ _ => List.not_mem_nil)
      clear hs1 ha1 sR1 hp
      fail "go"
      refine ⟨a, v, L, z, l, rfl, ⟨_, ha2⟩, hL, dp_mono s2 dv1, hf, fun w H3 s3 dw nw => ?_⟩
      have hso3 := hso2.frame (adopt_gr sR2 s3) (fun _ _ => List.not_mem_nil)
      have gA : Gr [] R H (adopt R H2 H3) H3 := (Mu.ofSame sR0 (s1.trans s2)).g.trans (adopt_gr sR2 s3)
      have dw2 := nw R
      have haR := gA.rr _ _ haf
      have sR3 := gA.rh
      have okb' : BlkOk (some (labelBlk L z l)) := okb
      clear hso2 sR2 hs2 ha2
      obtain ⟨d', ds', e', ⟨⟨sx3, hs3⟩, _, _, _⟩⟩ := id hso3
      fail "go"
      refine ⟨dk, _, s, a, L, z, m, _, w, L.device.toNat + slotOf L z m, some (labelBlk L z l), ?_, sR3, ⟨_, haR⟩, hL, hso3, by omega, hw, dw2, okb', fun R' H' g so => ?_⟩
      · rw [show ((L.device.toNat + slotOf L z m : Nat) : Int) = L.device + (slotOf L z m : Int) by omega]
        rfl
      · fail "go"
        exact hq _ _ (gA.nil.trans g) so
    · have hv0 : labsOf L z m = [labelOf L z (readC L L.device (m.seen.getD L.device.toNat none)), labelOf L z (readC L (L.device + 1) (m.seen.getD (L.device.toNat + 1) none))] := rfl
      have e0 : ∃ x : Option Lb, Dp K H1 v0 (lbD x) ∧ labsOf L z m = [x, labelOf L z (readC L (L.device + 1) (m.seen.getD (L.device.toNat + 1) none))] ∧ x = (labsOf L z m).getD 0 none := ⟨_, dv0, hv0, rfl⟩
      fail "go"
      obtain ⟨x0, dx0, ex, hx0⟩ := e0
      have sl : slotOf L z m = if x0 ≠ none ∧ x0 = labOf L z m then 1 else 0 := by unfold slotOf; rw [← hx0]
      rcases lbV dx0 with ⟨rfl, rfl⟩ | ⟨c, tt, rfl, rfl⟩
      · refine g_iteF rfl ?_
        fail "go"
        exact rest _ _ ⟨by rw [sl]; rfl, Same.refl H1⟩
      · refine g_iteT rfl ?_
        fail "go"
        refine ⟨p, _, labsOf L z m, rfl, SqL.of hp, .cons dv0 (.cons dvv1 .nil), fun v2 dv2 => ?_⟩
        fail "go"
        refine g_eqDa dx0 dv2 (la_shaped (la_lbD _)) (la_shaped (la_lbD _)) (.inl ⟨_, rfl⟩) ?_
        rw [eqv_lbD]
        fail "go"
        refine g_ite (fun e => ?_) (fun e => ?_)
        · fail "go"
          exact rest _ _ ⟨by rw [sl, if_pos ⟨by simp, e⟩]; rfl, Same.refl H1⟩
        · fail "go"
          exact rest _ _ ⟨by rw [sl, if_neg (fun z => e z.2)]; rfl, Same.refl H1⟩
end
def spWriteLabels (K : PySem.W.Frag) (CL CM CS CD : Addr) : Sp := fun vs H Q _ => ∃ (R : Hp) (mo a lp : Addr) (v : V) (L : Lay) (M : Mst) (F : List Addr) (A : List (Int × Addr)) (zs : List (Int × Addr)) (lb : Lb) (k : Nat), vs = [.ref mo, .ref lp, v] ∧ Same R H ∧ LayAt CL R a L ∧ L.Ok ∧ (0 ≤ L.device ∧ L.device < 900) ∧ MirOk K CM CS CD R H mo a M F A ∧ MsW L k M ∧ k ≤ 90000 ∧ SqL K R lp (zs.map fun q => V.ref q.2) ∧ (∀ q ∈ zs, q ∈ A) ∧ zs.length ≤ 3 ∧ Dp K R v lb.d ∧ 0 ≤ lb.gen ∧ lb.gen < 281474976710656 ∧ lb.forks.length ≤ 16 ∧
  ∀ R' H' F', MirOk K CM CS CD R' H' mo a ((M.cmds (zs.map (·.1)) (labF L lb)).cmds (zs.map (·.1)) fun _ => barF) F' A → Step F F' R H R' H' → Q .non H'
theorem take_fst {zs : List (Int × Addr)} {i : Nat} {q : Int × Addr} (h : zs[i]? = some q) : (zs.take (i + 1)).map (·.1) = (zs.take i).map (·.1) ++ [q.1] := by
  rw [List.take_add_one, h, List.map_append]; rfl
def WlInv (K : PySem.W.Frag) (CM CS CD : Addr) (R0 H0 : Hp) (mo a : Addr) (M : Mst) (F0 : List Addr) (A : List (Int × Addr)) (zs : List (Int × Addr)) (f : Int → Bool → Rows → Rows) (st : Option V → St) (i : Nat) (σ : St) (H : Hp) : Prop := ∃ (x : Option V) (R1 : Hp) (F1 : List Addr), σ = st x ∧ MirOk K CM CS CD R1 H mo a (M.cmds ((zs.take i).map (·.1)) f) F1 A ∧ Step F0 F1 R0 H0 R1 H
section
variable {P : Program} {w : World} {K : PySem.W.Frag} {mg : Str → Option Value} {base : Heap}
theorem ok_Mirror_write_labels (T : Txt P K mg) : FnOk P w K mg base CX0 10 T.f_Mirror_write_labels T.fd_Mirror_write_labels ["self", "sides", "label"] (spWriteLabels K T.C_Layout T.C_Mirror T.C_Side T.C_Device) := by
  have G_Mirror_count_command := ok_Mirror_count_command (P := P) (w := w) (base := base) T
  have G_Side_write_label := ok_Side_write_label (P := P) (w := w) (base := base) T
  have G_Side_barrier := ok_Side_barrier (P := P) (w := w) (base := base) T
  refine T.F_Mirror_write_labels.ok sc_Mirror_write_labels (fun vs H Q E h => ?_) (fun cdv A outer s H vs Q E hr h => ?_)
  · obtain ⟨R, mo, a, lp, v, L, M, F, A, zs, lb, k, rfl, sR, ha, hL, hdev, hm, mw, k9, hlp, hzA, zl, dv, g0, gl, fl, hq⟩ := h
    rfl
  · obtain ⟨R, mo, a, lp, v, L, M, F, A, zs, lb, k, rfl, sR, ha, hL, hdev, hm, mw, k9, hlp, hzA, zl, dv, g0, gl, fl, hq⟩ := h
    refine ⟨_, (pss_cons (ps_for PassesOwn.never rfl (pi_listK (K := K) (pv 1)) (pg_name (i := 3) sc_Mirror_write_labels.nd rfl (by first | exact Or.inl rfl | exact Or.inr rfl)) (pss_cons (ps_expr (pe_meth0 (pv 0) T.cl_Mirror T.m_Mirror_count_command G_Mirror_count_command (hr.mono (by decide)) T.b_Mirror_count_command .nil pass0))
      (pss_one (ps_expr (pe_meth (pv 3) T.cl_Side T.m_Side_write_label G_Side_write_label (hr.mono (by decide)) T.b_Side_write_label .nil pass0 (pa_cons (pv 2) pa_nil))))))
      (pss_one (ps_for PassesOwn.never rfl (pi_listK (K := K) (pv 1)) (pg_name (i := 3) sc_Mirror_write_labels.nd rfl (by first | exact Or.inl rfl | exact Or.inr rfl)) (pss_cons (ps_expr (pe_meth0 (pv 0) T.cl_Mirror T.m_Mirror_count_command G_Mirror_count_command (hr.mono (by decide)) T.b_Mirror_count_command .nil pass0))
      (pss_one (ps_expr (pe_meth0 (pv 3) T.cl_Side T.m_Side_barrier G_Side_barrier (hr.mono (by decide)) T.b_Side_barrier .nil pass0))))))), ?_⟩
    try dsimp only [cxOf]
    have lpH := sqL_mono sR hlp
    fail "go"
    refine g_LsW lpH ?_
    refine for_list (K := K) (xs := zs.map fun q => V.ref q.2) (WlInv K T.C_Mirror T.C_Side T.C_Device R H mo a M F A zs (labF L lb) fun x => [some (.ref mo), some (.ref lp), some v, x]) ⟨none, R, F, rfl, hm, Step.refl sR⟩ (fun i σ HX _ ⟨_, _, _, _, _, stX⟩ => sqL_mono (stX.g.rr.trans stX.g.rh) hlp) ?_ ?_
    · clear hm lpH
      rintro i x σ H2 hi ⟨x0, R2, F2, rfl, hm2, st2⟩
      rw [List.getElem?_map] at hi
      obtain ⟨⟨z, s⟩, hz, rfl⟩ := Option.map_eq_some_iff.mp hi
      have hsA := hzA _ (List.mem_of_getElem? hz)
      have mw2 := MsW.cmds (f := labF L lb) (labF_W hL hdev.1 g0 gl fl) ((zs.take i).map (·.1)) mw
      have snoc : M.cmds ((zs.take (i + 1)).map (·.1)) (labF L lb) = (M.cmds ((zs.take i).map (·.1)) (labF L lb)).cmd z (labF L lb z) := by rw [take_fst hz, cmds_snoc]
      have kl : ((zs.take i).map (·.1)).length ≤ 3 := by rw [List.length_map, List.length_take]; omega
      generalize M.cmds ((zs.take i).map (·.1)) (labF L lb) = M2 at hm2 mw2 snoc
      have s2 := st2.g.rh
      have ha2 := ha.mono st2.g.rr
      have dv2 := dp_mono (st2.g.rr.trans s2) dv
      obtain ⟨dx2, sd2, gd2, fa2, kvs2, gvs2, hmo2, _⟩ := hm2.at
      fail "go"
      refine ⟨R2, mo, a, M2, F2, A, rfl, s2, hm2, fun H3 g3 hm3 => ?_⟩
      have s3 := g3.rh
      obtain ⟨m, ms, so, hm', msF, momsn, rz, close⟩ := hm3.side hsA
      obtain ⟨d, ds, ems, ⟨⟨sx, hs⟩, nin, non, dev⟩⟩ := id so
      obtain ⟨rw, z0, z3⟩ := mw2.rows _ (show (z, m) ∈ M2.es ++ M2.gs from hm')
      have dv3 := dp_mono (st2.g.rr.trans s3) dv
      clear hm2 hmo2 s2 dv2
      fail "go"
      have rw : RsW L _ m := rw
      have ln := rw.ln
      have lw := rw.lw
      have hbb : BW L (labelBlk L z lb) := labelBlk_W hL z0 z3 g0 gl fl
      refine ⟨_, R2, s, a, L, z, m, ms, v, lb, rfl, s3, ha2, hL, so, ⟨ln, ⟨hdev.1, hdev.2⟩, fun c hc => ⟨(rw.c2 c hc).ok hL, (rw.c2 c hc).octblk hL⟩⟩, by omega, dv3, by omega, blkOk_of hL fun x e => by cases e; exact hbb.x, fun R4 H4 g4 so4 => ?_⟩
      obtain ⟨F4, hm4, st4⟩ := close R4 H4 ms (labF L lb z M2.pw.tick.dark) g4 Nw.refl so4
      fail "go"
      refine ⟨_, R4, F4, rfl, ?_, (st2.trans (Step.of g3)).trans st4⟩
      rw [snoc]
      exact hm4
    · clear hm lpH
      rintro σ H2 ⟨x0, R2, F2, rfl, hm2, st2⟩
      rw [List.length_map, List.take_length] at hm2
      have mwB := MsW.cmds (f := labF L lb) (labF_W hL hdev.1 g0 gl fl) (zs.map (·.1)) mw
      generalize M.cmds (zs.map (·.1)) (labF L lb) = MB at hm2 mwB hq
      have lp2 := sqL_mono (st2.g.rr.trans st2.g.rh) hlp
      fail "go"
      refine g_LsW lp2 ?_
      refine for_list (K := K) (xs := zs.map fun q => V.ref q.2) (WlInv K T.C_Mirror T.C_Side T.C_Device R2 H2 mo a MB F2 A zs (fun _ => barF) fun x => [some (.ref mo), some (.ref lp), some v, x]) ⟨x0, R2, F2, rfl, hm2, Step.refl st2.g.rh⟩ (fun i σ HX _ ⟨_, _, _, _, _, stX⟩ => sqL_mono (stX.g.rr.trans stX.g.rh) (sqL_mono st2.g.rr hlp)) ?_ ?_
      · clear hm2 lp2
        rintro i x σ H3 hi ⟨x1, R3, F3, rfl, hm3, st3⟩
        rw [List.getElem?_map] at hi
        obtain ⟨⟨z, s⟩, hz, rfl⟩ := Option.map_eq_some_iff.mp hi
        have hsA := hzA _ (List.mem_of_getElem? hz)
        have mw3 := MsW.cmds (f := fun _ => barF) barF_W ((zs.take i).map (·.1)) mwB
        have snoc : MB.cmds ((zs.take (i + 1)).map (·.1)) (fun _ => barF) = (MB.cmds ((zs.take i).map (·.1)) fun _ => barF).cmd z barF := by rw [take_fst hz, cmds_snoc]
        generalize MB.cmds ((zs.take i).map (·.1)) (fun _ => barF) = M3 at hm3 mw3 snoc
        have s3 := st3.g.rh
        obtain ⟨dx3, sd3, gd3, fa3, kvs3, gvs3, hmo3, _⟩ := hm3.at
        fail "go"
        refine ⟨R3, mo, a, M3, F3, A, rfl, s3, hm3, fun H4 g4 hm4 => ?_⟩
        have s4 := g4.rh
        obtain ⟨m, ms, so, hm', msF, momsn, rz, close⟩ := hm4.side hsA
        obtain ⟨d, ds, ems, ⟨⟨sx, hs⟩, nin, non, dev⟩⟩ := id so
        obtain ⟨rw, _⟩ := mw3.rows _ (show (z, m) ∈ M3.es ++ M3.gs from hm')
        clear hm3 hmo3 s3
        fail "go"
        refine ⟨_, R3, s, a, z, m, ms, rfl, s4, so, rw.wi, fun H5 ms5 g5 nw5 so5 => ?_⟩
        obtain ⟨F5, hm5, st5⟩ := close R3 H5 ms5 (barF M3.pw.tick.dark) g5 nw5 so5
        fail "go"
        refine ⟨_, R3, F5, rfl, ?_, (st3.trans (Step.of g4)).trans st5⟩
        rw [snoc]
        exact hm5
      · clear hm2 lp2
        rintro σ H3 ⟨x1, R3, F3, rfl, hm3, st3⟩
        rw [List.length_map, List.take_length] at hm3
        fail "go"
        exact hq R3 H3 F3 hm3 (st2.trans st3)
end
def spRelabel (K : PySem.W.Frag) (CL CM CS CD : Addr) : Sp := fun vs H Q _ => ∃ (R : Hp) (mo a u : Addr) (L : Lay) (M : Mst) (F : List Addr) (A : List (Int × Addr)) (bef : List Int) (k : Nat), vs = [.ref mo, .ref u] ∧ Same R H ∧ LayAt CL R a L ∧ L.Ok ∧ (0 ≤ L.device ∧ L.device < 900) ∧ MirOk K CM CS CD R H mo a M F A ∧ MsW L k M ∧ k ≤ 80000 ∧ SqT K R u (bef.map V.int) ∧
  ∀ R' H' F', MirOk K CM CS CD R' H' mo a (M.relabel L bef) F' A → Step F F' R H R' H' → Q .non H'
/-- the sides of the members, in a row -/
theorem seat_sides {K : PySem.W.Frag} {CM CS CD : Addr} {R H : Hp} {mo a : Addr} {M : Mst} {F : List Addr} {A : List (Int × Addr)} (h : MirOk K CM CS CD R H mo a M F A) : ∃ zs : List (Int × Addr), zs.map (·.1) = M.seats ∧ (∀ q ∈ zs, q ∈ A) ∧ zs.length ≤ 3 := by
  obtain ⟨dx, sd, gd, fa, kvs, gvs, hmo, hsd, _, _, kl, key, _, _, ke⟩ := h.at
  have sl : M.seats.length ≤ 3 := by
    have := congrArg List.length ke
    rw [List.length_map, List.length_map] at this
    have e : M.seats.length = M.keys.length := sortI_len
    omega
  have hk : ∀ z ∈ M.seats, ∃ s, (z, s) ∈ A := fun z hz => let ⟨s, _, b⟩ := key z (seats_keys.mp hz); ⟨s, b⟩
  generalize M.seats = l at sl hk
  clear kl ke key hsd hmo
  induction l with
  | nil => exact ⟨[], rfl, (fun _ h => by cases h), by simp⟩
  | cons z r ih =>
    obtain ⟨s, hs⟩ := hk z List.mem_cons_self
    obtain ⟨zs, e, hA, zl⟩ := ih (by simp at sl; omega) fun y hy => hk y (List.mem_cons_of_mem _ hy)
    refine ⟨(z, s) :: zs, by rw [List.map_cons, e], fun q hq => ?_, ?_⟩
    · rcases List.mem_cons.mp hq with rfl | hq
      · exact hs
      · exact hA q hq
    · have := congrArg List.length e
      rw [List.length_map] at this
      simp at sl ⊢; omega
def RlInv (R0 H0 : Hp) (D : Addr) (zs : List (Int × Addr)) (i : Nat) (H : Hp) : Prop := Same H0 H ∧ H D = some (.lst ((zs.take i).map fun q => V.ref q.2))
theorem za_unique {K : PySem.W.Frag} {CM CS CD : Addr} {R H : Hp} {mo a : Addr} {M : Mst} {F : List Addr} {A : List (Int × Addr)} (h : MirOk K CM CS CD R H mo a M F A) {z : Int} {s t : Addr} (hs : (z, s) ∈ A) (ht : (z, t) ∈ A) : s = t := by
  obtain ⟨sd, gd, fa, es, gs, rfl, h, e1, e2, eA⟩ := h
  rw [← eA] at hs ht
  obtain ⟨e, he, q1, q2⟩ := ent_of_za hs
  obtain ⟨f, hf, q3, q4⟩ := ent_of_za ht
  have := ent_unique h.keys he hf (q1.trans q3.symm)
  rw [← q2, ← q4, this]
section
variable {P : Program} {w : World} {K : PySem.W.Frag} {mg : Str → Option Value} {base : Heap}
theorem ok_Mirror_relabel (T : Txt P K mg) : FnOk P w K mg base CX0 11 T.f_Mirror_relabel T.fd_Mirror_relabel ["self", "before"] (spRelabel K T.C_Layout T.C_Mirror T.C_Side T.C_Device) := by
  have cl_Mirror := T.cl_Mirror
  have a_Mirror_generation := T.a_Mirror_generation
  have a_Mirror_forks := T.a_Mirror_forks
  have a_Mirror_sides := T.a_Mirror_sides
  have G_Mirror_members := ok_Mirror_members (P := P) (w := w) (base := base) T
  have G_Mirror_write_labels := ok_Mirror_write_labels (P := P) (w := w) (base := base) T
  refine T.F_Mirror_relabel.ok sc_Mirror_relabel (fun vs H Q E h => ?_) (fun cdv A outer s H vs Q E hr h => ?_)
  · obtain ⟨R, mo, a, u, L, M, F, A, bef, k, rfl, sR, ha, hL, hdev, hm, mw, k9, hu, hq⟩ := h
    rfl
  · obtain ⟨R, mo, a, u, L, M, F, A, bef, k, rfl, sR, ha, hL, hdev, hm, mw, k9, hu, hq⟩ := h
    refine ⟨_, (pss_cons (ps_fld (pv 0) (pe_op (opAddU (K := K)) (pe_fldK (K := K) (pv 0) rfl) pe_int) rfl)
      (pss_cons (ps_set (i := 2) sc_Mirror_relabel.nd rfl (by first | exact Or.inl rfl | exact Or.inr rfl) (pe_tup (pa_cons (pe_fldK (K := K) (pv 0) rfl) (pa_cons (pe_meth0 (pv 0) T.cl_Mirror T.m_Mirror_members G_Mirror_members (hr.mono (by decide)) T.b_Mirror_members .nil pass0) (pa_cons (pv 1) (pa_cons (pe_fldK (K := K) (pv 0) rfl) pa_nil))))))
      (pss_one (ps_expr (pe_meth (pv 0) T.cl_Mirror T.m_Mirror_write_labels G_Mirror_write_labels (hr.mono (by decide)) T.b_Mirror_write_labels .nil pass0 (pa_cons (pe_lc (own := [("seat", 3)]) (g := gName 3) (tt := tYes) rfl sc_Mirror_relabel.nd (pi_tupK (K := K) (pe_meth0 (pv 0) T.cl_Mirror T.m_Mirror_members G_Mirror_members (hr.mono (by decide)) T.b_Mirror_members .nil pass0)) (blkOk_by (N := N_Mirror_relabel) (sc := defScope s_Mirror_relabel) (by decide +kernel)) (fun _ _ _ _ _ => (pg_name (i := 3) sc_Mirror_relabel.nd rfl (by first | exact Or.inl rfl | exact Or.inr rfl))) (fun _ _ _ _ _ => pts_nil) (fun _ _ _ _ _ => (pe_dget (hu_of hr) (pe_fldK (K := K) (pv 0) rfl) (pv 3) (fun _ _ => rfl)))) (pa_cons (pv 2) pa_nil))))))), ?_⟩
    try dsimp only [cxOf]
    have hm0 := hm
    obtain ⟨sd, gd, fa, es, gs, rfl, h, e1, e2, eA⟩ := hm
    obtain ⟨dx, hmo⟩ := h.obj
    have Rmo := h.non mo (by simp)
    have hMo : mo ∈ foot [mo, sd, gd] (es ++ gs) := mem_foot.mpr (.inl (by simp))
    fail "go"
    rename_i H1 g1 h1 s1
    have hm1 : MirOk K T.C_Mirror T.C_Side T.C_Device R H1 mo a { M with gen := M.gen + 1 } (foot [mo, sd, gd] (es ++ gs)) A := ⟨sd, gd, fa, es, gs, rfl, h.fld g1.g ⟨dx, h1⟩ rfl h.fks, e1, e2, eA⟩
    have mw1 : MsW L (k + 1) { M with gen := M.gen + 1 } := ⟨fun q hq => let ⟨a, b⟩ := mw.rows q hq; ⟨a.up (Nat.le_succ k), b⟩, ⟨by have := mw.gen.1; show 0 ≤ M.gen + 1; omega, by have := mw.gen.2; show M.gen + 1 ≤ _; omega⟩, mw.few, mw.fkr⟩
    have st1 : Step (foot [mo, sd, gd] (es ++ gs)) (foot [mo, sd, gd] (es ++ gs)) R H R H1 := Step.of (g1.g.mono fun x hx => by rw [List.mem_singleton.mp hx]; exact hMo)
    have hfk := h.fks
    have hgen : 0 ≤ M.gen + 1 ∧ M.gen + 1 < 281474976710656 := by have := mw.gen; omega
    have fkl := mw.few
    clear h hm0 hmo g1 sR e1 e2 eA hMo
    generalize foot [mo, sd, gd] (es ++ gs) = F at hm1 st1 hq
    obtain ⟨zs, ez, hzA, zl⟩ := seat_sides hm1
    have ez : zs.map (·.1) = M.seats := ez
    refine ⟨R, mo, a, _, F, A, rfl, s1, hm1, fun p H2 s2 np hp => ?_⟩
    have g2 : Gr [] R H1 (upd R p (.tup (M.seats.map V.int))) H2 := retR s1 s2 np hp
    have hpR : upd R p (.tup (M.seats.map V.int)) p = some (.tup (M.seats.map V.int)) := upd_same
    have st2 := st1.trans (Step.nil g2)
    have hm2 := hm1.frame g2 fun _ _ => List.not_mem_nil
    have hfk2 := sqT_mono g2.rr hfk
    have hu2 := sqT_mono g2.rr hu
    have s02 := g2.rh
    have a2 := ha.mono g2.rr
    obtain ⟨dx2, sd2, gd2, fa2, kvs2, gvs2, hmo2, _, _, hfk3, _⟩ := hm2.at
    have hp : H2 p = some (.tup (M.seats.map V.int)) := hp
    generalize upd R p (.tup (M.seats.map V.int)) = R2 at *
    clear st1 hm1 h1 s1 s2 np g2 hfk hu ha hfk2
    fail "go"
    refine ⟨by fail "sz", ?_⟩
    fail "newR"
    rename_i p4 H4 R4 n4 g4 h4 s4
    have lb4 : Dp K R4 (.ref p4) (Lb.d ⟨M.gen + 1, M.seats, bef, M.fk⟩) := mkLb (SqT.of h4) (SqT.of (g4.rr _ _ hpR)) (sqT_mono g4.rr hu2) (sqT_mono g4.rr hfk3)
    have st4 := st2.trans (Step.nil g4)
    have hm4 := hm2.frame g4 fun _ _ => List.not_mem_nil
    have a4 := a2.mono g4.rr
    obtain ⟨dx4, sd4, gd4, fa4, kvs4, gvs4, hmo4, _⟩ := hm4.at
    clear hm2 hmo2 st2 g4 hpR hu2 hfk3 h4 s02 a2 hp
    fail "go"
    refine ⟨R4, mo, a, _, F, A, rfl, s4, hm4, fun p5 H5 s5 n5 h5 => ?_⟩
    have h5 : H5 p5 = some (.tup (M.seats.map V.int)) := h5
    have g5 := Mu.ofSame (M := []) s4 s5
    have st5 := st4.trans (Step.nil g5.g)
    have hm5 := hm4.frame g5.g fun _ _ => List.not_mem_nil
    have s45 := g5.g.rh
    clear hm4 hmo4 st4 g5 s4 s5
    fail "go"
    refine g_TsW (SqT.of h5) fun D nD => ?_
    refine lc_tup (K := K) (a := p5) (xs := M.seats.map V.int) (RlInv R4 H5 D zs) ⟨(Gr.newM (M := []) s45 nD).same, upd_same⟩ (fun j H' _ ⟨s, _⟩ => SqT.of (s _ _ h5)) ?_ ?_
    · rintro j x H6 hi ⟨s6, hD6⟩
      obtain ⟨z, hz, rfl⟩ := map_get hi
      rw [← ez, List.getElem?_map] at hz
      obtain ⟨⟨z', s⟩, hq', rfl⟩ := Option.map_eq_some_iff.mp hz
      have g6 := Mu.ofSame (M := []) s45 s6
      have hm6 := hm5.frame g6.g fun _ _ => List.not_mem_nil
      obtain ⟨dx6, sd6, gd6, fa6, kvs6, gvs6, hmo6, hsd6, _, _, _, key6, _⟩ := hm6.at
      have zk : z' ∈ M.keys := by
        have : z' ∈ zs.map (·.1) := List.mem_map.mpr ⟨_, List.mem_of_getElem? hq', rfl⟩
        rw [ez] at this
        exact seats_keys.mp this
      obtain ⟨s', hv', hA'⟩ := key6 z' zk
      obtain rfl := za_unique hm6 hA' (hzA _ (List.mem_of_getElem? hq'))
      clear hm5 s45 h5 g6
      refine ⟨rfl, ?_⟩
      fail "go"
      refine g_DgI hsd6 hv' ?_
      refine ⟨_, hD6, by rw [List.length_map, List.length_take]; fail "sz", fun b o e => by rw [upd_ne (ne_of_none e nD)]; exact s6 _ _ e, ?_⟩
      rw [upd_same, List.take_add_one, hq', List.map_append]; rfl
    · rintro H6 ⟨s6, hD6⟩
      have el : (M.seats.map V.int).length = zs.length := by rw [← ez]; simp
      rw [el, List.take_length] at hD6
      have g6 := retR s45 s6 nD hD6
      have hDR : upd R4 D (.lst (zs.map fun q => V.ref q.2)) D = some (.lst (zs.map fun q => V.ref q.2)) := upd_same
      generalize upd R4 D (.lst (zs.map fun q => V.ref q.2)) = R6 at g6 hDR
      have hm6 := hm5.frame g6 fun _ _ => List.not_mem_nil
      have st6 := st5.trans (Step.nil g6)
      have s66 := g6.rh
      have lb6 := dp_mono g6.rr lb4
      have a6 := a4.mono g6.rr
      clear hm5 st5 g6 s45 h5 lb4 a4
      fail "go"
      refine ⟨R6, mo, a, D, _, L, _, F, A, zs, ⟨M.gen + 1, M.seats, bef, M.fk⟩, k + 1, rfl, s66, a6, hL, hdev, hm6, mw1, by omega, SqL.of hDR, hzA, zl, lb6, hgen.1, hgen.2, fkl, fun R7 H7 F7 hm7 st7 => ?_⟩
      fail "go"
      rw [ez] at hm7
      exact hq R7 H7 F7 hm7 (st6.trans st7)
end
def spClear (K : PySem.W.Frag) (CL CM CS CD : Addr) : Sp := fun vs H Q _ => ∃ (R : Hp) (mo a s : Addr) (z : Int) (L : Lay) (M : Mst) (F : List Addr) (A : List (Int × Addr)) (k : Nat), vs = [.ref mo, .ref s] ∧ Same R H ∧ LayAt CL R a L ∧ L.Ok ∧ (0 ≤ L.device ∧ L.device < 900) ∧ MirOk K CM CS CD R H mo a M F A ∧ MsW L k M ∧ k ≤ 90000 ∧ (z, s) ∈ A ∧
  ∀ R' H' F', MirOk K CM CS CD R' H' mo a (M.clear L z) F' A → Step F F' R H R' H' → Q .non H'
def ClInv (K : PySem.W.Frag) (CM CS CD : Addr) (R0 H0 : Hp) (mo a s : Addr) (z : Int) (L : Lay) (M : Mst) (F0 : List Addr) (A : List (Int × Addr)) (i : Nat) (σ : St) (H : Hp) : Prop := ∃ (x : Option V) (R1 : Hp) (F1 : List Addr), σ = [some (.ref mo), some (.ref s), x] ∧ MirOk K CM CS CD R1 H mo a ((List.range i).foldl (fun S j => S.cmd z (putF' (L.device.toNat + j) none)) M) F1 A ∧ Step F0 F1 R0 H0 R1 H
theorem MsW.clr {L : Lay} (d0 : 0 ≤ L.device) {z : Int} {k : Nat} {M : Mst} (h : MsW L k M) : ∀ i, i ≤ 2 → MsW L (k + i) ((List.range i).foldl (fun S j => S.cmd z (putF' (L.device.toNat + j) none)) M)
  | 0, _ => h
  | i + 1, hi => by
    rw [List.range_succ, List.foldl_append]
    refine (MsW.clr d0 h i (by omega)).cmd fun dk m hm w => ?_
    exact w.putD (by have := w.ls; omega) trivial
section
variable {P : Program} {w : World} {K : PySem.W.Frag} {mg : Str → Option Value} {base : Heap}
theorem ok_Mirror_clear_labels (T : Txt P K mg) : FnOk P w K mg base CX0 8 T.f_Mirror_clear_labels T.fd_Mirror_clear_labels ["self", "side"] (spClear K T.C_Layout T.C_Mirror T.C_Side T.C_Device) := by
  have cl_Layout := T.cl_Layout
  have cl_Mirror := T.cl_Mirror
  have a_Layout_device_blocks := T.a_Layout_device_blocks
  have a_Mirror_layout := T.a_Mirror_layout
  have G_Mirror_count_command := ok_Mirror_count_command (P := P) (w := w) (base := base) T
  have G_Side_write := ok_Side_write (P := P) (w := w) (base := base) T
  have G_Side_barrier := ok_Side_barrier (P := P) (w := w) (base := base) T
  refine T.F_Mirror_clear_labels.ok sc_Mirror_clear_labels (fun vs H Q E h => ?_) (fun cdv A outer s H vs Q E hr h => ?_)
  · obtain ⟨R, mo, a, s, z, L, M, F, A, k, rfl, sR, ⟨lx, haf⟩, hL, hdev, hm, mw, k9, hsA, hq⟩ := h
    rfl
  · obtain ⟨R, mo, a, s, z, L, M, F, A, k, rfl, sR, ⟨lx, haf⟩, hL, hdev, hm, mw, k9, hsA, hq⟩ := h
    refine ⟨_, (pss_cons (ps_for PassesOwn.never rfl (pi_range1 rfl T.n_range (pa_cons (pe_glob rfl T.g_LABELS T.r_LABELS) pa_nil)) (pg_name (i := 2) sc_Mirror_clear_labels.nd rfl (by first | exact Or.inl rfl | exact Or.inr rfl)) (pss_cons (ps_expr (pe_meth0 (pv 0) T.cl_Mirror T.m_Mirror_count_command G_Mirror_count_command (hr.mono (by decide)) T.b_Mirror_count_command .nil pass0))
      (pss_one (ps_expr (pe_meth (pv 1) T.cl_Side T.m_Side_write G_Side_write (hr.mono (by decide)) T.b_Side_write .nil pass0 (pa_cons (pe_op (opAddU (K := K)) (pe_fldK (K := K) (pe_fldK (K := K) (pv 0) rfl) rfl) (pv 2)) (pa_cons pe_non pa_nil)))))))
      (pss_cons (ps_expr (pe_meth0 (pv 0) T.cl_Mirror T.m_Mirror_count_command G_Mirror_count_command (hr.mono (by decide)) T.b_Mirror_count_command .nil pass0))
      (pss_one (ps_expr (pe_meth0 (pv 1) T.cl_Side T.m_Side_barrier G_Side_barrier (hr.mono (by decide)) T.b_Side_barrier .nil pass0))))), ?_⟩
    try dsimp only [cxOf]
    fail "go"
    refine g_R1W (n := 2) rfl (by decide) ?_
    refine for_range (lo := 0) (n := 2) (ClInv K T.C_Mirror T.C_Side T.C_Device R H mo a s z L M F A) ⟨none, R, F, rfl, hm, Step.refl sR⟩ ?_ ?_
    · clear hm
      rintro i σ H2 hi ⟨x0, R2, F2, rfl, hm2, st2⟩
      rw [Int.zero_add]
      have mw2 := mw.clr (z := z) hdev.1 i (by omega)
      have snoc : (List.range (i + 1)).foldl (fun S j => Mst.cmd z (putF' (L.device.toNat + j) none) S) M = ((List.range i).foldl (fun S j => S.cmd z (putF' (L.device.toNat + j) none)) M).cmd z (putF' (L.device.toNat + i) none) := by rw [List.range_succ, List.foldl_append]; rfl
      generalize (List.range i).foldl (fun S j => Mst.cmd z (putF' (L.device.toNat + j) none) S) M = M2 at hm2 mw2 snoc
      have s2 := st2.g.rh
      have haf2 := st2.g.rr _ _ haf
      obtain ⟨dx2, sd2, gd2, fa2, kvs2, gvs2, hmo2, _⟩ := hm2.at
      fail "go"
      refine ⟨R2, mo, a, M2, F2, A, rfl, s2, hm2, fun H3 g3 hm3 => ?_⟩
      have s3 := g3.rh
      have ha3 := s3 _ _ haf2
      obtain ⟨dx3, sd3, gd3, fa3, kvs3, gvs3, hmo3, _⟩ := hm3.at
      obtain ⟨m, ms, so, hm', msF, momsn, rz, close⟩ := hm3.side hsA
      obtain ⟨d, ds, ems, ⟨⟨sx, hs⟩, nin, non, dev⟩⟩ := id so
      obtain ⟨rw', _⟩ := mw2.rows _ (show (z, m) ∈ M2.es ++ M2.gs from hm')
      have rw' : RsW L _ m := rw'
      have ln := rw'.ln
      have lw := rw'.lw
      clear hm2 hmo2 s2
      fail "go"
      refine ⟨_, R2, s, a, L, z, m, ms, .non, L.device.toNat + i, none, by rw [show ((L.device.toNat + i : Nat) : Int) = L.device + (i : Int) by omega]; rfl, s3, ⟨_, haf2⟩, hL, so, by omega, by omega, .non, trivial, fun R4 H4 g4 so4 => ?_⟩
      obtain ⟨F4, hm4, st4⟩ := close R4 H4 ms (putF' (L.device.toNat + i) none M2.pw.tick.dark) g4 Nw.refl so4
      fail "go"
      refine ⟨_, R4, F4, rfl, ?_, (st2.trans (Step.of g3)).trans st4⟩
      rw [snoc]
      exact hm4
    · clear hm
      rintro σ H2 ⟨x0, R2, F2, rfl, hm2, st2⟩
      have mw2 := mw.clr (z := z) hdev.1 2 (Nat.le_refl 2)
      have e2 : (List.range 2).foldl (fun S j => Mst.cmd z (putF' (L.device.toNat + j) none) S) M = ((M.cmd z (putF' L.device.toNat none)).cmd z (putF' (L.device.toNat + 1) none)) := rfl
      rw [e2] at hm2 mw2
      unfold Mst.clear at hq
      generalize (M.cmd z (putF' L.device.toNat none)).cmd z (putF' (L.device.toNat + 1) none) = M2 at hm2 mw2 hq
      have s2 := st2.g.rh
      obtain ⟨dx2, sd2, gd2, fa2, kvs2, gvs2, hmo2, _⟩ := hm2.at
      fail "go"
      refine ⟨R2, mo, a, M2, F2, A, rfl, s2, hm2, fun H3 g3 hm3 => ?_⟩
      have s3 := g3.rh
      obtain ⟨m, ms, so, hm', msF, momsn, rz, close⟩ := hm3.side hsA
      obtain ⟨d, ds, ems, ⟨⟨sx, hs⟩, nin, non, dev⟩⟩ := id so
      obtain ⟨rw', _⟩ := mw2.rows _ (show (z, m) ∈ M2.es ++ M2.gs from hm')
      clear hm2 hmo2 s2
      fail "go"
      refine ⟨_, R2, s, a, z, m, ms, rfl, s3, so, rw'.wi, fun H4 ms4 g4 nw4 so4 => ?_⟩
      obtain ⟨F4, hm4, st4⟩ := close R2 H4 ms4 (barF M2.pw.tick.dark) g4 nw4 so4
      fail "go"
      exact hq R2 H4 F4 hm4 ((st2.trans (Step.of g3)).trans st4)
end
def spMirRead (K : PySem.W.Frag) (CL CM CS CD : Addr) : Sp := fun vs H Q _ => ∃ (R : Hp) (mo a : Addr) (L : Lay) (M : Mst) (F : List Addr) (A : List (Int × Addr)) (n : Int) (b : Option Blk) (k : Nat), vs = [.ref mo, .int n] ∧ Same R H ∧ LayAt CL R a L ∧ L.Ok ∧ MirOk K CM CS CD R H mo a M F A ∧ MsW L k M ∧ (0 ≤ n → n < L.device → b = M.read L n.toNat) ∧ (n < 0 ∨ L.device ≤ n → b = none) ∧
  ∀ v H', Same H H' → Dp K R v (optD b) → Q v H'
def MrInv (H0 : Hp) (mo : Addr) (n : Nat) (zs : List Int) (f : Int → Option Blk) (i : Nat) (σ : St) (H : Hp) : Prop := ∃ x y : Option V, σ = [some (.ref mo), some (.int (n : Int)), x, y] ∧ Same H0 H ∧ ∀ z ∈ zs.take i, f z = none
section
variable {P : Program} {w : World} {K : PySem.W.Frag} {mg : Str → Option Value} {base : Heap}
theorem ok_Mirror_read (T : Txt P K mg) : FnOk P w K mg base CX0 8 T.f_Mirror_read T.fd_Mirror_read ["self", "address"] (spMirRead K T.C_Layout T.C_Mirror T.C_Side T.C_Device) := by
  have cl_Layout := T.cl_Layout
  have cl_Mirror := T.cl_Mirror
  have a_Layout_device_blocks := T.a_Layout_device_blocks
  have a_Mirror_layout := T.a_Mirror_layout
  have a_Mirror_sides := T.a_Mirror_sides
  have G_Mirror_members := ok_Mirror_members (P := P) (w := w) (base := base) T
  have G_Side_read := ok_Side_read (P := P) (w := w) (base := base) T
  refine T.F_Mirror_read.ok sc_Mirror_read (fun vs H Q E h => ?_) (fun cdv A outer s H vs Q E hr h => ?_)
  · obtain ⟨R, mo, a, L, M, F, A, n, bo, k, rfl, sR, ⟨lx, haf⟩, hL, hm, mw, hin, hout, hq⟩ := h
    rfl
  · obtain ⟨R, mo, a, L, M, F, A, n, bo, k, rfl, sR, ⟨lx, haf⟩, hL, hm, mw, hin, hout, hq⟩ := h
    refine ⟨_, (pss_cons (ps_if (PW.pt (pw_or (pt_cmpR op_lt (pv 1) pe_int (nomark _)) (pw_or1 (pt_cmpR op_ge (pv 1) (pe_fldK (K := K) (pe_fldK (K := K) (pv 0) rfl) rfl) (nomark _))))) (pss_one (ps_ret pe_non)) pss_nil)
      (pss_cons (ps_for PassesOwn.never rfl (pi_tupK (K := K) (pe_meth0 (pv 0) T.cl_Mirror T.m_Mirror_members G_Mirror_members (hr.mono (by decide)) T.b_Mirror_members .nil pass0)) (pg_name (i := 2) sc_Mirror_read.nd rfl (by first | exact Or.inl rfl | exact Or.inr rfl)) (pss_cons (ps_set (i := 3) sc_Mirror_read.nd rfl (by first | exact Or.inl rfl | exact Or.inr rfl) (pe_meth (pe_dget (hu_of hr) (pe_fldK (K := K) (pv 0) rfl) (pv 2) (fun _ _ => rfl)) T.cl_Side T.m_Side_read G_Side_read (hr.mono (by decide)) T.b_Side_read .nil pass0 (pa_cons (pv 1) pa_nil)))
      (pss_one (ps_if (pt_cmpR opNotU (pv 3) pe_non (nomark _)) (pss_one (ps_ret (pv 3))) pss_nil))))
      (pss_one (ps_ret pe_non)))), ?_⟩
    try dsimp only [cxOf]
    have haH := sR _ _ haf
    obtain ⟨dx, sd, gd, fa, kvs, gvs, hmo, _⟩ := hm.at
    by_cases n0 : n < 0
    case pos =>
      obtain rfl := hout (.inl n0)
      fail "go"
      refine g_iteT (decide_eq_true n0) ?_
      fail "go"
      exact hq _ _ (Same.refl _) .non
    obtain ⟨n, rfl⟩ := Int.eq_ofNat_of_zero_le (show 0 ≤ n by omega)
    by_cases n1 : L.device ≤ (n : Int)
    case pos =>
      obtain rfl := hout (.inr n1)
      fail "go"
      refine g_iteT (decide_eq_true (by omega)) ?_
      fail "go"
      exact hq _ _ (Same.refl _) .non
    have hn : (n : Int) < L.device := by omega
    obtain rfl := hin (by omega) hn
    clear hin hout
    have hq : ∀ v H', Same H H' → Dp K R v (optD (M.read L n)) → Q v H' := hq
    fail "go"
    refine g_iteF (decide_eq_false (by omega)) ?_
    fail "go"
    refine ⟨R, mo, a, M, F, A, rfl, sR, hm, fun p H1 s1 np hp => ?_⟩
    have gm := Mu.ofSame (M := []) sR s1
    have hm1 := hm.frame gm.g fun _ _ => List.not_mem_nil
    have s01 := gm.g.rh
    clear haH hmo hm sR
    fail "go"
    refine g_TsW (SqT.of hp) ?_
    refine for_tup (K := K) (xs := M.seats.map V.int) (MrInv H1 mo n M.seats fun z => readC L n ((M.row z).seen.getD n none)) ⟨none, none, rfl, Same.refl H1, fun z hz => by rw [List.take_zero] at hz; cases hz⟩ (fun i σ HX _ ⟨_, _, _, sX, _⟩ => SqT.of (sX _ _ hp)) ?_ ?_
    · rintro i x σ H2 hi ⟨x0, y0, rfl, s2, none2⟩
      obtain ⟨z, hz, rfl⟩ := map_get hi
      have zk : z ∈ M.keys := seats_keys.mp (List.mem_of_getElem? hz)
      have gm2 := Mu.ofSame (M := []) s01 s2
      have hm2 := hm1.frame gm2.g fun _ _ => List.not_mem_nil
      have s02 := gm2.g.rh
      obtain ⟨dx3, sd3, gd3, fa3, kvs3, gvs3, hmo3, hsd3, _, _, _, key3, _⟩ := hm2.at
      obtain ⟨s, hvs, hsA⟩ := key3 z zk
      obtain ⟨m, ms, so, hm', msF, momsn, rz, close⟩ := hm2.side hsA
      obtain ⟨d, ds, ems, ⟨⟨sx, hs⟩, nin, non, dev⟩⟩ := id so
      obtain ⟨rw', _⟩ := mw.rows _ (show (z, m) ∈ M.es ++ M.gs from hm')
      have rw' : RsW L k m := rw'
      have ln := rw'.ln
      have hlt : n < m.seen.length := by omega
      have hc : m.seen[n]? = some (m.seen.getD n none) := by rw [List.getD_eq_getElem?_getD, List.getElem?_eq_getElem hlt]; rfl
      clear hm1 hp s01 close
      fail "go"
      refine g_DgI hsd3 hvs ?_
      fail "go"
      refine ⟨_, R, s, a, L, z, m, ms, n, m.seen.getD n none, rfl, s02, ⟨_, haf⟩, hL, so, hc, (rw'.c2 _ (List.mem_of_getElem? hc)).ok hL, fun v H3 s3 dv => ?_⟩
      have fz : (fun z => readC L n ((M.row z).seen.getD n none)) z = readC L n (m.seen.getD n none) := by show readC L n ((M.row z).seen.getD n none) = _; rw [rz]
      fail "go"
      rcases optV dv with ⟨e, rfl⟩ | ⟨b, t, e, rfl⟩
      · fail "go"
        refine ⟨_, _, rfl, s2.trans s3, fun y hy => ?_⟩
        rw [take_snoc hz] at hy
        rcases List.mem_append.mp hy with hy | hy
        · exact none2 y hy
        · rw [List.mem_singleton.mp hy, fz]; exact e
      · fail "go"
        refine hq _ _ (s1.trans (s2.trans s3)) ?_
        have : M.read L n = some b := fs_some none2 hz (fz.trans e)
        rw [this, ← e]
        exact dv
    · rintro σ H2 ⟨x0, y0, rfl, s2, none2⟩
      rw [List.length_map, List.take_length] at none2
      fail "go"
      refine hq _ _ (s1.trans s2) ?_
      have : M.read L n = none := List.findSome?_eq_none_iff.mpr none2
      rw [this]
      exact .non
end
def spContent (K : PySem.W.Frag) (CL CM CS CD : Addr) : Sp := fun vs H Q _ => ∃ (R : Hp) (mo a : Addr) (L : Lay) (M : Mst) (F : List Addr) (A : List (Int × Addr)) (k : Nat), vs = [.ref mo] ∧ Same R H ∧ LayAt CL R a L ∧ L.Ok ∧ (0 ≤ L.device ∧ L.device < 900) ∧ MirOk K CM CS CD R H mo a M F A ∧ MsW L k M ∧
  ∀ p us H', Same H H' → H p = none → H' p = some (.lst us) → DpAll K R us ((M.content L).map optD) → Q (.ref p) H'
def McInv (K : PySem.W.Frag) (R H0 : Hp) (D : Addr) (L : Lay) (M : Mst) (i : Nat) (H : Hp) : Prop := ∃ us, Same H0 H ∧ H D = some (.lst us) ∧ DpAll K R us (((List.range i).map (M.read L)).map optD)
section
variable {P : Program} {w : World} {K : PySem.W.Frag} {mg : Str → Option Value} {base : Heap}
theorem ok_Mirror_content (T : Txt P K mg) : FnOk P w K mg base CX0 9 T.f_Mirror_content T.fd_Mirror_content ["self"] (spContent K T.C_Layout T.C_Mirror T.C_Side T.C_Device) := by
  have cl_Layout := T.cl_Layout
  have cl_Mirror := T.cl_Mirror
  have a_Layout_device_blocks := T.a_Layout_device_blocks
  have a_Mirror_layout := T.a_Mirror_layout
  have G_Mirror_read := ok_Mirror_read (P := P) (w := w) (base := base) T
  refine T.F_Mirror_content.ok sc_Mirror_content (fun vs H Q E h => ?_) (fun cdv A outer s H vs Q E hr h => ?_)
  · obtain ⟨R, mo, a, L, M, F, A, k, rfl, sR, ⟨lx, haf⟩, hL, hdev, hm, mw, hq⟩ := h
    rfl
  · obtain ⟨R, mo, a, L, M, F, A, k, rfl, sR, ⟨lx, haf⟩, hL, hdev, hm, mw, hq⟩ := h
    refine ⟨_, (pss_one (ps_ret (pe_lc (own := [("address", 1)]) (g := gName 1) (tt := tYes) rfl sc_Mirror_content.nd (pi_range1 rfl T.n_range (pa_cons (pe_fldK (K := K) (pe_fldK (K := K) (pv 0) rfl) rfl) pa_nil)) (blkOk_by (N := N_Mirror_content) (sc := defScope s_Mirror_content) (by decide +kernel)) (fun _ _ _ _ _ => (pg_name (i := 1) sc_Mirror_content.nd rfl (by first | exact Or.inl rfl | exact Or.inr rfl))) (fun _ _ _ _ _ => pts_nil) (fun _ _ _ _ _ => (pe_meth (pv 0) T.cl_Mirror T.m_Mirror_read G_Mirror_read (hr.mono (by decide)) T.b_Mirror_read .nil pass0 (pa_cons (pv 1) pa_nil)))))), ?_⟩
    try dsimp only [cxOf]
    have haH := sR _ _ haf
    obtain ⟨dx, sd, gd, fa, kvs, gvs, hmo, _⟩ := hm.at
    fail "go"
    refine g_R1W (n := L.device.toNat) (by omega) (by omega) fun D nD => ?_
    refine lc_range (lo := 0) (n := L.device.toNat) (McInv K R H D L M) ⟨[], (Gr.newM (M := []) sR nD).same, upd_same, .nil⟩ ?_ ?_
    · rintro i H1 hi ⟨us, s1, hD1, du⟩
      rw [Int.zero_add]
      have gm := Mu.ofSame (M := []) sR s1
      have hm1 := hm.frame gm.g fun _ _ => List.not_mem_nil
      have s01 := gm.g.rh
      have hmo1 := s1 _ _ hmo
      have ul := dpAll_len du
      rw [List.length_map, List.length_map, List.length_range] at ul
      clear haH hmo
      refine ⟨rfl, ?_⟩
      fail "go"
      refine ⟨R, mo, a, L, M, F, A, i, M.read L i, k, rfl, s01, ⟨_, haf⟩, hL, hm1, mw, fun _ _ => rfl, fun h => by omega, fun v H2 s2 dv => ?_⟩
      have hD2 := s2 _ _ hD1
      refine ⟨_, hD2, by rw [ul]; fail "sz", us ++ [v], fun b o e => ?_, upd_same, ?_⟩
      · rw [upd_ne (ne_of_none e nD)]; exact s2 _ _ (s1 _ _ e)
      · rw [List.range_succ, List.map_append, List.map_append]
        exact dpAll_app du (.cons dv .nil)
    · rintro H1 ⟨us, s1, hD1, du⟩
      fail "go"
      exact hq _ us _ s1 nD hD1 du
end
def spJoin (K : PySem.W.Frag) (CL CM CS CD : Addr) : Sp := fun vs H Q _ => ∃ (R : Hp) (mo a s : Addr) (z : Int) (m : Rows) (ms : List Addr) (L : Lay) (M : Mst) (F : List Addr) (A : List (Int × Addr)) (stale : Bool) (k : Nat), vs = [.ref mo, .ref s, .bl stale] ∧ Same R H ∧ LayAt CL R a L ∧ L.Ok ∧ (0 ≤ L.device ∧ L.device < 900) ∧ MirOk K CM CS CD R H mo a M F A ∧ MsW L k M ∧ k ≤ 60000 ∧ M.gs = [] ∧ z ∉ M.keys ∧ 0 ≤ z ∧ z < 3 ∧ SideOkD false K CS CD R H s a z m ms ∧ Dj ms F ∧ RsW L k m ∧
  ∀ R' H' F', MirOk K CM CS CD R' H' mo a ((M.guest z m).join L z stale) F' (A ++ [(z, s)]) → Step (F ++ ms) F' R H R' H' → Q .non H'
section
variable {P : Program} {w : World} {K : PySem.W.Frag} {mg : Str → Option Value} {base : Heap}
theorem ok_Mirror_join (T : Txt P K mg) : FnOk P w K mg base CX0 11 T.f_Mirror_join T.fd_Mirror_join ["self", "side", "stale"] (spJoin K T.C_Layout T.C_Mirror T.C_Side T.C_Device) := by
  have cl_Mirror := T.cl_Mirror
  have cl_Side := T.cl_Side
  have a_Mirror_guests := T.a_Mirror_guests
  have a_Side_seat := T.a_Side_seat
  have a_Mirror_dark := T.a_Mirror_dark
  have a_Side_device := T.a_Side_device
  have a_Mirror_generation := T.a_Mirror_generation
  have a_Mirror_sides := T.a_Mirror_sides
  have a_Mirror_forks := T.a_Mirror_forks
  have G_Device_cut_after := ok_Device_cut_after (P := P) (w := w) (base := base) T
  have G_Mirror_clear_labels := ok_Mirror_clear_labels (P := P) (w := w) (base := base) T
  have G_Mirror_copy_to := ok_Mirror_copy_to (P := P) (w := w) (base := base) T
  have G_Mirror_content := ok_Mirror_content (P := P) (w := w) (base := base) T
  have G_Mirror_members := ok_Mirror_members (P := P) (w := w) (base := base) T
  have G_Mirror_write_labels := ok_Mirror_write_labels (P := P) (w := w) (base := base) T
  refine T.F_Mirror_join.ok sc_Mirror_join (fun vs H Q E h => ?_) (fun cdv A outer s H vs Q E hr h => ?_)
  · obtain ⟨R, mo, a, s, z, m, ms, L, M, F, A, stale, k, rfl, sR, ha, hL, hdev, hm, mw, k9, g0, zk, z0, z3, so, djm, mwm, hq⟩ := h
    rfl
  · obtain ⟨R, mo, a, s, z, m, ms, L, M, F, A, stale, k, rfl, sR, ha, hL, hdev, hm, mw, k9, g0, zk, z0, z3, so, djm, mwm, hq⟩ := h
    refine ⟨_, (pss_cons (ps_dput (hu_of hr) (pe_fldK (K := K) (pv 0) rfl) (pe_fldK (K := K) (pv 1) rfl) (pv 1) (by rfl))
      (pss_cons (ps_if (pt_truthK (K := K) (pe_fldK (K := K) (pv 0) rfl) (by intro _; rfl)) (pss_one (ps_expr (pe_meth (pe_fldK (K := K) (pv 1) rfl) T.cl_Device T.m_Device_cut_after G_Device_cut_after (hr.mono (by decide)) T.b_Device_cut_after .nil pass0 (pa_cons pe_int pa_nil)))) pss_nil)
      (pss_cons (ps_if (pt_truthK (K := K) (pv 2) (by intro _; rfl)) (pss_one (ps_expr (pe_meth (pv 0) T.cl_Mirror T.m_Mirror_clear_labels G_Mirror_clear_labels (hr.mono (by decide)) T.b_Mirror_clear_labels .nil pass0 (pa_cons (pv 1) pa_nil)))) pss_nil)
      (pss_cons (ps_expr (pe_meth (pv 0) T.cl_Mirror T.m_Mirror_copy_to G_Mirror_copy_to (hr.mono (by decide)) T.b_Mirror_copy_to .nil pass0 (pa_cons (pv 1) (pa_cons (pe_meth0 (pv 0) T.cl_Mirror T.m_Mirror_content G_Mirror_content (hr.mono (by decide)) T.b_Mirror_content .nil pass0) pa_nil))))
      (pss_cons (ps_fld (pv 0) (pe_op (opAddU (K := K)) (pe_fldK (K := K) (pv 0) rfl) pe_int) rfl)
      (pss_cons (ps_set (i := 3) sc_Mirror_join.nd rfl (by first | exact Or.inl rfl | exact Or.inr rfl) (pe_callTy (callTupU (K := K)) (by rfl) T.n_tuple (by decide +kernel) (pa_cons (pe_callB (cr_sortedK (K := K)) (by rfl) T.n_sorted (by decide +kernel) (pa_cons (pe_op (opAddU (K := K)) (pe_callTy (call_listD rfl) (by rfl) T.n_list (by decide +kernel) (pa_cons (pe_fldK (K := K) (pv 0) rfl) pa_nil)) (pe_lst (pa_cons (pe_fldK (K := K) (pv 1) rfl) pa_nil))) pa_nil)) pa_nil)))
      (pss_cons (ps_set (i := 4) sc_Mirror_join.nd rfl (by first | exact Or.inl rfl | exact Or.inr rfl) (pe_tup (pa_cons (pe_fldK (K := K) (pv 0) rfl) (pa_cons (pv 3) (pa_cons (pe_meth0 (pv 0) T.cl_Mirror T.m_Mirror_members G_Mirror_members (hr.mono (by decide)) T.b_Mirror_members .nil pass0) (pa_cons (pe_fldK (K := K) (pv 0) rfl) pa_nil))))))
      (pss_cons (ps_expr (pe_meth (pv 0) T.cl_Mirror T.m_Mirror_write_labels G_Mirror_write_labels (hr.mono (by decide)) T.b_Mirror_write_labels .nil pass0 (pa_cons (pe_lst (pa_cons (pv 1) pa_nil)) (pa_cons (pv 4) pa_nil))))
      (pss_cons (ps_expr (pe_meth (pv 0) T.cl_Mirror T.m_Mirror_write_labels G_Mirror_write_labels (hr.mono (by decide)) T.b_Mirror_write_labels .nil pass0 (pa_cons (pe_lc (own := [("seat", 5)]) (g := gName 5) (tt := tYes) rfl sc_Mirror_join.nd (pi_tupK (K := K) (pe_meth0 (pv 0) T.cl_Mirror T.m_Mirror_members G_Mirror_members (hr.mono (by decide)) T.b_Mirror_members .nil pass0)) (blkOk_by (N := N_Mirror_join) (sc := defScope s_Mirror_join) (by decide +kernel)) (fun _ _ _ _ _ => (pg_name (i := 5) sc_Mirror_join.nd rfl (by first | exact Or.inl rfl | exact Or.inr rfl))) (fun _ _ _ _ _ => pts_nil) (fun _ _ _ _ _ => (pe_dget (hu_of hr) (pe_fldK (K := K) (pv 0) rfl) (pv 5) (fun _ _ => rfl)))) (pa_cons (pv 4) pa_nil))))
      (pss_one (ps_dput (hu_of hr) (pe_fldK (K := K) (pv 0) rfl) (pe_fldK (K := K) (pv 1) rfl) (pe_dpop1 (pe_fldK (K := K) (pv 0) rfl) (pe_fldK (K := K) (pv 1) rfl) ⟨rfl, rfl, rfl, rfl⟩) (by rfl)))))))))))), ?_⟩
    try dsimp only [cxOf]
    obtain ⟨sd, gd, fa, es, gs, rfl, h, e1, e2, eA⟩ := hm
    obtain rfl : gs = [] := by rw [g0] at e2; exact List.map_eq_nil_iff.mp e2
    obtain ⟨dx, hmo⟩ := h.obj
    have hsd := h.hsd
    have hgd := h.hgd
    obtain ⟨o1, o2⟩ := List.nodup_cons.mp h.own
    simp only [List.mem_cons, List.not_mem_nil, or_false, not_or] at o1
    obtain ⟨o3, o4⟩ := List.nodup_cons.mp o2
    simp only [List.mem_cons, List.not_mem_nil, or_false] at o3
    have Rgd := h.non gd (by simp)
    have ek : M.keys = es.map (·.z) := by unfold Mst.keys; rw [← e1, List.map_map]; rfl
    have ky := h.keys
    rw [List.append_nil] at ky djm eA
    have zs3 : ∀ y ∈ es.map (·.z), 0 ≤ y ∧ y < 3 := fun y hy => by
      obtain ⟨e, he, rfl⟩ := List.mem_map.mp hy
      have := mw.rows (e.z, e.m) (zm_append e1 e2 (by simpa using he))
      exact this.2
    have fw : es.length ≤ 2 := by
      have := keys_few ky zs3 z0 z3 (by rw [← ek]; exact zk)
      simpa using this
    obtain ⟨d, ds, ems, ⟨⟨sx, hs⟩, nin, non, dev⟩⟩ := id so
    fail "go"
    refine g_DpI hgd (by simp) ?_
    have ekv : putK (([] : List Ent).map Ent.kv) (.inl z) (.ref s) = [(Ent.mk z s m ms).kv] := rfl
    rw [ekv]
    fail "mut"
    rename_i H1 g1 hgd1 s1
    have gf : ∀ x ∈ ms, x ∉ [gd] := fun x hx hx' => djm x hx (by rw [List.mem_singleton.mp hx']; exact mem_foot.mpr (.inl (by simp)))
    have hmo1 := g1.g.hh _ _ (nin1 o1.2) hmo
    have hsd1 := g1.g.hh _ _ (nin1 o3) hsd
    have so1 := so.frame g1.g gf
    have se1 : ∀ e ∈ es, SideOkD M.pw.dark K T.C_Side T.C_Device R H1 e.s a e.z e.m e.ms := fun e he => (h.sides e (List.mem_append_left _ he)).frame g1.g fun x hx hx' => h.apart.1 e (List.mem_append_left _ he) gd (by simp) (by rw [← List.mem_singleton.mp hx']; exact hx)
    have st1 : Mu (foot [mo, sd, gd] es ++ ms) R H H1 := ⟨g1.g.mono fun x hx => by rw [List.mem_singleton.mp hx]; exact List.mem_append_left _ (mem_foot.mpr (.inl (by simp)))⟩
    have djm' : Dj (Ent.mk z s m ms).ms (foot [mo, sd, gd] es) := djm
    have zk' : (Ent.mk z s m ms).z ∉ es.map (·.z) := by rw [← ek]; exact zk
    have MA : ∀ HX, (∃ dx, HX mo = some (.ins T.C_Mirror dx [("layout", .ref a), ("sides", .ref sd), ("guests", .ref gd), ("generation", .int M.gen), ("forks", .ref fa), ("fuse", fuseV M.pw.fuse), ("dark", .bl M.pw.dark)])) → HX sd = some (.dK (es.map Ent.kv)) → HX gd = some (.dK [(Ent.mk z s m ms).kv]) → (∀ f ∈ es ++ [Ent.mk z s m ms], SideOkD M.pw.dark K T.C_Side T.C_Device R HX f.s a f.z f.m f.ms) → MirOk K T.C_Mirror T.C_Side T.C_Device R HX mo a (M.guest z m) (foot [mo, sd, gd] es ++ ms) (A ++ [(z, s)]) := fun HX ob hs1 hg1 so1 =>
      ⟨sd, gd, fa, es, [Ent.mk z s m ms], by unfold foot; rw [List.flatMap_append, List.append_assoc]; simp, h.guest ob hs1 hg1 so1 djm' zk' fw, e1, rfl, by rw [List.map_append, eA]; rfl⟩
    have mwG : MsW L k (M.guest z m) := mw.guest z0 z3 mwm
    have hq : ∀ R' H' F', MirOk K T.C_Mirror T.C_Side T.C_Device R' H' mo a ((M.guest z m).join L z stale) F' (A ++ [(z, s)]) → Step (foot [mo, sd, gd] es ++ ms) F' R H R' H' → Q .non H' := by simpa using hq
    have hzA : (z, s) ∈ A ++ [(z, s)] := List.mem_append_right _ (List.mem_singleton_self _)
    have djx : ∀ x ∈ foot [mo, sd, gd] es, x ∉ ms := fun x hx hx' => djm x hx' hx
    have apx : ∀ e ∈ es, ∀ x ∈ e.ms, x ∉ ms := fun e he x hx hx' => djx x (mem_foot.mpr (.inr ⟨e, he, hx⟩)) hx'
    have Al : A.length = M.keys.length := by rw [ek, ← eA]; simp
    clear hmo hsd hgd g1 sR so h ky e1 e2 eA o1 o2 o3 o4 djm' zk'
    obtain ⟨d1, ds1, ems1, ⟨⟨sx1, hs1⟩, nin1', non1, dev1⟩⟩ := id so1
    fail "gi"
    refine g_seqIN (fun σ H' => σ = [some (.ref mo), some (.ref s), some (.bl stale), none, none, none] ∧ MirOk K T.C_Mirror T.C_Side T.C_Device R H' mo a (M.guest z m) (foot [mo, sd, gd] es ++ ms) (A ++ [(z, s)]) ∧ Gr (foot [mo, sd, gd] es ++ ms) R H R H') ?_ (fun N rest => ?_)
    · clear so1 se1 st1 hmo1 hsd1 hgd1 s1 dev1 hs1 MA hs dev
      have MGk : (M.guest z m).keys = M.keys := rfl
      have zkG : z ∉ (M.guest z m).keys := zk
      have AlG : A.length = (M.guest z m).keys.length := Al
      generalize foot [mo, sd, gd] es ++ ms = F at hq ⊢
      generalize M.guest z m = MG at hq mwG zkG AlG ⊢
      clear MGk
      rintro σ H2 ⟨rfl, hm2, g2⟩
      have st2 := Step.of g2
      have s2 := g2.rh
      clear g2
      refine g_seqIN (fun σ H' => ∃ R' F', σ = [some (.ref mo), some (.ref s), some (.bl stale), none, none, none] ∧ MirOk K T.C_Mirror T.C_Side T.C_Device R' H' mo a (MG.join1 L z stale) F' (A ++ [(z, s)]) ∧ Step F F' R H R' H') ?_ (fun N rest => ?_)
      · have mw1 : MsW L (k + 3) (MG.join1 L z stale) := mwG.join1 hdev.1
        have zk1 : z ∉ (MG.join1 L z stale).keys := by rw [join1_keys]; exact zkG
        have Al1 : A.length = (MG.join1 L z stale).keys.length := by rw [join1_keys]; exact AlG
        clear hm2 st2 s2 mwG
        rintro σ H3 ⟨R3, F3, rfl, hm3, st3⟩
        unfold Mst.join at hq
        generalize MG.join1 L z stale = M3 at hm3 mw1 zk1 Al1 hq
        have s3 := st3.g.rh
        have a3 := ha.mono st3.g.rr
        obtain ⟨dx3, sd3, gd3, fa3, kvs3, gvs3, hmo3, _⟩ := hm3.at
        fail "go"
        refine ⟨R3, mo, a, L, M3, F3, _, k + 3, rfl, s3, a3, hL, hdev, hm3, mw1, fun c us H4 s4 nc hc du => ?_⟩
        have g4 := retR s3 s4 nc hc
        have hcR : upd R3 c (.lst us) c = some (.lst us) := upd_same
        generalize upd R3 c (.lst us) = R4 at g4 hcR
        have hm4 := hm3.frame g4 fun _ _ => List.not_mem_nil
        have st4 := st3.trans (Step.nil g4)
        have du4 := dpAll_mono g4.rr du
        have a4 := a3.mono g4.rr
        have s34 := g4.rh
        clear hm3 st3 hmo3 s3 a3 g4 s4 hc du
        fail "go"
        refine ⟨R4, mo, a, s, c, us, z, L, M3, F3, _, M3.content L, k + 3, rfl, s34, a4, hL, hdev, hm4, mw1, by omega, hzA, SqL.of hcR, du4, by rw [content_len]; omega, mw1.content_W, fun R5 H5 F5 hm5 st5 => ?_⟩
        have mw5 := mw1.copyTo (z := z) (bs := M3.content L) (by rw [content_len]; omega) mw1.content_W
        have zk5 : z ∉ (M3.copyTo L z (M3.content L)).keys := by rw [copyTo_keys]; exact zk1
        have Al5 : A.length = (M3.copyTo L z (M3.content L)).keys.length := by rw [copyTo_keys]; exact Al1
        have st05 := st4.trans st5
        rw [content_len] at mw5
        unfold Mst.join2 at hq
        generalize M3.copyTo L z (M3.content L) = M5 at hm5 mw5 zk5 Al5 hq
        have s5 := st05.g.rh
        have a5 := ha.mono st05.g.rr
        clear hm4 st4 du4 a4 s34 st5 mw1 zk1 Al1 hcR
        obtain ⟨dx5, sd5, gd5, fa5, kvs5, gvs5, hmo5, hsd5, hgd5, fk5, kl5, key5, nkey5, Rmo5, ke5⟩ := hm5.at
        fail "go"
        rename_i H6 g6 hmo6 s6
        obtain ⟨hm6, st6⟩ := hm5.up1 g6.g fun dx' sd' gd' fa' e => by rw [hmo5] at e; cases e; exact hmo6
        have mw6 := mw5.up1
        have zk6 : z ∉ M5.up1.keys := zk5
        have Al6 : A.length = M5.up1.keys.length := Al5
        have st06 := st05.trans st6
        have hmoA := hmo6
        obtain ⟨dx6, sd6, gd6, fa6, kvs6, gvs6, hmo6, hsd6, hgd6, fk6, kl6, key6, nkey6, Rmo6, ke6⟩ := hm6.at
        have eSd : some (V.ref sd5) = some (V.ref sd6) := lk_eq hmoA hmo6 "sides"
        cases eSd
        clear hm5 g6 st05 st6 s5 mw5 zk5 Al5 hmo5 hsd5 hgd5 fk5 kl5 key5 nkey5 Rmo5 ke5 hmoA
        generalize M5.up1 = M6 at *
        have k6l : M6.keys.length ≤ 3 := by have := congrArg List.length ke6; simp at this; omega
        obtain ⟨m6, ms6, so6, hm6', msF6, momsn6, rz6, close6⟩ := hm6.side hzA
        obtain ⟨d6, ds6, ems6, ⟨⟨sx6, hs6⟩, nin6, non6, dev6⟩⟩ := id so6
        clear close6
        refine ⟨sd5, kvs6, rfl, .inl hsd6, ?_⟩
        rw [keys_V ke6]
        fail "newM"
        rename_i p7 H7 n7 g7 m7 h7 s7
        have hs7 := g7.g.same _ _ hs6
        fail "go"
        refine ⟨by fail "sz", ?_⟩
        fail "newM"
        rename_i p8 H8 n8 g8 m8 h8 s8
        refine g_catI (l := M6.keys) (m := [z]) (g8.g.same _ _ h7) h8 (by simp; omega) ?_
        fail "newM"
        rename_i p9 H9 n9 g9 m9 h9 s9
        fail "go"
        refine ⟨p9, M6.keys ++ [z], rfl, SqL.of h9, by simp; omega, fun ns' pS hpS hoS nS => ?_⟩
        have eS := sortI_eq hpS hoS
        subst eS
        have gS : Mu [] R5 H9 (upd H9 pS (.lst ((sortI (M6.keys ++ [z])).map V.int))) := ⟨Gr.newM s9 nS⟩
        have hS : upd H9 pS (.lst ((sortI (M6.keys ++ [z])).map V.int)) pS = some (.lst ((sortI (M6.keys ++ [z])).map V.int)) := upd_same
        generalize upd H9 pS (.lst ((sortI (M6.keys ++ [z])).map V.int)) = HS at gS hS ⊢
        have gA : Gr [] R5 H6 R5 HS := g7.g.trans (g8.g.trans (g9.g.trans gS.g))
        have hmS := hm6.frame gA fun _ _ => List.not_mem_nil
        have stS := st06.trans (Step.nil gA)
        have sS := gA.rh
        have hmoS := gA.same _ _ hmo6
        clear g7 g8 g9 gS h7 h8 h9 hm6 st06 hmo6 hsd6 hgd6 hs6 hs7 s6 s7 s8 s9 so6 dev6 gA
        fail "go"
        refine g_tupL (SqL.of hS) ?_
        fail "newR"
        rename_i pm H10 R10 n10 g10 h10 s10
        have hm10 := hmS.frame g10 fun _ _ => List.not_mem_nil
        have st10 := stS.trans (Step.nil g10)
        have hmo10 := g10.same _ _ hmoS
        have fk10 := sqT_mono g10.rr fk6
        have a10 := a5.mono g10.rr
        clear hmS stS hmoS hS g10 fk6 a5 sS
        fail "go"
        refine ⟨R10, mo, a, M6, _, _, rfl, s10, hm10, fun pw H11 s11 n11 h11 => ?_⟩
        have g11 := retR s10 s11 n11 h11
        have hwR : upd R10 pw (.tup (M6.seats.map V.int)) pw = some (.tup (M6.seats.map V.int)) := upd_same
        generalize upd R10 pw (.tup (M6.seats.map V.int)) = R11 at g11 hwR
        have hm11 := hm10.frame g11 fun _ _ => List.not_mem_nil
        have st11 := st10.trans (Step.nil g11)
        have hmo11 := g11.same _ _ hmo10
        have fk11 := sqT_mono g11.rr fk10
        have a11 := a10.mono g11.rr
        have hmR := g11.rr _ _ h10
        have s111 := g11.rh
        clear hm10 st10 hmo10 h10 g11 fk10 a10 s10 s11
        fail "go"
        refine ⟨by fail "sz", ?_⟩
        fail "newR"
        rename_i pL H12 R12 n12 g12 h12 s12
        have lb12 : Dp K R12 (.ref pL) (M6.joinLb z).d := mkLb (SqT.of h12) (SqT.of (g12.rr _ _ hmR)) (SqT.of (g12.rr _ _ hwR)) (sqT_mono g12.rr fk11)
        have hm12 := hm11.frame g12 fun _ _ => List.not_mem_nil
        have st12 := st11.trans (Step.nil g12)
        have hmo12 := g12.same _ _ hmo11
        have a12 := a11.mono g12.rr
        clear hm11 st11 hmo11 h11 g12 fk11 a11 s111 hmR hwR h12
        fail "go"
        refine ⟨by fail "sz", ?_⟩
        fail "newR"
        rename_i pl H13 R13 n13 g13 h13 s13
        have lb13 := dp_mono g13.rr lb12
        have hm13 := hm12.frame g13 fun _ _ => List.not_mem_nil
        have st13 := st12.trans (Step.nil g13)
        have hmo13 := g13.same _ _ hmo12
        have a13 := a12.mono g13.rr
        clear hm12 st12 hmo12 g13 lb12 a12 s12
        fail "go"
        have g6r := mw6.gen
        have lbg : 0 ≤ (M6.joinLb z).gen ∧ (M6.joinLb z).gen < 281474976710656 := by show 0 ≤ M6.gen ∧ M6.gen < _; omega
        refine ⟨R13, mo, a, pl, _, L, M6, _, _, [(z, s)], M6.joinLb z, _, rfl, s13, a13, hL, hdev, hm13, mw6, by omega, SqL.of h13, fun q hq => by rw [List.mem_singleton.mp hq]; exact hzA, by simp, lb13, lbg.1, lbg.2, mw6.few, fun R14 H14 F14 hm14 st14 => ?_⟩
        have hm14 : MirOk K T.C_Mirror T.C_Side T.C_Device R14 H14 mo a (M6.labs L [z] (M6.joinLb z)) F14 (A ++ [(z, s)]) := hm14
        have mw14 := mw6.labs hL hdev.1 lbg.1 lbg.2 mw6.few (zs := [z]) (lb := M6.joinLb z)
        have st014 := st13.trans st14
        have lb14 := dp_mono st14.g.rr lb13
        have a14 := a13.mono st14.g.rr
        have zk14 : z ∉ (M6.labs L [z] (M6.joinLb z)).keys := by rw [labs_keys]; exact zk6
        have Al14 : A.length = (M6.labs L [z] (M6.joinLb z)).keys.length := by rw [labs_keys]; exact Al6
        have ks14 : (M6.labs L [z] (M6.joinLb z)).seats = M6.seats := labs_seats _ _ _ _
        have s14 := st014.g.rh
        unfold Mst.join3 at hq
        generalize M6.labs L [z] (M6.joinLb z) = M14 at hm14 mw14 zk14 Al14 ks14 hq
        rw [← ks14] at hq
        clear hm13 st13 st14 hmo13 lb13 a13 s13 h13
        obtain ⟨dx14, sd14, gd14, fa14, kvs14, gvs14, hmo14, _⟩ := hm14.at
        fail "go"
        refine ⟨R14, mo, a, M14, _, _, rfl, s14, hm14, fun p5 H15 s15 n15 h15 => ?_⟩
        have g15 := Mu.ofSame (M := []) s14 s15
        have st15 := st014.trans (Step.nil g15.g)
        have hm15 := hm14.frame g15.g fun _ _ => List.not_mem_nil
        have s145 := g15.g.rh
        clear hm14 hmo14 st014 g15 s14 s15
        obtain ⟨zs, ez, hzsA, zl⟩ := seat_sides hm15
        fail "go"
        refine g_TsW (SqT.of h15) fun D nD => ?_
        refine lc_tup (K := K) (a := p5) (xs := M14.seats.map V.int) (RlInv R14 H15 D zs) ⟨(Gr.newM (M := []) s145 nD).same, upd_same⟩ (fun j H' _ ⟨s, _⟩ => SqT.of (s _ _ h15)) ?_ ?_
        · rintro j x H16 hi ⟨s16, hD16⟩
          obtain ⟨y, hy, rfl⟩ := map_get hi
          rw [← ez, List.getElem?_map] at hy
          obtain ⟨⟨z', s1⟩, hq', rfl⟩ := Option.map_eq_some_iff.mp hy
          have g16 := Mu.ofSame (M := []) s145 s16
          have hm16 := hm15.frame g16.g fun _ _ => List.not_mem_nil
          obtain ⟨dx16, sd16, gd16, fa16, kvs16, gvs16, hmo16, hsd16, _, _, _, key16, _⟩ := hm16.at
          have zk' : z' ∈ M14.keys := by
            have : z' ∈ zs.map (·.1) := List.mem_map.mpr ⟨_, List.mem_of_getElem? hq', rfl⟩
            rw [ez] at this
            exact seats_keys.mp this
          obtain ⟨s', hv', hA'⟩ := key16 z' zk'
          obtain rfl := za_unique hm16 hA' (hzsA _ (List.mem_of_getElem? hq'))
          clear hm15 s145 h15 g16
          refine ⟨rfl, ?_⟩
          fail "go"
          refine g_DgI hsd16 hv' ?_
          refine ⟨_, hD16, by rw [List.length_map, List.length_take]; fail "sz", fun b o e => by rw [upd_ne (ne_of_none e nD)]; exact s16 _ _ e, ?_⟩
          rw [upd_same, List.take_add_one, hq', List.map_append]; rfl
        · rintro H16 ⟨s16, hD16⟩
          have el : (M14.seats.map V.int).length = zs.length := by rw [← ez]; simp
          rw [el, List.take_length] at hD16
          have g16 := retR s145 s16 nD hD16
          have hDR : upd R14 D (.lst (zs.map fun q => V.ref q.2)) D = some (.lst (zs.map fun q => V.ref q.2)) := upd_same
          generalize upd R14 D (.lst (zs.map fun q => V.ref q.2)) = R16 at g16 hDR
          have hm16 := hm15.frame g16 fun _ _ => List.not_mem_nil
          have st16 := st15.trans (Step.nil g16)
          have s166 := g16.rh
          have lb16 := dp_mono g16.rr lb14
          have a16 := a14.mono g16.rr
          clear hm15 st15 g16 s145 h15 lb14 a14
          obtain ⟨dx17, sd17, gd17, fa17, kvs17, gvs17, hmo17, _⟩ := hm16.at
          fail "go"
          refine ⟨R16, mo, a, D, _, L, M14, _, _, zs, M6.joinLb z, _, rfl, s166, a16, hL, hdev, hm16, mw14, by simp; omega, SqL.of hDR, hzsA, zl, lb16, lbg.1, lbg.2, mw6.few, fun R17 H17 F17 hm17 st17 => ?_⟩
          rw [ez] at hm17
          have hm17 : MirOk K T.C_Mirror T.C_Side T.C_Device R17 H17 mo a (M14.labs L M14.seats (M6.joinLb z)) F17 (A ++ [(z, s)]) := hm17
          have st017 := st16.trans st17
          have zk17 : z ∉ (M14.labs L M14.seats (M6.joinLb z)).keys := by rw [labs_keys]; exact zk14
          have Al17 : A.length = (M14.labs L M14.seats (M6.joinLb z)).keys.length := by rw [labs_keys]; exact Al14
          generalize M14.labs L M14.seats (M6.joinLb z) = M17 at hm17 zk17 Al17 hq
          have s17 := st017.g.rh
          clear hm16 hmo17 st16 st17 lb16 a16 s166 hDR
          obtain ⟨sdZ, gdZ, faZ, esZ, gsZ, rfl, hZ, f1, f2, fA⟩ := hm17
          have ekZ : M17.keys = esZ.map (·.z) := by unfold Mst.keys; rw [← f1, List.map_map]; rfl
          obtain ⟨eZ, rfl, q1, q2, fA'⟩ := za_split fA (by rw [Al17, ekZ, List.length_map])
          have heZ : eZ ∈ esZ ++ [eZ] := List.mem_append_right _ (List.mem_singleton_self _)
          have hrow := row_of f1 f2 hZ.keys heZ
          obtain ⟨dxZ, hmoZ⟩ := hZ.obj
          have hsdZ := hZ.hsd
          have hgdZ := hZ.hgd
          have soZ := hZ.sides
          obtain ⟨dZ, dsZ, emsZ, ⟨⟨sxZ, hsZ⟩, ninZ, nonZ, devZ⟩⟩ := id (soZ eZ heZ)
          rw [q1, q2] at hsZ
          have RgdZ := hZ.non gdZ (by simp)
          have RsdZ := hZ.non sdZ (by simp)
          obtain ⟨o1, o2⟩ := List.nodup_cons.mp hZ.own
          simp only [List.mem_cons, List.not_mem_nil, or_false, not_or] at o1
          obtain ⟨o3, o4⟩ := List.nodup_cons.mp o2
          simp only [List.mem_cons, List.not_mem_nil, or_false] at o3
          have sIn : s ∈ eZ.ms := by rw [emsZ, q2]; exact List.mem_cons_self
          have apZ : ∀ x ∈ [mo, sdZ, gdZ], ∀ f ∈ esZ ++ [eZ], x ∉ f.ms := fun x hx f hf => hZ.apart.1 f hf x hx
          have sgd : s ≠ gdZ := fun e => apZ gdZ (by simp) eZ heZ (by rw [← e]; exact sIn)
          fail "go"
          refine g_pop1 ?_
          fail "go"
          refine ⟨gdZ, rfl, .inl ⟨_, .inl hgdZ⟩, ?_⟩
          fail "go"
          refine ⟨_, .inl z, .ref s, hgdZ, rfl, by show valV [(Sum.inl eZ.z, V.ref eZ.s)] (.inl z) = _; rw [q1, q2]; exact valV_pos rfl, ?_⟩
          have edr : dropK ([eZ].map Ent.kv) (.inl z) = [] := by
            show dropK [(Sum.inl eZ.z, V.ref eZ.s)] (.inl z) = []
            rw [q1]; simp [dropK]
          rw [edr]
          fail "mut"
          rename_i HY gY hgY sY
          have hmoY := gY.g.hh _ _ (nin1 o1.2) hmoZ
          have hsdY := gY.g.hh _ _ (nin1 o3) hsdZ
          have hsY := gY.g.hh _ _ (nin1 sgd) hsZ
          have soY : ∀ f ∈ esZ ++ [eZ], SideOkD M17.pw.dark K T.C_Side T.C_Device R17 HY f.s a f.z f.m f.ms := fun f hf => (soZ f hf).frame gY.g fun x hx hx' => apZ gdZ (by simp) f hf (by rw [← List.mem_singleton.mp hx']; exact hx)
          have stY : Gr (foot [mo, sdZ, gdZ] (esZ ++ [eZ])) R17 H17 R17 HY := gY.g.mono fun x hx => by rw [List.mem_singleton.mp hx]; exact mem_foot.mpr (.inl (by simp))
          have stY' : Mu (foot [mo, sdZ, gdZ] (esZ ++ [eZ])) R17 H17 HY := ⟨stY⟩
          clear stY gY hmoZ hsdZ hgdZ soZ hsZ devZ s17
          fail "go"
          refine g_DpI hsdY (by rw [List.length_map]; have := hZ.few; rw [List.length_append] at this; omega) ?_
          have epk : putK (esZ.map Ent.kv) (.inl z) (.ref s) = (esZ ++ [eZ]).map Ent.kv := by
            rw [putK_new _ (ent_none (by rw [← ekZ]; exact zk17)), List.map_append]
            show _ ++ [(Sum.inl z, V.ref s)] = _ ++ [(Sum.inl eZ.z, V.ref eZ.s)]
            rw [q1, q2]
          rw [epk]
          fail "mut"
          rename_i HX gX hsdX sX
          have hmoX := gX.g.hh _ _ (nin1 o1.1) hmoY
          have hgX := gX.g.hh _ _ (nin1 (Ne.symm o3)) hgY
          have soX : ∀ f ∈ esZ ++ [eZ], SideOkD M17.pw.dark K T.C_Side T.C_Device R17 HX f.s a f.z f.m f.ms := fun f hf => (soY f hf).frame gX.g fun x hx hx' => apZ sdZ (by simp) f hf (by rw [← List.mem_singleton.mp hx']; exact hx)
          have stX : Gr (foot [mo, sdZ, gdZ] (esZ ++ [eZ])) R17 H17 R17 HX := stY'.g.trans (gX.g.mono fun x hx => by rw [List.mem_singleton.mp hx]; exact mem_foot.mpr (.inl (by simp)))
          have fin := hZ.admit ⟨_, hmoX⟩ hsdX hgX soX
          fail "go"
          refine hq R17 HX _ ⟨sdZ, gdZ, faZ, _, [], rfl, fin, ?_, rfl, ?_⟩ (st017.trans ((Step.of stX).up (fun x hx => hx) fun x hx => ?_))
          · show (esZ ++ [eZ]).map Ent.zm = M17.es ++ [(z, M17.row z)]
            rw [List.map_append, f1, ← q1, hrow]; rfl
          · rw [List.append_nil, ← fA]
          · rw [List.append_nil] at hx
            exact .inl hx
      · have cl : stale = false → MG.join1 L z stale = MG := fun e => by subst e; rfl
        have ct : stale = true → MG.join1 L z stale = MG.clear L z := fun e => by subst e; rfl
        have s2' := st2.g.rh
        have a2 := ha.mono st2.g.rr
        fail "go"
        refine ⟨_, rfl, ?_⟩
        cases stale with
        | false =>
          fail "go"
          exact rest _ _ ⟨R, _, rfl, by rw [cl rfl]; exact hm2, st2⟩
        | true =>
          obtain ⟨dx2, sd2, gd2, fa2, kvs2, gvs2, hmo2, _⟩ := hm2.at
          fail "go"
          refine ⟨R, mo, a, s, z, L, MG, F, _, k, rfl, s2', a2, hL, hdev, hm2, mwG, by omega, hzA, fun R3 H3 F3 hm3 st3 => ?_⟩
          fail "go"
          exact rest _ _ ⟨R3, F3, rfl, by rw [ct rfl]; exact hm3, st2.trans st3⟩
    · fail "go"
      refine ⟨_, rfl, ?_⟩
      cases hdk : M.pw.dark with
      | false =>
        fail "go"
        refine rest _ _ ⟨rfl, MA _ ⟨_, hmo1⟩ hsd1 hgd1 (fun f hf => ?_), st1.g⟩
        rcases List.mem_append.mp hf with hf | hf
        · exact se1 f hf
        · rw [List.mem_singleton] at hf
          subst hf
          rw [hdk]; exact so1
      | true =>
        obtain ⟨ddx1, k1', k2', k3', ff', bb', hdd1⟩ := dev1.ins
        fail "go"
        refine ⟨false, R, d1, a, m, ds1, rfl, s1, dev1, fun H2 g2 dev2 => ?_⟩
        have dsm : ∀ x ∈ ds1, x ∈ ms := fun x hx => by rw [ems1]; exact List.mem_cons_of_mem _ hx
        have fo : ∀ x ∈ [mo, sd, gd], x ∉ ds1 := fun x hx hx' => djx x (mem_foot.mpr (.inl hx)) (dsm x hx')
        fail "go"
        refine rest _ _ ⟨rfl, MA _ ⟨_, g2.hh _ _ (fo _ (by simp)) hmo1⟩ (g2.hh _ _ (fo _ (by simp)) hsd1) (g2.hh _ _ (fo _ (by simp)) hgd1) (fun f hf => ?_), st1.g.trans (g2.mono fun x hx => List.mem_append_right _ (dsm x hx))⟩
        rcases List.mem_append.mp hf with hf | hf
        · exact (se1 f hf).frame g2 fun x hx hx' => apx f hf x hx (dsm x hx')
        · rw [List.mem_singleton] at hf
          subst hf
          rw [hdk]
          exact ⟨d1, ds1, ems1, ⟨⟨sx1, g2.hh _ _ nin1' hs1⟩, nin1', non1, dev2⟩⟩
end
def sideV : Option Ent → V
  | none => .non
  | some e => .ref e.s
def zst (e : Ent) : Int × Rows := (e.z, e.m.settle)
def sidesOf (os : List (Option Ent)) : List (Int × Rows) := (os.filterMap id).map zst
def spAsmX (K : PySem.W.Frag) (CL CM CS CD CN CE : Addr) : Sp := fun vs H Q E => ∃ (R : Hp) (p a : Addr) (L : Lay) (os : List (Option Ent)) (force : Bool) (c : Option Int), vs = [.ref p, .bl force, fuseV c] ∧ Same R H ∧ LayAt CL R a L ∧ L.Ok ∧ (0 ≤ L.device ∧ L.device < 900) ∧ TupIn R H ∧ H p = some (.lst (os.map sideV)) ∧ os.length ≤ 3 ∧
  (∀ e ∈ os.filterMap id, SideOkD false K CS CD R H e.s a e.z e.m e.ms ∧ RsW L 100 e.m ∧ 0 ≤ e.z ∧ e.z < 3) ∧ ((sidesOf os).map (·.1)).Nodup ∧
  (folLb L (sidesOf os) = none → ∀ H', Same H H' → E (.ref CN) none H') ∧
  ∀ l, folLb L (sidesOf os) = some l → (0 ≤ l.gen ∧ l.gen ≤ 100) ∧ l.forks.length < 16 ∧ (∀ x ∈ l.forks, 0 ≤ x ∧ x < 16777216) ∧
    (missOf l (curOf L l (sidesOf os)) ≠ [] → force = false → ∀ H' d t, Same H H' → H' d = some (.xd [("missing", .ref t)]) → SqT K H' t ((missOf l (curOf L l (sidesOf os))).map V.int) → E (.ref CE) (some d) H') ∧
    ∀ z m, (curOf L l (sidesOf os)).head? = some (z, m) → (missOf l (curOf L l (sidesOf os)) = [] ∨ force = true) → ∀ R' H' mo F A, MirOk K CM CS CD R' H' mo a (asmOf L l (sidesOf os) z m c) F A → Gr [] R H R' H' → (∀ x ∈ F, H x = none) → Q (.ref mo) H'
structure SeInv (K : PySem.W.Frag) (CS CD : Addr) (R H : Hp) (a D : Addr) (os : List (Option Ent)) (i : Nat) (H' : Hp) (es : List Ent) : Prop where
  hD : H' D = some (.lst (es.map fun e => V.ref e.s))
  zm : es.map Ent.zm = sidesOf (os.take i)
  g : Gr [D] R (upd H D (.lst [])) R H'
  ok : ∀ e ∈ es, SideOkD false K CS CD R H' e.s a e.z e.m e.ms
  pw : es.Pairwise fun e f => Dj e.ms f.ms
  fr : ∀ e ∈ es, D ∉ e.ms ∧ ∀ y ∈ e.ms, H y = none
theorem labOk_of {L : Lay} (hL : L.Ok) (d : 0 ≤ L.device ∧ L.device < 900) {k : Nat} {m : Rows} (w : RsW L k m) : LabOk L m := ⟨w.ln, d, fun c hc => ⟨(w.c2 c hc).ok hL, (w.c2 c hc).octblk hL⟩⟩
theorem sidesOf_snoc {os : List (Option Ent)} {i : Nat} {o : Option Ent} (h : os[i]? = some o) : sidesOf (os.take (i + 1)) = sidesOf (os.take i) ++ (match o with | none => [] | some e => [zst e]) := by
  unfold sidesOf
  have e : os.take (i + 1) = os.take i ++ [o] := by rw [List.take_add_one, h]; rfl
  rw [e, List.filterMap_append, List.map_append]
  cases o <;> rfl
section
variable {P : Program} {w : World} {K : PySem.W.Frag} {mg : Str → Option Value} {base : Heap}
theorem ok_assemble__x (T : Txt P K mg) : FnOk P w K mg base (L2.CX P w) 12 T.f_assemble T.fd_assemble ["seats", "force", "cut"] (spAsmX K T.C_Layout T.C_Mirror T.C_Side T.C_Device T.C_NoMirror T.C_Degraded) := by
  have cl_Side := T.cl_Side
  have cl_Layout := T.cl_Layout
  have a_Side_seat := T.a_Side_seat
  have a_Layout_device_blocks := T.a_Layout_device_blocks
  have a_Side_layout := T.a_Side_layout
  have G_Side_settled := ok_Side_settled (P := P) (w := w) (base := base) T
  have G_label_to_follow := ok_label_to_follow (P := P) (w := w) (base := base) T
  have G_is_current := ok_is_current (P := P) (w := w) (base := base) T
  have G_Degraded___init__ := ok_Degraded___init__ (P := P) (w := w) (base := base) T
  have G_fork_of := ok_fork_of (P := P) (w := w) (base := base) T
  have G_first_whole := ok_first_whole (P := P) (w := w) (base := base) T
  have G_Mirror___init__ := ok_Mirror___init__ (P := P) (w := w) (base := base) T
  have G_Mirror_cut_after := ok_Mirror_cut_after (P := P) (w := w) (base := base) T
  have G_Mirror_copy_to := ok_Mirror_copy_to (P := P) (w := w) (base := base) T
  have G_Mirror_relabel := ok_Mirror_relabel (P := P) (w := w) (base := base) T
  have G_Mirror_join := ok_Mirror_join (P := P) (w := w) (base := base) T
  refine Fun.okC T.F_assemble sc_assemble (fun vs H Q E h => ?_) (fun cdv A outer s H vs Q E hr h => ?_)
  · obtain ⟨R, p, a, L, os, force, c, rfl, sR, ha, hL, hdev, hT, hp, ol, hes, nd, hN, hS⟩ := h
    rfl
  · obtain ⟨R, p, a, L, os, force, c, rfl, sR, ha, hL, hdev, hT, hp, ol, hes, nd, hN, hS⟩ := h
    refine ⟨_, (pss_cons (ps_setLc (i := 4) (own := [("side", 3)]) (g := gName 3) (tt := _) rfl sc_assemble.nd rfl rfl (sw_true rfl rfl rfl (by decide +kernel)) (pi_listK (K := K) (pv 0)) (blkOk_by (N := N_assemble) (sc := defScope s_assemble) (by decide +kernel)) (fun _ _ _ _ _ => (pg_name (i := 3) sc_assemble.nd rfl (by first | exact Or.inl rfl | exact Or.inr rfl))) (fun _ _ _ _ _ => pts_one (pt_cmpR opNotU (pv 3) pe_non (nomark _))) (fun _ _ _ _ _ => (pe_meth0 (pv 3) T.cl_Side T.m_Side_settled G_Side_settled (hr.mono (by decide)) T.b_Side_settled .nil pass0)))
      (pss_cons (ps_set (i := 5) sc_assemble.nd rfl (by first | exact Or.inl rfl | exact Or.inr rfl) (pe_call G_label_to_follow (hr.mono (by decide)) rfl T.g_label_to_follow T.F_label_to_follow.kp T.b_label_to_follow .nil pass0 (pa_cons (pv 4) pa_nil)))
      (pss_cons (ps_if (pt_cmpR opIsU (pv 5) pe_non (nomark _)) (pss_one (ps_raise rfl (takes_of rfl rfl rfl rfl) (pmk_own PySem.F.excBase_ValueError T.xP_NoMirror T.g_NoMirror T.kP_NoMirror (raises_own T.bP_NoMirror T.tP_NoMirror) rfl))) pss_nil)
      (pss_cons (ps_set (i := 6) sc_assemble.nd rfl (by first | exact Or.inl rfl | exact Or.inr rfl) (pe_lc (own := [("side", 3)]) (g := gName 3) (tt := _) rfl sc_assemble.nd (pi_listK (K := K) (pv 4)) (blkOk_by (N := N_assemble) (sc := defScope s_assemble) (by decide +kernel)) (fun _ _ _ _ _ => (pg_name (i := 3) sc_assemble.nd rfl (by first | exact Or.inl rfl | exact Or.inr rfl))) (fun _ _ _ _ _ => pts_one (pt_truthK (K := K) (pe_call G_is_current (hr.mono (by decide)) rfl T.g_is_current T.F_is_current.kp T.b_is_current .nil pass0 (pa_cons (pv 3) (pa_cons (pv 5) pa_nil))) (by intro _; rfl))) (fun _ _ _ _ _ => (pv 3))))
      (pss_cons (ps_set (i := 7) sc_assemble.nd rfl (by first | exact Or.inl rfl | exact Or.inr rfl) (pe_lc (own := [("side", 3)]) (g := gName 3) (tt := tYes) rfl sc_assemble.nd (pi_listK (K := K) (pv 6)) (blkOk_by (N := N_assemble) (sc := defScope s_assemble) (by decide +kernel)) (fun _ _ _ _ _ => (pg_name (i := 3) sc_assemble.nd rfl (by first | exact Or.inl rfl | exact Or.inr rfl))) (fun _ _ _ _ _ => pts_nil) (fun _ _ _ _ _ => (pe_fldK (K := K) (pv 3) rfl))))
      (pss_cons (ps_set (i := 8) sc_assemble.nd rfl (by first | exact Or.inl rfl | exact Or.inr rfl) (pe_callTy (callTupU (K := K)) (by rfl) T.n_tuple (by decide +kernel) (pa_cons (pe_lc (own := [("seat", 14)]) (g := gName 14) (tt := _) rfl sc_assemble.nd (pi_tupK (K := K) (pe_ix (ixU (K := K)) (pv 5) pe_int (fun _ _ => rfl))) (blkOk_by (N := N_assemble) (sc := defScope s_assemble) (by decide +kernel)) (fun _ _ _ _ _ => (pg_name (i := 14) sc_assemble.nd rfl (by first | exact Or.inl rfl | exact Or.inr rfl))) (fun _ _ _ _ _ => pts_one (pt_cmpR (opNinF (K := K)) (pv 14) (pv 7) (by rfl))) (fun _ _ _ _ _ => (pv 14))) pa_nil)))
      (pss_cons (ps_if (PW.pt (pw_and (pt_truthK (K := K) (pv 8) (by intro _; rfl)) (pw_and1 (PW.pt (pw_or (pt_not (pt_truthK (K := K) (pv 1) (by intro _; rfl))) (pw_or1 (pt_cmpR (opEqU (K := K) hr.units) (pe_callB (callLenU (K := K)) (by rfl) T.n_len (by decide +kernel) (pa_cons (pe_ix (ixU (K := K)) (pv 5) pe_int (fun _ _ => rfl)) pa_nil)) (pe_glob rfl T.g_MOST_FORKS T.r_MOST_FORKS) (nomark _)))))))) (pss_one (ps_raise rfl (takes_of rfl rfl rfl rfl) (pmk_oex T.ox_Degraded T.iC_Degraded T.tI_Degraded G_Degraded___init__ (hr.mono (by decide)) T.b_Degraded___init__ .nil pass0 rfl T.g_Degraded (pa_cons (pv 8) pa_nil)))) pss_nil)
      (pss_cons (ps_set (i := 9) sc_assemble.nd rfl (by first | exact Or.inl rfl | exact Or.inr rfl) (pe_ix (ixU (K := K)) (pv 6) pe_int (fun _ _ => rfl)))
      (pss_cons (ps_set (i := 10) sc_assemble.nd rfl (by first | exact Or.inl rfl | exact Or.inr rfl) (pe_ix (ixU (K := K)) (pv 5) pe_int (fun _ _ => rfl)))
      (pss_cons (ps_if (pt_truthK (K := K) (pv 8) (by intro _; rfl)) (pss_one (ps_set (i := 10) sc_assemble.nd rfl (by first | exact Or.inl rfl | exact Or.inr rfl) (pe_op (opCatAK (K := K)) (pv 10) (pe_tup (pa_cons (pe_call G_fork_of (hr.mono (by decide)) rfl T.g_fork_of T.F_fork_of.kp T.b_fork_of .nil pass0 (pa_cons (pe_ix (ixU (K := K)) (pv 5) pe_int (fun _ _ => rfl)) (pa_cons (pe_fldK (K := K) (pv 9) rfl) pa_nil))) pa_nil))))) pss_nil)
      (pss_cons (ps_setLc (i := 11) (own := [("address", 13)]) (g := gName 13) (tt := tYes) rfl sc_assemble.nd rfl rfl (sw_true rfl rfl rfl (by decide +kernel)) (pi_range1 rfl T.n_range (pa_cons (pe_fldK (K := K) (pe_fldK (K := K) (pv 9) rfl) rfl) pa_nil)) (blkOk_by (N := N_assemble) (sc := defScope s_assemble) (by decide +kernel)) (fun _ _ _ _ _ => (pg_name (i := 13) sc_assemble.nd rfl (by first | exact Or.inl rfl | exact Or.inr rfl))) (fun _ _ _ _ _ => pts_nil) (fun _ _ _ _ _ => (pe_call G_first_whole (hr.mono (by decide)) rfl T.g_first_whole T.F_first_whole.kp T.b_first_whole .nil pass0 (pa_cons (pv 6) (pa_cons (pv 13) pa_nil)))))
      (pss_cons (ps_set (i := 12) sc_assemble.nd rfl (by first | exact Or.inl rfl | exact Or.inr rfl) (pe_make T.mk_Mirror G_Mirror___init__ (hr.mono (by decide)) rfl T.g_Mirror T.b_Mirror___init__ .nil pass0 (pa_cons (pe_fldK (K := K) (pv 9) rfl) (pa_cons (pe_disp (pps_cons (pe_fldK (K := K) (pv 9) rfl) (pv 9) pps_nil) (by rfl) (by rfl) (by simp) (by decide)) (pa_cons (pe_ix (ixU (K := K)) (pv 5) pe_int (fun _ _ => rfl)) (pa_cons (pv 10) pa_nil))))))
      (pss_cons (ps_if (pt_cmpR opNotU (pv 2) pe_non (nomark _)) (pss_one (ps_expr (pe_meth (pv 12) T.cl_Mirror T.m_Mirror_cut_after G_Mirror_cut_after (hr.mono (by decide)) T.b_Mirror_cut_after .nil pass0 (pa_cons (pv 2) pa_nil)))) pss_nil)
      (pss_cons (ps_expr (pe_meth (pv 12) T.cl_Mirror T.m_Mirror_copy_to G_Mirror_copy_to (hr.mono (by decide)) T.b_Mirror_copy_to .nil pass0 (pa_cons (pv 9) (pa_cons (pv 11) pa_nil))))
      (pss_cons (ps_expr (pe_meth (pv 12) T.cl_Mirror T.m_Mirror_relabel G_Mirror_relabel (hr.mono (by decide)) T.b_Mirror_relabel .nil pass0 (pa_cons (pe_ix (ixU (K := K)) (pv 5) pe_int (fun _ _ => rfl)) pa_nil)))
      (pss_cons (ps_for PassesOwn.leaving rfl (pi_listK (K := K) (pv 4)) (pg_name (i := 3) sc_assemble.nd rfl (by first | exact Or.inl rfl | exact Or.inr rfl)) (pss_one (ps_if (pt_cmpR (opNeU (K := K) hr.units) (pe_fldK (K := K) (pv 3) rfl) (pe_fldK (K := K) (pv 9) rfl) (nomark _)) (pss_one (ps_expr (pe_meth (pv 12) T.cl_Mirror T.m_Mirror_join G_Mirror_join (hr.mono (by decide)) T.b_Mirror_join .nil pass0 (pa_cons (pv 3) (pa_cons (pe_cmpR (opNinF (K := K)) (pe_fldK (K := K) (pv 3) rfl) (pv 7) (by rfl)) pa_nil))))) pss_nil)))
      (pss_one (ps_ret (pv 12))))))))))))))))))), ?_⟩
    try dsimp only [cxOf]
    fail "go"
    refine g_LsW (SqL.of hp) fun D nD => ?_
    have pD := ne_of_none hp nD
    have RD : R D = none := sR.free nD
    have gD0 : Gr [D] R H R (upd H D (.lst [])) := (Gr.newM (M := []) sR nD).nil
    refine lc_list (K := K) (a := p) (xs := os.map sideV) (fun i H' => ∃ es, SeInv K T.C_Side T.C_Device R H a D os i H' es) ⟨[], upd_same, rfl, Gr.refl gD0.rh, fun e h => absurd h List.not_mem_nil, List.Pairwise.nil, fun e h => absurd h List.not_mem_nil⟩ (fun j H' _ ⟨es, s⟩ => SqL.of (s.g.hh _ _ (nin1 pD) (by rw [upd_ne pD]; exact hp))) ?_ ?_
    · rintro i v H1 hv ⟨es, inv⟩
      rw [List.getElem?_map] at hv
      obtain ⟨o, ho, rfl⟩ := Option.map_eq_some_iff.mp hv
      have snoc := sidesOf_snoc ho
      have gX : Gr [D] R H R H1 := gD0.trans inv.g
      have sR1 := gX.rh
      refine ⟨rfl, ?_⟩
      cases o with
      | none =>
        fail "go"
        exact ⟨es, inv.hD, by rw [snoc, inv.zm]; simp, inv.g, inv.ok, inv.pw, inv.fr⟩
      | some e =>
        have hem : e ∈ os.filterMap id := List.mem_filterMap.mpr ⟨some e, List.mem_of_getElem? ho, rfl⟩
        obtain ⟨so, wm, _, _⟩ := hes e hem
        have Dms : D ∉ e.ms := fun h => by obtain ⟨o, ho⟩ := so.has D h; rw [nD] at ho; cases ho
        have so1 := so.frame gX fun x hx hn => Dms (by rw [← List.mem_singleton.mp hn]; exact hx)
        obtain ⟨d, ds, ems, ⟨⟨sx, hs⟩, nin, non, dev⟩⟩ := id so1
        dsimp only [sideV]
        have il : i < 3 := by have := (List.getElem?_eq_some_iff.mp ho).1; omega
        have esl : es.length ≤ 3 := by
          have e1 := congrArg List.length inv.zm
          unfold sidesOf at e1
          rw [List.length_map, List.length_map] at e1
          have e2 := List.length_filterMap_le id (os.take i)
          rw [List.length_take] at e2
          omega
        fail "go"
        refine ⟨false, R, e.s, a, L, e.z, e.m, _, rfl, sR1, ha, hL, hdev, so1, wm.ln, fun H3 x xs g3 fx sx3 => ?_⟩
        have hD3 := g3.same _ _ inv.hD
        have hDx : ∀ y ∈ xs, y ≠ D := fun y hy e => by have := fx y hy; rw [e, inv.hD] at this; cases this
        have g4 : Gr [D] R H3 R (upd H3 D (.lst (es.map (fun e => V.ref e.s) ++ [.ref x]))) := Gr.mut g3.rh RD hD3
        refine ⟨_, hD3, by rw [List.length_map]; exact Nat.lt_of_le_of_lt (show _ ≤ 1000 by omega) (by decide), es ++ [⟨e.z, x, e.m.settle, xs⟩], by rw [upd_same, List.map_append]; rfl, ?_, inv.g.trans (g3.nil.trans g4), fun f hf => ?_, ?_, fun f hf => ?_⟩
        · rw [snoc, List.map_append, inv.zm]; rfl
        · rcases List.mem_append.mp hf with hf | hf
          · exact ((inv.ok f hf).frame g3 fun _ _ => List.not_mem_nil).frame g4 fun y hy hn => (inv.fr f hf).1 (by rw [← List.mem_singleton.mp hn]; exact hy)
          · rw [List.mem_singleton.mp hf]
            exact sx3.toD.frame g4 fun y hy hn => hDx y hy (List.mem_singleton.mp hn)
        · rw [List.pairwise_append]
          refine ⟨inv.pw, List.pairwise_singleton _ _, fun f hf k hk => ?_⟩
          rw [List.mem_singleton.mp hk]
          intro y hy hn
          obtain ⟨o, ho⟩ := (inv.ok f hf).has y hy
          rw [fx y hn] at ho; cases ho
        · rcases List.mem_append.mp hf with hf | hf
          · exact inv.fr f hf
          · rw [List.mem_singleton.mp hf]
            exact ⟨fun h => hDx D h rfl, fun y hy => gX.free (fx y hy)⟩
    · rintro H1 ⟨es, hD, hzm, gI, so, pw, fr⟩
      rw [List.length_map, List.take_length] at hzm
      have wes : ∀ e ∈ es, RsW L 100 e.m ∧ 0 ≤ e.z ∧ e.z < 3 := fun e he => by
        have h1 : e.zm ∈ sidesOf os := by rw [← hzm]; exact List.mem_map_of_mem he
        unfold sidesOf at h1
        obtain ⟨f, hf, e2⟩ := List.mem_map.mp h1
        obtain ⟨_, w, z0, z3⟩ := hes f hf
        have ez : f.z = e.z := congrArg Prod.fst e2
        have em : f.m.settle = e.m := congrArg Prod.snd e2
        rw [← ez, ← em]
        exact ⟨w.settle.up (by decide), z0, z3⟩
      have el : es.length ≤ 3 := by
        have e1 := congrArg List.length hzm
        unfold sidesOf at e1
        rw [List.length_map, List.length_map] at e1
        have e2 := List.length_filterMap_le id os
        omega
      rw [← hzm] at nd hN hS
      have gX : Gr [D] R H R H1 := gD0.trans gI
      have sR1 := gX.rh
      have solo : ∀ e ∈ es, SideOkD false K T.C_Side T.C_Device R H1 e.s a e.z e.m e.ms ∧ LabOk L e.m := fun e he => ⟨so e he, labOk_of hL hdev (wes e he).1⟩
      have s01 : Same R H ∧ Same H H1 := ⟨sR, (gX.forget (M := []) (by intro y hy _; rw [List.mem_singleton.mp hy]; exact nD)).same⟩
      clear gI gD0 hp sR so hes hzm gX
      fail "go"
      refine ⟨R, D, a, L, es, rfl, sR1, ha, hL, hD, el, solo, fun lv H2 s2 dl => ?_⟩
      cases hfo : folLb L (es.map Ent.zm) with
      | none =>
        rw [hfo] at dl
        obtain rfl := dp_non dl
        have sHN := s01.2.trans s2
        fail "go"
        exact hN hfo _ sHN
      | some l =>
      obtain ⟨hg, hfew, hfr, hDg, hq⟩ := hS l hfo
      obtain ⟨z, m, hlead⟩ := cur_head hfo
      have hq := hq z m hlead
      rw [hfo] at dl
      obtain ⟨t, tm, tb, tf, rfl, ht, htm, htb, htf⟩ := dpLb dl
      have hD2 := s2 _ _ hD
      have sR2 := sR1.trans s2
      have solo2 : ∀ e ∈ es, SideOkD false K T.C_Side T.C_Device R H2 e.s a e.z e.m e.ms ∧ LabOk L e.m := fun e he => ⟨(solo e he).1.frame (Mu.ofSame sR1 s2).g fun _ _ => List.not_mem_nil, (solo e he).2⟩
      fail "go"
      refine g_LsW (SqL.of hD2) fun EE nE => ?_
      have DE := ne_of_none hD2 nE
      refine lc_list (K := K) (a := D) (xs := es.map fun e => V.ref e.s) (fun i H' => Same H2 H' ∧ H' EE = some (.lst (((es.take i).filter fun e => curL L l e.zm).map fun e => V.ref e.s))) ⟨(Gr.newM (M := []) sR2 nE).same, upd_same⟩ (fun j H' _ ⟨s, _⟩ => SqL.of (s _ _ hD2)) ?_ ?_
      · rintro i v H3 hv ⟨s3, hE3⟩
        rw [List.getElem?_map] at hv
        obtain ⟨e, he, rfl⟩ := Option.map_eq_some_iff.mp hv
        have hem := List.mem_of_getElem? he
        obtain ⟨soe, loe⟩ := solo2 e hem
        have soe3 := soe.frame (Mu.ofSame sR2 s3).g (fun _ _ => List.not_mem_nil)
        have sR3 := sR2.trans s3
        have dl3 := dp_mono s3 dl
        have tk : (es.take (i + 1)).filter (fun e => curL L l e.zm) = (es.take i).filter (fun e => curL L l e.zm) ++ (if curL L l e.zm = true then [e] else []) := by
          have e0 : es.take (i + 1) = es.take i ++ [e] := by rw [List.take_add_one, he]; rfl
          rw [e0, List.filter_append]
          cases h : curL L l e.zm <;> simp [h]
        have fl : ((es.take i).filter fun e => curL L l e.zm).length ≤ 3 := by
          have := List.length_filter_le (fun e => curL L l e.zm) (es.take i)
          rw [List.length_take] at this
          omega
        refine ⟨rfl, ?_⟩
        fail "go"
        refine ⟨R, .ref t, a, L, e, l, rfl, sR3, ha, hL, soe3, loe, dl3, fun H4 s4 => ?_⟩
        have hE4 := s4 _ _ hE3
        rw [tk]
        fail "go"
        refine ⟨_, rfl, ?_⟩
        have e1 : ∀ {H' : Hp}, Same H3 H' → Same H2 H' := fun s => s3.trans s
        cases hc : curL L l e.zm
        · rw [if_neg (by simp)]
          exact ⟨s3.trans s4, by simpa using hE4⟩
        · rw [if_pos rfl]
          fail "go"
          refine ⟨_, hE4, by rw [List.length_map]; exact Nat.lt_of_le_of_lt (show _ ≤ 1000 by omega) (by decide), fun b o e => ?_, by rw [upd_same, if_pos rfl, List.map_append]; rfl⟩
          rw [upd_ne (ne_of_none e nE)]; exact s4 _ _ (s3 _ _ e)
      · rintro H3 ⟨s3, hE3⟩
        rw [List.length_map, List.take_length] at hE3
        have hcz : (es.filter fun e => curL L l e.zm).map Ent.zm = curOf L l (es.map Ent.zm) := by
          unfold curOf
          rw [List.filter_map]
          rfl
        have cin : ∀ e ∈ es.filter (fun e => curL L l e.zm), e ∈ es := fun e he => (List.mem_filter.mp he).1
        have cl : (es.filter fun e => curL L l e.zm).length ≤ 3 := by
          have := List.length_filter_le (fun e => curL L l e.zm) es
          omega
        rw [← hcz] at hlead
        generalize hcs : es.filter (fun e => curL L l e.zm) = cs at hE3 hcz cin cl hlead
        have sR3 := sR2.trans s3
        have s13 := s2.trans s3
        have s13w : Same H1 H3 := s13
        have hD3 := s3 _ _ hD2
        have dl3 := dp_mono s3 dl
        have ht3 := sqT_mono s3 ht
        have htm3 := sqT_mono s3 htm
        have htf3 := sqT_mono s3 htf
        have solo3 : ∀ e ∈ es, SideOkD false K T.C_Side T.C_Device R H3 e.s a e.z e.m e.ms := fun e he => (solo2 e he).1.frame (Mu.ofSame sR2 s3).g fun _ _ => List.not_mem_nil
        clear dl ht htm htb htf s2 s3 hD hD2 solo2 sR2 hcs
        fail "go"
        refine g_LsW (SqL.of hE3) fun G nG => ?_
        refine lc_list (K := K) (a := EE) (xs := cs.map fun e => V.ref e.s) (fun i H' => Same H3 H' ∧ H' G = some (.lst (((cs.take i).map (·.z)).map V.int))) ⟨(Gr.newM (M := []) sR3 nG).same, upd_same⟩ (fun j H' _ ⟨s, _⟩ => SqL.of (s _ _ hE3)) ?_ ?_
        · rintro i v H4 hv ⟨s4, hG4⟩
          rw [List.getElem?_map] at hv
          obtain ⟨e, he, rfl⟩ := Option.map_eq_some_iff.mp hv
          have hem := List.mem_of_getElem? he
          obtain ⟨d, ds, ems, ⟨⟨sx, hs⟩, nin, non, dev⟩⟩ := solo3 e (cin e hem)
          have hs4 := s4 _ _ hs
          refine ⟨rfl, ?_⟩
          fail "go"
          refine ⟨_, hG4, by rw [List.length_map, List.length_map, List.length_take]; exact Nat.lt_of_le_of_lt (show _ ≤ 1000 by omega) (by decide), fun b o e => ?_, by rw [upd_same, List.take_add_one, he, List.map_append, List.map_append]; rfl⟩
          rw [upd_ne (ne_of_none e nG)]; exact s4 _ _ e
        · rintro H4 ⟨s4, hG4⟩
          rw [List.length_map, List.take_length] at hG4
          have sR4 := sR3.trans s4
          have s14 := s13.trans s4
          have hD4 := s4 _ _ hD3
          have hE4 := s4 _ _ hE3
          have dl4 := dp_mono s4 dl3
          have ht4 := sqT_mono s4 ht3
          have htm4 := sqT_mono s4 htm3
          have htf4 := sqT_mono s4 htf3
          have solo4 : ∀ e ∈ es, SideOkD false K T.C_Side T.C_Device R H4 e.s a e.z e.m e.ms := fun e he => (solo3 e he).frame (Mu.ofSame sR3 s4).g fun _ _ => List.not_mem_nil
          clear dl3 ht3 htm3 htf3 s13 s4 hD3 hE3 solo3 sR3
          fail "go"
          refine g_TsW htm4 fun I nI => ?_
          have ml : l.mem.length ≤ 3 := let ⟨q, _, e⟩ := fol_mem hfo; (labOf_mem e).2.2.2
          have thz : cs.map (·.z) = (cs.map Ent.zm).map (·.1) := by rw [List.map_map]; rfl
          rw [thz, hcz] at hG4
          refine lc_tup (K := K) (a := tm) (xs := l.mem.map V.int) (fun i H' => Same H4 H' ∧ H' I = some (.lst (((l.mem.take i).filter fun z => decide (z ∉ (curOf L l (es.map Ent.zm)).map (·.1))).map V.int))) ⟨(Gr.newM (M := []) sR4 nI).same, upd_same⟩ (fun j H' _ ⟨s, _⟩ => sqT_mono s htm4) ?_ ?_
          · rintro i v H5 hv ⟨s5, hI5⟩
            obtain ⟨y, hy, rfl⟩ := map_get hv
            have hG5 := s5 _ _ hG4
            have tk : (l.mem.take (i + 1)).filter (fun z => decide (z ∉ (curOf L l (es.map Ent.zm)).map (·.1))) = (l.mem.take i).filter (fun z => decide (z ∉ (curOf L l (es.map Ent.zm)).map (·.1))) ++ (if y ∉ (curOf L l (es.map Ent.zm)).map (·.1) then [y] else []) := by
              have e0 : l.mem.take (i + 1) = l.mem.take i ++ [y] := by rw [List.take_add_one, hy]; rfl
              rw [e0, List.filter_append]
              rw [List.filter_cons]
              by_cases h : y ∉ (curOf L l (es.map Ent.zm)).map (·.1)
              · rw [if_pos (decide_eq_true h), if_pos h]; rfl
              · rw [if_neg (by rw [decide_eq_true_iff]; exact h), if_neg h]; rfl
            have fl : ((l.mem.take i).filter fun z => decide (z ∉ (curOf L l (es.map Ent.zm)).map (·.1))).length ≤ 3 := by
              have := List.length_filter_le (fun z => decide (z ∉ (curOf L l (es.map Ent.zm)).map (·.1))) (l.mem.take i)
              rw [List.length_take] at this
              omega
            refine ⟨rfl, ?_⟩
            fail "go"
            refine g_ninF (.inl (SqL.of hG5)) rfl (flat_ints _) ?_
            rw [inV_ints, tk]
            refine ⟨_, rfl, ?_⟩
            by_cases hc : y ∉ (curOf L l (es.map Ent.zm)).map (·.1)
            · rw [if_pos (by simpa using hc)]
              fail "go"
              refine ⟨_, hI5, by rw [List.length_map]; exact Nat.lt_of_le_of_lt (show _ ≤ 1000 by omega) (by decide), fun b o e => ?_, by rw [upd_same, if_pos hc, List.map_append]; rfl⟩
              rw [upd_ne (ne_of_none e nI)]; exact s5 _ _ e
            · rw [if_neg (by simpa using hc), if_neg hc]
              exact ⟨s5, by simpa using hI5⟩
          · rintro H5 ⟨s5, hI5⟩
            fail "go"
            rw [List.length_map, List.take_length] at hI5
            refine g_tupL (SqL.of hI5) ?_
            have sR5 := sR4.trans s5
            fail "newM"
            rename_i p6 H6 n6 g6 m6 h6 s6
            have q6 := s5.trans g6.g.same
            have s16 := s14.trans q6
            have hD6 := q6 _ _ hD4
            have hE6 := q6 _ _ hE4
            have hG6 := q6 _ _ hG4
            have dl6 := dp_mono q6 dl4
            have ht6 := sqT_mono q6 ht4
            have htm6 := sqT_mono q6 htm4
            have htf6 := sqT_mono q6 htf4
            have h6 : H6 p6 = some (.tup ((missOf l (curOf L l (es.map Ent.zm))).map V.int)) := h6
            have solo6 : ∀ e ∈ es, SideOkD false K T.C_Side T.C_Device R H6 e.s a e.z e.m e.ms := fun e he => (solo4 e he).frame (Mu.ofSame sR4 q6).g fun _ _ => List.not_mem_nil
            clear dl4 ht4 htm4 htf4 s14 s5 hD4 hE4 hG4 solo4 sR4 sR5 q6 g6 m6 n6 hI5
            generalize hcu : curOf L l (es.map Ent.zm) = cu at *
            fail "gi"
            refine g_seqIN (fun σ H' => σ = [some (.ref p), some (.bl force), some (fuseV c), none, some (.ref D), some (.ref t), some (.ref EE), some (.ref G), some (.ref p6), none, none, none, none, none, none] ∧ H' = H6 ∧ (missOf l cu = [] ∨ force = true)) ?_ (fun N rest => ?_)
            · rintro σ H' ⟨rfl, rfl, hok⟩
              fail "gi"
              cases hcse : cs with
              | nil => rw [hcse] at hlead; cases hlead
              | cons e0 cr =>
              have e0m : e0 ∈ es := cin e0 (by rw [hcse]; exact List.mem_cons_self)
              have e0z : e0.zm = (z, m) := by
                rw [hcse] at hlead
                simpa using hlead
              obtain rfl : e0.z = z := congrArg Prod.fst e0z
              obtain rfl : e0.m = m := congrArg Prod.snd e0z
              rw [hcse] at hE6
              refine g_ixL (SqL.of hE6) (v := .ref e0.s) (atI_nat (j := 0) rfl) ?_
              fail "gi"
              obtain ⟨d0, ds0, ems0, ⟨⟨sx0, hs0⟩, nin0, non0, dev0⟩⟩ := id (solo6 e0 e0m)
              refine g_seqIN (fun σ H7 => ∃ fa, σ = [some (.ref p), some (.bl force), some (fuseV c), none, some (.ref D), some (.ref t), some (.ref EE), some (.ref G), some (.ref p6), some (.ref e0.s), some (.ref fa), none, none, none, none] ∧ Same H' H7 ∧ SqT K H7 fa ((asmFk l cu e0.z).map V.int)) ?_ (fun N rest => ?_)
              · rintro σ H7 ⟨fa, rfl, s7, hfa⟩
                obtain ⟨lx, haf⟩ := id ha
                have ha7 := s7 _ _ (s6 _ _ haf)
                have hs7 := s7 _ _ hs0
                have sR7 := s6.trans s7
                have solo7 : ∀ e ∈ es, SideOkD false K T.C_Side T.C_Device R H7 e.s a e.z e.m e.ms := fun e he => (solo6 e he).frame (Mu.ofSame s6 s7).g fun _ _ => List.not_mem_nil
                have hE7 := s7 _ _ hE6
                rw [← hcse] at hE7
                clear hs0 dev0
                fail "gi"
                refine g_R1W (n := L.device.toNat) (by omega) (by omega) fun I nI => ?_
                refine lc_range (lo := 0) (n := L.device.toNat) (fun i H' => ∃ us, Same H7 H' ∧ H' I = some (.lst us) ∧ DpAll K R us (((List.range i).map (wholeAt L cu)).map optD)) ⟨[], (Gr.newM (M := []) sR7 nI).same, upd_same, .nil⟩ ?_ ?_
                · rintro i H8 hi ⟨us, s8, hI8, du⟩
                  rw [Int.zero_add]
                  have sR8 := sR7.trans s8
                  have hE8 := s8 _ _ hE7
                  have ul := dpAll_len du
                  rw [List.length_map, List.length_map, List.length_range] at ul
                  refine ⟨rfl, ?_⟩
                  fail "go"
                  refine ⟨R, EE, a, L, cs, i, rfl, sR8, ha, hL, by omega, hE8, cl, fun e he => ⟨(solo7 e (cin e he)).frame (Mu.ofSame sR7 s8).g fun _ _ => List.not_mem_nil, (solo e (cin e he)).2⟩, fun v H9 s9 dv => ?_⟩
                  have hI9 := s9 _ _ hI8
                  refine ⟨_, hI9, by rw [ul]; fail "sz", us ++ [v], fun b o e => ?_, upd_same, ?_⟩
                  · rw [upd_ne (ne_of_none e nI)]; exact s9 _ _ (s8 _ _ e)
                  · rw [List.range_succ, List.map_append, List.map_append]
                    rw [hcz] at dv
                    exact dpAll_app du (.cons dv .nil)
                · rintro H8 ⟨us, s8, hI8, du⟩
                  have s17 := s16.trans s7
                  have s18 : Same H H8 := s01.2.trans (s17.trans s8)
                  have hasU : ∀ e ∈ es, ∀ y ∈ e.ms, ∃ o, H1 y = some o := fun e he => (solo e he).1.has
                  have solo8 : ∀ e ∈ es, SideOkD false K T.C_Side T.C_Device R H8 e.s a e.z e.m e.ms := fun e he => (solo7 e he).frame (Mu.ofSame sR7 s8).g fun _ _ => List.not_mem_nil
                  have inU : ∀ {y : Addr}, y ∈ es.flatMap (·.ms) ↔ ∃ e ∈ es, y ∈ e.ms := List.mem_flatMap
                  have niU : ∀ {y : Addr} {HX : Hp}, Same H1 HX → HX y = none → y ∉ es.flatMap (·.ms) := fun sx nx hy => by
                    obtain ⟨e, he, hy⟩ := inU.mp hy
                    obtain ⟨o, ho⟩ := hasU e he _ hy
                    rw [sx _ _ ho] at nx; cases nx
                  have g9 := adoptU_gr (U := es.flatMap (·.ms)) s01.1 s18
                  have tI9 : TupIn (adoptU (es.flatMap (·.ms)) R H H8) H8 := hT.adoptU s01.1 s18 fun x hx us => by
                    obtain ⟨e, he, hx⟩ := inU.mp hx
                    exact (solo8 e he).notup x hx us
                  have so9 : ∀ e ∈ es, SideOkD false K T.C_Side T.C_Device (adoptU (es.flatMap (·.ms)) R H H8) H8 e.s a e.z e.m e.ms := fun e he => (solo8 e he).re g9.rr fun y hy => adoptU_U (inU.mpr ⟨e, he, hy⟩) ((solo8 e he).non y hy)
                  have hD9 : adoptU (es.flatMap (·.ms)) R H H8 D = some (.lst (es.map fun e => V.ref e.s)) := adoptU_new (fun h => by obtain ⟨e, he, h⟩ := inU.mp h; exact (fr e he).1 h) nD (s8 _ _ (s7 _ _ hD6))
                  have hI9 : adoptU (es.flatMap (·.ms)) R H H8 I = some (.lst us) := adoptU_new (niU s17 nI) ((s01.2.trans s17).free nI) hI8
                  have hG9 : adoptU (es.flatMap (·.ms)) R H H8 G = some (.lst ((cu.map (·.1)).map V.int)) := adoptU_new (niU s13w nG) ((s01.2.trans s13w).free nG) (s8 _ _ (s7 _ _ hG6))
                  have ht9 := sqT_in tI9 (sqT_mono (s7.trans s8) ht6)
                  have htm9 := sqT_in tI9 (sqT_mono (s7.trans s8) htm6)
                  have hfa9 := sqT_in tI9 (sqT_mono s8 hfa)
                  have a9 := ha.mono g9.rr
                  have sR9 := g9.rh
                  have du9 := dpAll_mono g9.rr du
                  have fresh : ∀ e ∈ es, ∀ y ∈ e.ms, H y = none := fun e he => (fr e he).2
                  have G9 : Gr [] R H (adoptU (es.flatMap (·.ms)) R H H8) H8 ∧ True := ⟨g9, trivial⟩
                  generalize adoptU (es.flatMap (·.ms)) R H H8 = R9 at *
                  clear solo8 solo7 solo6 solo g9 du hfa ha7 hs7 sR7 hE7 hI8 dl6 ht6 htm6 htf6 hD6 hE6 hG6 h6 s6 niU hasU s7 s8
                  obtain ⟨d9, ds9, ems9, ⟨⟨sx9, hs9⟩, nin9, non9, dev9⟩⟩ := id (so9 e0 e0m)
                  fail "gi"
                  intro sd nsd
                  generalize hqsd : upd H8 sd (HO.dK []) = HA
                  have gA := (Gr.newM (M := []) sR9 nsd (o := .dK []))
                  rw [hqsd] at gA
                  have hsdA : HA sd = some (.dK []) := by rw [← hqsd]; exact upd_same
                  have hsA := gA.same _ _ hs9
                  clear hqsd
                  fail "gi"
                  refine ⟨hsdA, [(.inl e0.z, .ref e0.s)], rfl, by simp, ?_⟩
                  have emk : mergeK [] [((.inl e0.z : Key), V.ref e0.s)] = [(.inl e0.z, .ref e0.s)] := rfl
                  rw [emk]
                  have Rsd := sR9.free nsd
                  have gB : Gr [sd] R9 HA R9 (upd HA sd (.dK [(.inl e0.z, .ref e0.s)])) := Gr.mut gA.rh Rsd hsdA
                  have hsdB : upd HA sd (.dK [(.inl e0.z, .ref e0.s)]) sd = some (.dK [(.inl e0.z, .ref e0.s)]) := upd_same
                  generalize upd HA sd (.dK [(.inl e0.z, .ref e0.s)]) = HB at gB hsdB ⊢
                  have tB := sqT_mono gB.rh ht9
                  have g8B : Gr [] R9 H8 R9 HB := (gA.nil.trans gB).forget (by intro y hy _; rw [List.mem_singleton.mp hy]; exact nsd)
                  have sRB := g8B.rh
                  have q8B : Same H8 HB ∧ True := ⟨g8B.same, trivial⟩
                  clear gA gB hsA g8B
                  fail "gi"
                  intro x dx nx ndx nex
                  have sm := made_same (C := T.C_Mirror) nx ndx
                  refine ⟨R9, x, dx, a, sd, fa, l.gen, rfl, sRB.trans sm, sRB.free nx, upd_same, fun H4 gd g4 ngd hx4 hgd4 => ⟨rfl, ?_⟩⟩
                  have sdx : sd ≠ x := ne_of_none hsdB nx
                  have hsd4 := g4.hh _ _ (nin1 sdx) (sm _ _ hsdB)
                  have Rx := sRB.free nx
                  have xgd : x ≠ gd := fun e => by rw [← e] at ngd; exact absurd (show (upd (upd HB dx (.own x)) x (.ins T.C_Mirror dx [])) x = some _ from upd_same) (by rw [ngd]; simp)
                  have sdgd : sd ≠ gd := fun e => by have := sm _ _ hsdB; rw [e, ngd] at this; cases this
                  have ngdB : HB gd = none := by
                    cases e : HB gd with
                    | none => rfl
                    | some o => have := sm _ _ e; rw [ngd] at this; cases this
                  have gX4 : Gr [x] R9 HB R9 H4 := (Mu.ofSame sRB sm).g.nil.trans g4
                  have g84 : Gr [] R9 H8 R9 H4 := ((Mu.ofSame sR9 q8B.1).g.nil.trans gX4).forget (by intro y hy _; rw [List.mem_singleton.mp hy]; exact q8B.1.free nx)
                  have nx8 : H8 x = none := q8B.1.free nx
                  have ngd8 : H8 gd = none := q8B.1.free ngdB
                  have so4 : ∀ e ∈ es, SideOkD false K T.C_Side T.C_Device R9 H4 e.s a e.z e.m e.ms := fun e he => (so9 e he).frame g84 fun _ _ => List.not_mem_nil
                  have nms : ∀ e ∈ es, ∀ y, H8 y = none → y ∉ e.ms := fun e he y ny hy => by obtain ⟨o, ho⟩ := (so9 e he).has y hy; rw [ny] at ho; cases ho
                  have hm0 : MirOk K T.C_Mirror T.C_Side T.C_Device R9 H4 x a ⟨[(e0.z, e0.m)], [], l.gen, asmFk l cu e0.z, ⟨none, false⟩⟩ (foot [x, sd, gd] ([e0] ++ [])) [(e0.z, e0.s)] := by
                    refine ⟨sd, gd, fa, [e0], [], rfl, ⟨⟨dx, hx4⟩, hsd4, hgd4, nod3A sdx.symm xgd sdgd, fun y hy => ?_, hfa9, fun e he => ?_, ⟨fun e he y hy hn => ?_, List.pairwise_singleton _ _⟩, by simp, by simp⟩, rfl, rfl, rfl⟩
                    · simp only [List.mem_cons, List.not_mem_nil, or_false] at hy
                      rcases hy with rfl | rfl | rfl
                      · exact Rx
                      · exact Rsd
                      · exact sR9.free ngd8
                    · obtain rfl : e = e0 := by simpa using he
                      exact so4 e e0m
                    · obtain rfl : e = e0 := by simpa using he
                      simp only [List.mem_cons, List.not_mem_nil, or_false] at hy
                      rcases hy with rfl | rfl | rfl
                      · exact nms e e0m _ nx8 hn
                      · exact nms e e0m _ nsd hn
                      · exact nms e e0m _ ngd8 hn
                  have F0n : ∀ y ∈ foot [x, sd, gd] ([e0] ++ []), y ∈ e0.ms ∨ H8 y = none := fun y hy => by
                    rcases mem_foot.mp hy with hy2 | ⟨e, he, hy2⟩
                    · simp only [List.mem_cons, List.not_mem_nil, or_false] at hy2
                      rcases hy2 with rfl | rfl | rfl
                      · exact .inr nx8
                      · exact .inr nsd
                      · exact .inr ngd8
                    · have ee : e = e0 := by simpa using he
                      rw [ee] at hy2
                      exact .inl hy2
                  have s84 : Same H8 H4 ∧ True := ⟨g84.same, trivial⟩
                  have sR4' := g84.rh
                  clear hx4 hgd4 hsd4 hsdB hsdA gX4 g4 sm sRB q8B nx ndx nex ngd ngdB nx8 ngd8 tB hs9 dev9 g84
                  generalize foot [x, sd, gd] ([e0] ++ []) = F0 at hm0 F0n
                  obtain ⟨dx0, sd0, gd0, fa0, kvs0, gvs0, hmo0, _⟩ := hm0.at
                  fail "gi"
                  refine g_seqIN (fun σ H' => σ = [some (.ref p), some (.bl force), some (fuseV c), none, some (.ref D), some (.ref t), some (.ref EE), some (.ref G), some (.ref p6), some (.ref e0.s), some (.ref fa), some (.ref I), some (.ref x), none, none] ∧ MirOk K T.C_Mirror T.C_Side T.C_Device R9 H' x a ⟨[(e0.z, e0.m)], [], l.gen, asmFk l cu e0.z, ⟨c, false⟩⟩ F0 [(e0.z, e0.s)] ∧ Gr F0 R9 H4 R9 H') ?_ (fun N rest => ?_)
                  · rintro σ H5 ⟨rfl, hm5, g5⟩
                    have w0e : RsW L 100 e0.m := (wes e0 e0m).1
                    have hcw : ∀ q ∈ cu, RsW L 100 q.2 := fun q hq => by
                      rw [← hcz] at hq
                      obtain ⟨e, he, rfl⟩ := List.mem_map.mp hq
                      exact (wes e (cin e he)).1
                    obtain ⟨f1, f2⟩ := asmFk_ok (cur := cu) hg.1 hg.2 (wes e0 e0m).2.1 (wes e0 e0m).2.2 hfew hfr
                    have w0 : MsW L 100 ⟨[(e0.z, e0.m)], [], l.gen, asmFk l cu e0.z, ⟨c, false⟩⟩ := asm0_W w0e (wes e0 e0m).2.1 (wes e0 e0m).2.2 hg.1 hg.2 f1 f2
                    have cl5 : ((asmC L cu).length : Int) = L.device := by unfold asmC; rw [List.length_map, List.length_range]; omega
                    have w1 := w0.copyTo (z := e0.z) cl5 (asmC_W hcw)
                    have wA : MsW L 1100 (asm1 L l cu e0.z e0.m c) := asm1_W hL hdev.1 hdev.2 w0e hcw (wes e0 e0m).2.1 (wes e0 e0m).2.2 hg.1 hg.2 hfew hfr
                    have st5 : Step F0 F0 R9 H4 R9 H5 ∧ True := ⟨Step.of g5, trivial⟩
                    have s5r := g5.rh
                    obtain ⟨dx5, sd5, gd5, fa5, kvs5, gvs5, hmo5, _⟩ := hm5.at
                    clear g5 hmo0 hm0 sR4' sR9
                    fail "gi"
                    refine ⟨R9, x, a, e0.s, I, us, e0.z, L, _, F0, _, asmC L cu, 100, rfl, s5r, a9, hL, hdev, hm5, w0, by decide, by simp, SqL.of hI9, du9, cl5, asmC_W hcw, fun R6 H6' F6 hm6 st6 => ?_⟩
                    have st6' : Step F0 F6 R9 H4 R6 H6' ∧ True := ⟨st5.1.trans st6, trivial⟩
                    have s6r := st6.g.rh
                    have a6 := a9.mono st6.g.rr
                    have t6' := sqT_mono (st6.g.rr.trans s6r) ht9
                    have tm6 := sqT_mono st6.g.rr htm9
                    obtain ⟨dx6, sd6, gd6, fa6, kvs6, gvs6, hmo6, _⟩ := hm6.at
                    have ri6 := st6.g.rr
                    clear st6 hmo5 hm5 s5r
                    fail "gi"
                    refine ⟨R6, x, a, tm, L, _, F6, _, l.mem, _, rfl, s6r, a6, hL, hdev, hm6, w1, by omega, tm6, fun R7 H7' F7 hm7 st7 => ?_⟩
                    have stA : Step F0 F7 R9 H4 R7 H7' ∧ True := ⟨st6'.1.trans st7, trivial⟩
                    have s7r := st7.g.rh
                    have a7 := a6.mono st7.g.rr
                    have ri7 := ri6.trans st7.g.rr
                    have hm7 : MirOk K T.C_Mirror T.C_Side T.C_Device R7 H7' x a (asm1 L l cu e0.z e0.m c) F7 [(e0.z, e0.s)] := hm7
                    have hD7 := (ri7.trans s7r) _ _ hD9
                    clear st7 hmo6 hm6 s6r t6' tm6
                    fail "gi"
                    have two : ∀ e ∈ es, ∀ f ∈ es, e.z ≠ f.z → Dj e.ms f.ms := fun e he f hf ne => Apart.two (own := []) (es := es) ⟨fun e he x hx => absurd hx List.not_mem_nil, pw⟩ he hf ne
                    have inV : ∀ {y : Addr}, y ∈ F0 ++ es.flatMap (·.ms) → H y = none := fun {y} hy => by
                      rcases List.mem_append.mp hy with hy | hy
                      · rcases F0n y hy with h | h
                        · exact fresh e0 e0m y h
                        · exact G9.1.free h
                      · obtain ⟨e, he, hy⟩ := inU.mp hy
                        exact fresh e he y hy
                    have st0 : Step (F0 ++ es.flatMap (·.ms)) F7 R9 H4 R7 H7' := stA.1.up (fun y hy => List.mem_append_left _ hy) fun y hy => .inl hy
                    have so0 : ∀ e ∈ es, e.z ≠ e0.z → SideOkD false K T.C_Side T.C_Device R7 H7' e.s a e.z e.m e.ms ∧ Dj e.ms F7 := fun e he ne => by
                      have nF : ∀ y ∈ e.ms, y ∉ F0 := fun y hy hn => by
                        rcases F0n y hn with h | h
                        · exact two e he e0 e0m ne y hy h
                        · exact nms e he y h hy
                      refine ⟨(so4 e he).frame stA.1.g nF, fun y hy hn => ?_⟩
                      rcases stA.1.nw y hn with h | h
                      · exact nF y hy h
                      · obtain ⟨o, ho⟩ := (so4 e he).has y hy
                        rw [h] at ho; cases ho
                    have zl : (es.map Ent.zm).length = es.length := List.length_map _
                    have ndz : (es.map (·.z)).Nodup := by
                      have e1 : (es.map Ent.zm).map (·.1) = es.map (·.z) := by rw [List.map_map]; rfl
                      rw [← e1]; exact nd
                    have hG7 := ri7 _ _ hG9
                    refine g_LsW (SqL.of hD7) ?_
                    refine for_list (K := K) (a := D) (xs := es.map fun e => V.ref e.s) (fun i σ H' => ∃ (x3 : Option V) (R1 : Hp) (F1 : List Addr) (A1 : List (Int × Addr)), σ = [some (.ref p), some (.bl force), some (fuseV c), x3, some (.ref D), some (.ref t), some (.ref EE), some (.ref G), some (.ref p6), some (.ref e0.s), some (.ref fa), some (.ref I), some (.ref x), none, none] ∧ MirOk K T.C_Mirror T.C_Side T.C_Device R1 H' x a (((es.map Ent.zm).take i).foldl (asmJ L cu e0.z) (asm1 L l cu e0.z e0.m c)) F1 A1 ∧ Step (F0 ++ es.flatMap (·.ms)) F1 R9 H4 R1 H' ∧ (∀ e ∈ es.drop i, e.z ≠ e0.z → SideOkD false K T.C_Side T.C_Device R1 H' e.s a e.z e.m e.ms ∧ Dj e.ms F1) ∧ AsmW L e0.z ((es.map Ent.zm).take i) (1100 + 2000 * i) (((es.map Ent.zm).take i).foldl (asmJ L cu e0.z) (asm1 L l cu e0.z e0.m c)) ∧ (((es.map Ent.zm).take i).foldl (asmJ L cu e0.z) (asm1 L l cu e0.z e0.m c)).keys.Nodup ∧ (e0.z, e0.s) ∈ A1 ∧ Same R7 R1) ⟨none, R7, F7, _, rfl, hm7, st0, fun e he => so0 e (by simpa using he), ⟨wA, asm1_gs, fun y => by simp, by simp⟩, by simp, by simp, Same.refl _⟩ (fun j σ H' _ ⟨x3, R1, F1, A1, _, _, st, _, _, _, _, r17⟩ => SqL.of (st.g.rh _ _ (r17 _ _ (ri7 _ _ hD9)))) ?_ ?_
                    · rintro i v σ H9' hv ⟨x3, R1, F1, A1, rfl, hm, st, sos, aw, kn, zA, r17⟩
                      rw [List.getElem?_map] at hv
                      obtain ⟨e, he, rfl⟩ := Option.map_eq_some_iff.mp hv
                      have hem := List.mem_of_getElem? he
                      obtain ⟨il, ie⟩ := List.getElem?_eq_some_iff.mp he
                      have dr : es.drop i = e :: es.drop (i + 1) := by rw [← ie]; exact List.drop_eq_getElem_cons il
                      have tk : (es.map Ent.zm).take (i + 1) = (es.map Ent.zm).take i ++ [e.zm] := by rw [List.take_add_one, List.getElem?_map, he]; rfl
                      have no : e.zm.1 ∉ ((es.map Ent.zm).take i).map (·.1) := fun h => by
                        have e1 : ((es.map Ent.zm).take i).map (·.1) = (es.map (·.z)).take i := by rw [List.map_take, List.map_map]; rfl
                        rw [e1] at h
                        obtain ⟨k, hk, e2⟩ := List.getElem_of_mem h
                        rw [List.length_take] at hk
                        rw [List.getElem_take] at e2
                        have := (List.getElem_inj (h₀ := by omega) (h₁ := by rw [List.length_map]; exact il) ndz).mp (e2.trans (show e.z = (es.map (·.z))[i]'(by rw [List.length_map]; exact il) by rw [List.getElem_map, ie]))
                        omega
                      have aw2 := asmJ_W (cur := cu) hL hdev.1 hdev.2 (show 1100 + 2000 * i ≤ 60000 by omega) aw (q := e.zm) (wes e hem).1 (by omega) (wes e hem).2.1 (wes e hem).2.2 kn no
                      rw [tk, List.foldl_append]
                      generalize hMi : ((es.map Ent.zm).take i).foldl (asmJ L cu e0.z) (asm1 L l cu e0.z e0.m c) = Mi at hm aw kn aw2 ⊢
                      obtain ⟨m0', ms0', so0', _, _, mo0', _, _⟩ := hm.side zA
                      obtain ⟨d0', ds0', ems0', ⟨⟨sx0', hs0'⟩, _⟩⟩ := id so0'
                      have sR1' := st.g.rh
                      have hG1 := sR1' _ _ (r17 _ _ hG7)
                      obtain ⟨dxm, sdm, gdm, fam, kvm, gvm, hmom, _⟩ := hm.at
                      have hse : ∃ sx d, H9' e.s = some (.ins T.C_Side sx [("layout", .ref a), ("seat", .int e.z), ("device", .ref d)]) := by
                        by_cases ez : e.z = e0.z
                        · obtain rfl : e = e0 := ent_unique ndz hem e0m ez
                          exact ⟨_, _, hs0'⟩
                        · obtain ⟨d, ds, _, ⟨⟨sx, hs⟩, _⟩⟩ := (sos e (by rw [dr]; exact List.mem_cons_self) ez).1
                          exact ⟨_, _, hs⟩
                      obtain ⟨sxe, de, hse⟩ := hse
                      have k2 : 1100 + 2000 * (i + 1) = 1100 + 2000 * i + 2000 := by omega
                      fail "go"
                      by_cases ez : e.z = e0.z
                      · have hJ : asmJ L cu e0.z Mi e.zm = Mi := if_pos ez
                        rw [hJ] at aw2
                        rw [if_neg (by simp [ez])]
                        fail "go"
                        show ∃ _, _
                        refine ⟨_, R1, F1, A1, rfl, ?_, st, fun f hf => sos f (by rw [dr]; exact List.mem_cons_of_mem _ hf), ?_, ?_, zA, r17⟩
                        · show MirOk K T.C_Mirror T.C_Side T.C_Device R1 H9' x a (asmJ L cu e0.z Mi e.zm) F1 A1
                          rw [hJ]; exact hm
                        · show AsmW L e0.z _ _ (asmJ L cu e0.z Mi e.zm)
                          rw [hJ, k2]; exact aw2.1
                        · show (asmJ L cu e0.z Mi e.zm).keys.Nodup
                          rw [hJ]; exact aw2.2
                      · rw [if_pos (by simp [ez])]
                        have hJ : asmJ L cu e0.z Mi e.zm = (Mi.guest e.z e.m).join L e.z (!decide (e.z ∈ cu.map (·.1))) := by
                          unfold asmJ
                          rw [if_neg (show ¬ e.zm.1 = e0.z from ez)]
                          show (Mi.guest e.z e.m).join L e.z (decide (e.z ∉ cu.map (·.1))) = _
                          rw [decide_not]
                        rw [hJ] at aw2
                        obtain ⟨so1, dj1⟩ := sos e (by rw [dr]; exact List.mem_cons_self) ez
                        have zk : e.z ∉ Mi.keys := fun h => by
                          rcases (aw.keys _).mp h with h | h
                          · exact ez h
                          · exact no h
                        fail "go"
                        refine g_ninF (.inl (SqL.of hG1)) rfl (flat_ints _) ?_
                        rw [inV_ints]
                        fail "go"
                        have a1 := a9.mono (ri7.trans r17)
                        refine ⟨R1, x, a, e.s, e.z, e.m, e.ms, L, Mi, F1, A1, _, _, rfl, sR1', a1, hL, hdev, hm, aw.w, by omega, aw.gs, zk, (wes e hem).2.1, (wes e hem).2.2, so1, dj1, (wes e hem).1.up (by omega), fun R2 H2' F2 hm2 st2 => ?_⟩
                        fail "go"
                        show ∃ _, _
                        have stW : Step (F0 ++ es.flatMap (·.ms)) (F1 ++ e.ms) R9 H4 R1 H9' := ⟨st.g, fun y hy => by
                          rcases List.mem_append.mp hy with hy | hy
                          · exact st.nw y hy
                          · exact .inl (List.mem_append_right _ (inU.mpr ⟨e, hem, hy⟩))⟩
                        refine ⟨_, R2, F2, A1 ++ [(e.z, e.s)], rfl, ?_, stW.trans st2, fun f hf ne => ?_, ?_, ?_, List.mem_append_left _ zA, r17.trans st2.g.rr⟩
                        · show MirOk K T.C_Mirror T.C_Side T.C_Device R2 H2' x a (asmJ L cu e0.z Mi e.zm) F2 _
                          rw [hJ]; exact hm2
                        · obtain ⟨so3, dj3⟩ := sos f (by rw [dr]; exact List.mem_cons_of_mem _ hf) ne
                          have fe : Dj e.ms f.ms := by
                            have := pw.drop (i := i)
                            rw [dr] at this
                            exact (List.pairwise_cons.mp this).1 f hf
                          have nF : ∀ y ∈ f.ms, y ∉ F1 ++ e.ms := fun y hy hn => by
                            rcases List.mem_append.mp hn with h | h
                            · exact dj3 y hy h
                            · exact fe y h hy
                          refine ⟨so3.frame st2.g nF, fun y hy hn => ?_⟩
                          rcases st2.nw y hn with h | h
                          · exact nF y hy h
                          · obtain ⟨o, ho⟩ := so3.has y hy
                            rw [h] at ho; cases ho
                        · show AsmW L e0.z _ _ (asmJ L cu e0.z Mi e.zm)
                          rw [hJ, k2]; exact aw2.1
                        · show (asmJ L cu e0.z Mi e.zm).keys.Nodup
                          rw [hJ]; exact aw2.2
                    · rintro σ H9' ⟨x3, R1, F1, A1, rfl, hm, st, sos, aw, kn, zA, r17⟩
                      rw [List.length_map, ← zl, List.take_length] at hm
                      fail "go"
                      refine hq hok R1 H9' x F1 A1 (by unfold asmOf; rw [hcu]; exact hm) ?_ fun y hy => ?_
                      · have g1 : Gr [] R9 H8 R9 H4 := (Mu.ofSame G9.1.rh s84.1).g
                        exact ((G9.1.trans g1).nil.trans st.g).forget fun y hy _ => inV hy
                      · rcases st.nw y hy with h | h
                        · exact inV h
                        · exact G9.1.free (s84.1.free h)
                  · cases c with
                    | none =>
                      fail "go"
                      exact rest _ _ ⟨rfl, hm0, Gr.refl sR4'⟩
                    | some c =>
                      dsimp only [fuseV]
                      fail "go"
                      refine ⟨R9, x, a, _, F0, _, c, rfl, sR4', hm0, fun H5 g5 hm5 => ?_⟩
                      fail "go"
                      exact rest _ _ ⟨rfl, hm5, g5⟩
              · fail "go"
                refine ⟨!(missOf l cu).isEmpty, .inr (.inl ⟨_, SqT.of h6, by simp⟩), ?_⟩
                cases hm : missOf l cu with
                | nil =>
                  fail "go"
                  exact rest _ _ ⟨tf, rfl, Same.refl _, by unfold asmFk; rw [if_pos hm]; exact htf6⟩
                | cons y r =>
                  fail "go"
                  refine ⟨_, _, rfl, ?_⟩
                  fail "go"
                  refine ⟨by fail "sz", ?_⟩
                  intro p8 n8
                  have q8 := (Gr.newM (M := []) (o := .tup [.int (4 * l.gen + e0.z)]) s6 n8).same
                  refine g_catA (sqT_mono q8 htf6) (SqT.of upd_same) (by rw [List.length_map]; exact Nat.le_trans (show _ ≤ 1000 by simp; omega) (by decide)) (by simp) fun fa H8 s8 hfa => ?_
                  exact rest _ _ ⟨fa, rfl, q8.trans s8, by unfold asmFk; rw [if_neg (by rw [hm]; simp), List.map_append]; exact hfa⟩
            · fail "go"
              refine ⟨!(missOf l cu).isEmpty, .inr (.inl ⟨_, SqT.of h6, by simp⟩), ?_⟩
              cases hm : missOf l cu with
              | nil =>
                fail "go"
                exact rest _ _ ⟨rfl, rfl, .inl hm⟩
              | cons y r =>
                fail "go"
                cases force with
                | true =>
                  refine ⟨true, rfl, ?_⟩
                  fail "go"
                  rw [List.length_map]
                  rw [if_neg (by simp; omega)]
                  fail "go"
                  exact rest _ _ ⟨rfl, rfl, .inr rfl⟩
                | false =>
                  refine ⟨false, rfl, ?_⟩
                  fail "go"
                  exact g_var rfl ⟨(show (1 : Nat) ≤ 1000 by decide), fun a na => raise_deg (Wd := fun d H' => E (.ref T.C_Degraded) d H') (fun d H' s e => hDg (by rw [hm]; simp) rfl H' d p6 ((s01.2.trans s16).trans s) e (SqT.of (s _ _ h6))) a na⟩
end
def spFault (K : PySem.W.Frag) (CL CM CS CD : Addr) : Sp := fun vs H Q _ => ∃ (R : Hp) (p a : Addr) (L : Lay) (os : List (Option Ent)) (force : Bool), vs = [.ref p, .bl force] ∧ Same R H ∧ LayAt CL R a L ∧ L.Ok ∧ (0 ≤ L.device ∧ L.device < 900) ∧ TupIn R H ∧ H p = some (.lst (os.map sideV)) ∧ os.length ≤ 3 ∧
  (∀ e ∈ os.filterMap id, SideOkD false K CS CD R H e.s a e.z e.m e.ms ∧ RsW L 100 e.m ∧ 0 ≤ e.z ∧ e.z < 3) ∧ ((sidesOf os).map (·.1)).Nodup ∧
  (folLb L (sidesOf os) = none → ∀ H' q, Same H H' → H' q = some (.lst [.str "no mirror", .non]) → Q (.ref q) H') ∧
  ∀ l, folLb L (sidesOf os) = some l → (0 ≤ l.gen ∧ l.gen ≤ 100) ∧ l.forks.length < 16 ∧ (∀ x ∈ l.forks, 0 ≤ x ∧ x < 16777216) ∧
    (missOf l (curOf L l (sidesOf os)) ≠ [] → force = false → ∀ H' q t, Same H H' → H' q = some (.lst [.str "degraded", .ref t]) → SqT K H' t ((missOf l (curOf L l (sidesOf os))).map V.int) → Q (.ref q) H') ∧
    ∀ z m, (curOf L l (sidesOf os)).head? = some (z, m) → (missOf l (curOf L l (sidesOf os)) = [] ∨ force = true) → ∀ R' H' mo F A q, MirOk K CM CS CD R' H' mo a (asmOf L l (sidesOf os) z m none) F A → Gr [] R H R' H' → (∀ x ∈ F, H x = none) → H' q = some (.lst [.str "", .ref mo]) → q ∉ F → Q (.ref q) H'
section
variable {P : Program} {w : World} {K : PySem.W.Frag} {mg : Str → Option Value} {base : Heap}
theorem ok__law_fault (T : Txt P K mg) : FnOk P w K mg base CX0 13 T.f__law_fault T.fd__law_fault ["seats", "force"] (spFault K T.C_Layout T.C_Mirror T.C_Side T.C_Device) := by
  have a_Degraded_missing := T.a_Degraded_missing
  have G_assemble__x := ok_assemble__x (P := P) (w := w) (base := base) T
  refine T.F__law_fault.ok sc__law_fault (fun vs H Q E h => ?_) (fun cdv A outer s H vs Q E hr h => ?_)
  · obtain ⟨R, p, a, L, os, force, rfl, sR, ha, hL, hdev, hT, hp, ol, hes, nd, hN, hS⟩ := h
    rfl
  · obtain ⟨R, p, a, L, os, force, rfl, sR, ha, hL, hdev, hT, hp, ol, hes, nd, hN, hS⟩ := h
    refine ⟨_, (pss_one (ps_try_as (i := 2) rfl rfl sc__law_fault.nd rfl rfl ⟨rfl, by decide, .inl T.g_SegmentError⟩ takes0 (fun W pn xe tk _ => (pss_one (ps_ret (pe_lst (pa_cons pe_str (pa_cons (pe_callNS G_assemble__x (hr.mono (by decide)) rfl T.g_assemble T.F_assemble.kp T.kb_assemble__force (fun σ => passAt tk σ) (pa_cons (pv 0) pa_nil) (pk_cons (pv 1) pk_nil)) pa_nil)))))) (fun a oe cls d pn hz hf => (pss_cons (ps_if (pt_truthK (K := K) (pe_callB (call_isZ hz hf) (by rfl) T.n_isinstance (by decide +kernel) (pa_cons (pv 2) (pa_cons (pe_glob (v := .ref T.C_Degraded) rfl T.g_Degraded rfl) pa_nil))) (by intro _; rfl)) (pss_one (ps_ret (pe_lst (pa_cons pe_str (pa_cons (pe_xf T.xf_Degraded T.a_Degraded_missing hz hf (pv 2)) pa_nil))))) pss_nil)
      (pss_one (ps_ret (pe_lst (pa_cons (pe_op opMulB pe_str (pe_callTy callIntU (by rfl) T.n_int (by decide +kernel) (pa_cons (pe_callB (call_isZ hz hf) (by rfl) T.n_isinstance (by decide +kernel) (pa_cons (pv 2) (pa_cons (pe_glob (v := .ref T.C_NoMirror) rfl T.g_NoMirror rfl) pa_nil))) pa_nil))) (pa_cons pe_non pa_nil))))))))), ?_⟩
    try dsimp only [cxOf]
    fail "go"
    refine ⟨rfl, rfl, R, p, a, L, os, force, none, rfl, sR, ha, hL, hdev, hT, hp, ol, hes, nd, fun hf H' s' => ?_, fun l hl => ?_⟩
    · refine ⟨true, T.em_NoMirror_SegmentError, fun _ ax nax => ?_, fun z => nomatch z⟩
      have sR' := sR.trans s'
      fail "go"
      refine .inr ⟨T.C_NoMirror, T.C_Degraded, false, rfl, rfl, T.ec_NoMirror, rfl, T.ke_NoMirror_Degraded, ?_⟩
      fail "go"
      refine ⟨_, rfl, ?_⟩
      fail "go"
      refine .inr ⟨T.C_NoMirror, T.C_NoMirror, true, rfl, rfl, T.ec_NoMirror, rfl, T.ke_NoMirror_NoMirror, ?_⟩
      fail "go"
      refine ⟨_, true, rfl, rfl, ?_⟩
      fail "go"
      refine ⟨by fail "sz", ?_⟩
      intro q nq
      exact hN hf _ q (s'.trans (Gr.newM (M := []) sR' nq).same) upd_same
    · obtain ⟨hg, hfew, hfr, hD, hQ⟩ := hS l hl
      refine ⟨hg, hfew, hfr, fun hm hf H' d t s' hd ht => ?_, fun z m hh hok R' H' mo F A hm g' hF => ?_⟩
      · refine ⟨true, T.em_Degraded_SegmentError, fun _ ax nax => ?_, fun z => nomatch z⟩
        have sR' := sR.trans s'
        fail "go"
        refine .inl ⟨_, rfl, T.is_Degraded_Degraded, ?_⟩
        fail "go"
        refine ⟨_, rfl, ?_⟩
        unfold tXf
        fail "go"
        refine ⟨rfl, rfl, d, [("missing", .ref t)], .ref t, rfl, hd, rfl, ?_⟩
        fail "go"
        refine ⟨by fail "sz", ?_⟩
        intro q nq
        have gq := Gr.newM (M := []) (o := .lst [.str "degraded", .ref t]) sR' nq
        exact hD hm hf _ q t (s'.trans gq.same) upd_same (sqT_mono gq.same ht)
      · fail "go"
        refine ⟨by fail "sz", ?_⟩
        intro q nq
        have gq := Gr.newM (M := []) (o := .lst [.str "", .ref mo]) g'.rh nq
        refine hQ z m hh hok R' _ mo F A q (hm.frame gq fun _ _ => List.not_mem_nil) (g'.trans gq) hF upd_same fun hq => ?_
        obtain ⟨o, ho⟩ := hm.has q hq
        rw [nq] at ho; cases ho
end
/-- a row of the law: a side, its cells, its labels -/
def RowL (K : PySem.W.Frag) (R : Hp) (r : Addr) (s c lp : Addr) (ls : List (Option Lb)) : Prop := ∃ us, R r = some (.lst [.ref s, .ref c, .ref lp]) ∧ R lp = some (.lst us) ∧ DpAll K R us (ls.map lbD)
def curB (z : Int) (own : Option Lb) (l : Lb) : Bool := match own with
  | none => false
  | some o => decide (z ∈ l.mem) && (decide (o = l) || isNextL l o)
def spCurrent (K : PySem.W.Frag) (CS : Addr) : Sp := fun vs H Q _ => ∃ (R : Hp) (r s c lp t d : Addr) (a : Addr) (z : Int) (ls : List (Option Lb)) (l : Lb), vs = [.ref r, .ref t] ∧ Same R H ∧ RowL K R r s c lp ls ∧ SideIn CS H s a z d ∧ Dp K H (.ref t) l.d ∧ Q (.bl (curB z (newestOf ls) l)) H
section
variable {P : Program} {w : World} {K : PySem.W.Frag} {mg : Str → Option Value} {base : Heap}
theorem ok__law_current (T : Txt P K mg) : FnOk P w K mg base CX0 2 T.f__law_current T.fd__law_current ["row", "label"] (spCurrent K T.C_Side) := by
  have cl_Side := T.cl_Side
  have a_Side_seat := T.a_Side_seat
  have G__law_best := ok__law_best (P := P) (w := w) (base := base) T
  refine T.F__law_current.ok sc__law_current (fun vs H Q E h => ?_) (fun cdv A outer s H vs Q E hr h => ?_)
  · obtain ⟨R, r, s, c, lp, t, d, a, z, ls, l, rfl, sR, ⟨us, hrw, hl, du⟩, ⟨sx, hs⟩, dl, hq⟩ := h
    rfl
  · obtain ⟨R, r, s, c, lp, t, d, a, z, ls, l, rfl, sR, ⟨us, hrw, hl, du⟩, ⟨sx, hs⟩, dl, hq⟩ := h
    refine ⟨_, (pss_cons (ps_set (i := 2) sc__law_current.nd rfl (by first | exact Or.inl rfl | exact Or.inr rfl) (pe_call G__law_best (hr.mono (by decide)) rfl T.g__law_best T.F__law_best.kp T.b__law_best .nil pass0 (pa_cons (pe_ix (ixU (K := K)) (pv 0) pe_int (fun _ _ => rfl)) pa_nil)))
      (pss_cons (ps_if (PW.pt (pw_or (pt_cmpR opIsU (pv 2) pe_non (nomark _)) (pw_or1 (pt_cmpR (opNinF (K := K)) (pe_fldK (K := K) (pe_ix (ixU (K := K)) (pv 0) pe_int (fun _ _ => rfl)) rfl) (pe_ix (ixU (K := K)) (pv 1) pe_int (fun _ _ => rfl)) (by rfl))))) (pss_one (ps_ret pe_bl)) pss_nil)
      (pss_one (ps_ret (pe_or (pe_cmpR (opEqU (K := K) hr.units) (pv 2) (pv 1) (nomark _)) (pe_one (pe_and (pe_cmpR (opEqU (K := K) hr.units) (pe_ix (ixU (K := K)) (pv 2) pe_int (fun _ _ => rfl)) (pe_op opSubU (pe_ix (ixU (K := K)) (pv 1) pe_int (fun _ _ => rfl)) pe_int) (nomark _)) (pe_and (pe_cmpR (opEqU (K := K) hr.units) (pe_ix (ixU (K := K)) (pv 2) pe_int (fun _ _ => rfl)) (pe_ix (ixU (K := K)) (pv 1) pe_int (fun _ _ => rfl)) (nomark _)) (pe_one (pe_cmpR (opEqU (K := K) hr.units) (pe_ix (ixU (K := K)) (pv 2) pe_int (fun _ _ => rfl)) (pe_ix (ixU (K := K)) (pv 1) pe_int (fun _ _ => rfl)) (nomark _))))))))))), ?_⟩
    try dsimp only [cxOf]
    have hrH := sR _ _ hrw
    have hlH := sR _ _ hl
    have duH := dpAll_mono sR du
    fail "go"
    refine ⟨lp, us, ls, rfl, SqL.of hlH, duH, fun v dv => ?_⟩
    obtain ⟨t5, m5, b5, f5, e5, ht5, hm5, hb5, hf5⟩ := dpLb dl
    cases e5
    rcases lbV dv with ⟨e0, rfl⟩ | ⟨own, t2, e0, rfl⟩
    · rw [e0] at hq
      fail "go"
      exact hq
    rw [e0] at dv hq
    obtain ⟨t7, m7, b7, f7, e7, ht7, hm7, hb7, hf7⟩ := dpLb dv
    cases e7
    fail "go"
    refine g_ninF (.inr hm5) rfl (flat_ints _) ?_
    rw [inV_ints]
    refine ⟨_, rfl, ?_⟩
    have hq : Q (.bl (decide (z ∈ l.mem) && (decide (own = l) || isNextL l own))) H := hq
    by_cases ei : z ∈ l.mem
    · rw [if_neg (by simpa using ei)]
      rw [decide_eq_true ei, Bool.true_and] at hq
      fail "go"
      refine g_eqLb (x := some own) (y := some l) dv dl ?_
      refine ⟨_, rfl, ?_⟩
      by_cases eo : own = l
      · rw [if_pos (by simp [eo])]
        rw [decide_eq_true eo, Bool.true_or] at hq
        fail "go"
        exact hq
      · rw [if_neg (by simp [eo])]
        rw [decide_eq_false eo, Bool.false_or] at hq
        have en : isNextL l own = (decide (own.gen = l.gen - 1) && (decide (own.mem = l.bef) && decide (own.forks = l.forks))) := by
          unfold isNextL
          by_cases c1 : own.gen = l.gen - 1 <;> by_cases c2 : own.mem = l.bef <;> simp [c1, c2]
        rw [en] at hq
        fail "go"
        by_cases c1 : own.gen = l.gen - 1
        · rw [if_pos (decide_eq_true c1)]
          rw [decide_eq_true c1, Bool.true_and] at hq
          fail "go"
          refine g_eqIntsT hm7 hb5 ?_
          by_cases c2 : own.mem = l.bef
          · rw [decide_eq_true c2, Bool.true_and] at hq
            rw [decide_eq_true c2]
            fail "go"
            refine g_eqIntsT hf7 hf5 ?_
            exact hq
          · rw [decide_eq_false c2, Bool.false_and] at hq
            rw [decide_eq_false c2]
            fail "go"
            exact hq
        · rw [if_neg (by simpa using c1)]
          rw [decide_eq_false c1, Bool.false_and] at hq
          exact hq
    · rw [if_pos (by simpa using ei)]
      rw [decide_eq_false ei, Bool.false_and] at hq
      fail "go"
      exact hq
end
def spDevPend (C : Addr) : Sp := fun vs H Q _ => ∃ (d a l1 l2 l3 : Addr) (ws : List V), vs = [.ref d] ∧ DevG C H d a l1 l2 l3 ∧ H l3 = some (.lst ws) ∧ Q (.int (ws.length : Int)) H
section
variable {P : Program} {w : World} {K : PySem.W.Frag} {mg : Str → Option Value} {base : Heap}
theorem ok_Device_pending (T : Txt P K mg) : FnOk P w K mg base CX0 1 T.f_Device_pending T.fd_Device_pending ["self"] (spDevPend T.C_Device) := by
  have cl_Device := T.cl_Device
  have a_Device_waiting := T.a_Device_waiting
  refine T.F_Device_pending.ok sc_Device_pending (fun vs H Q E h => ?_) (fun cdv A outer s H vs Q E hr h => ?_)
  · obtain ⟨d, a, l1, l2, l3, ws, rfl, ⟨dx, ff, bb, hd⟩, h3, hq⟩ := h
    rfl
  · obtain ⟨d, a, l1, l2, l3, ws, rfl, ⟨dx, ff, bb, hd⟩, h3, hq⟩ := h
    refine ⟨_, (pss_one (ps_ret (pe_callB (callLenU (K := K)) (by rfl) T.n_len (by decide +kernel) (pa_cons (pe_fldK (K := K) (pv 0) rfl) pa_nil)))), ?_⟩
    try dsimp only [cxOf]
    have r0 := Same.refl H
    fail "go"
    exact hq
end
def spSidePend (CS CD : Addr) : Sp := fun vs H Q _ => ∃ (s d a l1 l2 l3 : Addr) (n : Int) (ws : List V), vs = [.ref s] ∧ SideIn CS H s a n d ∧ DevG CD H d a l1 l2 l3 ∧ H l3 = some (.lst ws) ∧ Q (.int (ws.length : Int)) H
section
variable {P : Program} {w : World} {K : PySem.W.Frag} {mg : Str → Option Value} {base : Heap}
theorem ok_Side_pending (T : Txt P K mg) : FnOk P w K mg base CX0 2 T.f_Side_pending T.fd_Side_pending ["self"] (spSidePend T.C_Side T.C_Device) := by
  have cl_Side := T.cl_Side
  have a_Side_device := T.a_Side_device
  have G_Device_pending := ok_Device_pending (P := P) (w := w) (base := base) T
  refine T.F_Side_pending.ok sc_Side_pending (fun vs H Q E h => ?_) (fun cdv A outer s H vs Q E hr h => ?_)
  · obtain ⟨s, d, a, l1, l2, l3, n, ws, rfl, ⟨sx, hs⟩, ⟨dx, ff, bb, hd⟩, h3, hq⟩ := h
    rfl
  · obtain ⟨s, d, a, l1, l2, l3, n, ws, rfl, ⟨sx, hs⟩, ⟨dx, ff, bb, hd⟩, h3, hq⟩ := h
    refine ⟨_, (pss_one (ps_ret (pe_meth0 (pe_fldK (K := K) (pv 0) rfl) T.cl_Device T.m_Device_pending G_Device_pending (hr.mono (by decide)) T.b_Device_pending .nil pass0))), ?_⟩
    try dsimp only [cxOf]
    have r0 := Same.refl H
    fail "go"
    exact ⟨d, a, l1, l2, l3, ws, rfl, ⟨_, _, _, hd⟩, h3, hq⟩
end
def spMirPend (K : PySem.W.Frag) (CM CS CD : Addr) : Sp := fun vs H Q _ => ∃ (R : Hp) (mo a : Addr) (M : Mst) (F : List Addr) (A : List (Int × Addr)), vs = [.ref mo] ∧ Same R H ∧ MirOk K CM CS CD R H mo a M F A ∧
  ∀ H', Same H H' → Q (.int (M.seats.map fun z => ((M.row z).wait.length : Int)).sum) H'
def MpInv (H0 : Hp) (D : Addr) (M : Mst) (i : Nat) (H : Hp) : Prop := Same H0 H ∧ H D = some (.lst (((M.seats.take i).map fun z => ((M.row z).wait.length : Int)).map V.int))
section
variable {P : Program} {w : World} {K : PySem.W.Frag} {mg : Str → Option Value} {base : Heap}
theorem ok_Mirror_pending (T : Txt P K mg) : FnOk P w K mg base CX0 3 T.f_Mirror_pending T.fd_Mirror_pending ["self"] (spMirPend K T.C_Mirror T.C_Side T.C_Device) := by
  have cl_Mirror := T.cl_Mirror
  have a_Mirror_sides := T.a_Mirror_sides
  have G_Mirror_members := ok_Mirror_members (P := P) (w := w) (base := base) T
  have G_Side_pending := ok_Side_pending (P := P) (w := w) (base := base) T
  refine T.F_Mirror_pending.ok sc_Mirror_pending (fun vs H Q E h => ?_) (fun cdv A outer s H vs Q E hr h => ?_)
  · obtain ⟨R, mo, a, M, F, A, rfl, sR, hm, hq⟩ := h
    rfl
  · obtain ⟨R, mo, a, M, F, A, rfl, sR, hm, hq⟩ := h
    refine ⟨_, (pss_one (ps_ret (pe_callB (cr_sumK (K := K) rfl) (by rfl) T.n_sum (by decide +kernel) (pa_cons (pe_lc (own := [("seat", 1)]) (g := gName 1) (tt := tYes) rfl sc_Mirror_pending.nd (pi_tupK (K := K) (pe_meth0 (pv 0) T.cl_Mirror T.m_Mirror_members G_Mirror_members (hr.mono (by decide)) T.b_Mirror_members .nil pass0)) (blkOk_by (N := N_Mirror_pending) (sc := defScope s_Mirror_pending) (by decide +kernel)) (fun _ _ _ _ _ => (pg_name (i := 1) sc_Mirror_pending.nd rfl (by first | exact Or.inl rfl | exact Or.inr rfl))) (fun _ _ _ _ _ => pts_nil) (fun _ _ _ _ _ => (pe_meth0 (pe_dget (hu_of hr) (pe_fldK (K := K) (pv 0) rfl) (pv 1) (fun _ _ => rfl)) T.cl_Side T.m_Side_pending G_Side_pending (hr.mono (by decide)) T.b_Side_pending .nil pass0))) pa_nil)))), ?_⟩
    try dsimp only [cxOf]
    obtain ⟨dx, sd, gd, fa, kvs, gvs, hmo, _, _, _, kl, _, _, _, ke⟩ := hm.at
    have sl : M.seats.length ≤ 3 := by
      have := congrArg List.length ke
      rw [List.length_map, List.length_map] at this
      have e : M.seats.length = M.keys.length := sortI_len
      omega
    fail "go"
    refine ⟨R, mo, a, M, F, A, rfl, sR, hm, fun p H1 s1 np hp => ?_⟩
    have gm := Mu.ofSame (M := []) sR s1
    have hm1 := hm.frame gm.g fun _ _ => List.not_mem_nil
    have s01 := gm.g.rh
    clear hmo hm sR
    refine g_TsW (SqT.of hp) fun D nD => ?_
    refine lc_tup (K := K) (a := p) (xs := M.seats.map V.int) (MpInv H1 D M) ⟨(Gr.newM (M := []) s01 nD).same, upd_same⟩ (fun j H' _ ⟨s, _⟩ => SqT.of (s _ _ hp)) ?_ ?_
    · rintro j x H2 hi ⟨s2, hD2⟩
      obtain ⟨z, hz, rfl⟩ := map_get hi
      have zk : z ∈ M.keys := seats_keys.mp (List.mem_of_getElem? hz)
      have gm2 := Mu.ofSame (M := []) s01 s2
      have hm2 := hm1.frame gm2.g fun _ _ => List.not_mem_nil
      have s02 := gm2.g.rh
      obtain ⟨dx3, sd3, gd3, fa3, kvs3, gvs3, hmo3, hsd3, _, _, _, key3, _⟩ := hm2.at
      obtain ⟨s, hvs, hsA⟩ := key3 z zk
      obtain ⟨m, ms, so, hm', msF, momsn, rz, close⟩ := hm2.side hsA
      obtain ⟨d, ds, ems, ⟨⟨sx, hs⟩, nin, non, dev⟩⟩ := id so
      obtain ⟨l1, l2, l3, eds, ⟨ddx, ff, bb, hd, pw⟩, nd, non', v1, v2, v3, h1, h2, h3, d1, d2, d3⟩ := dev
      have vl : v3.length = m.wait.length := by have := dpAll_len d3; simpa using this
      clear hm1 hp s01 close h1 h2
      refine ⟨rfl, ?_⟩
      fail "go"
      refine g_DgI hsd3 hvs ?_
      fail "go"
      refine ⟨s, d, a, l1, l2, l3, z, v3, rfl, ⟨_, hs⟩, ⟨_, _, _, hd⟩, h3, ?_⟩
      refine ⟨_, hD2, by rw [List.length_map, List.length_map, List.length_take]; fail "sz", fun b o e => by rw [upd_ne (ne_of_none e nD)]; exact s2 _ _ e, ?_⟩
      rw [upd_same, take_snoc hz, List.map_append, List.map_append, vl, ← rz]; rfl
    · rintro H2 ⟨s2, hD2⟩
      rw [List.length_map, List.take_length] at hD2
      fail "go"
      exact ⟨D, _, rfl, SqL.of hD2, hq _ (s1.trans s2)⟩
end
def spWasCut (K : PySem.W.Frag) (CM CS CD : Addr) : Sp := fun vs H Q _ => ∃ (R : Hp) (mo a : Addr) (M : Mst) (F : List Addr) (A : List (Int × Addr)), vs = [.ref mo] ∧ MirOk K CM CS CD R H mo a M F A ∧ Q (.bl M.pw.dark) H
section
variable {P : Program} {w : World} {K : PySem.W.Frag} {mg : Str → Option Value} {base : Heap}
theorem ok_Mirror_was_cut (T : Txt P K mg) : FnOk P w K mg base CX0 1 T.f_Mirror_was_cut T.fd_Mirror_was_cut ["self"] (spWasCut K T.C_Mirror T.C_Side T.C_Device) := by
  have cl_Mirror := T.cl_Mirror
  have a_Mirror_dark := T.a_Mirror_dark
  refine T.F_Mirror_was_cut.ok sc_Mirror_was_cut (fun vs H Q E h => ?_) (fun cdv A outer s H vs Q E hr h => ?_)
  · obtain ⟨R, mo, a, M, F, A, rfl, hm, hq⟩ := h
    rfl
  · obtain ⟨R, mo, a, M, F, A, rfl, hm, hq⟩ := h
    refine ⟨_, (pss_one (ps_ret (pe_fldK (K := K) (pv 0) rfl))), ?_⟩
    try dsimp only [cxOf]
    obtain ⟨dx, sd, gd, fa, kvs, gvs, hmo, _⟩ := hm.at
    fail "go"
    exact hq
end
/-- the law's rows: sides by seat -/
def RowsL (R H : Hp) (CS a : Addr) (rs : List Addr) (zs : List Int) : Prop := rs.length = zs.length ∧ ∀ (i : Nat) (r : Addr) (z : Int), rs[i]? = some r → zs[i]? = some z → ∃ s c lp d, R r = some (.lst [.ref s, .ref c, .ref lp]) ∧ SideIn CS H s a z d
def spMade (K : PySem.W.Frag) (CL CM CS CD : Addr) : Sp := fun vs H Q _ => ∃ (R : Hp) (a mo rl t fa tm tb tf : Addr) (L : Lay) (M : Mst) (F : List Addr) (A : List (Int × Addr)) (rs : List Addr) (zs : List Int) (l : Lb) (fk : List Int) (k : Nat), vs = [.ref a, .ref mo, .ref rl, .ref t, .ref fa] ∧ Same R H ∧ LayAt CL R a L ∧ L.Ok ∧ (0 ≤ L.device ∧ L.device < 900) ∧ MirOk K CM CS CD R H mo a M F A ∧ MsW L k M ∧ R rl = some (.lst (rs.map V.ref)) ∧ RowsL R H CS a rs zs ∧ zs.length ≤ 3 ∧
  SqT K R t [.int l.gen, .ref tm, .ref tb, .ref tf] ∧ SqT K R fa (fk.map V.int) ∧ M.seats = zs ∧ M.gen = l.gen + (zs.length : Int) ∧ M.pw = ⟨none, false⟩ ∧ (∀ y ∈ M.keys, (M.row y).wait = [] ∧ ∃ bef, labOf L y (M.row y) = some ⟨M.gen, zs, bef, fk⟩) ∧ ∀ H', Same H H' → Q (.bl true) H'
theorem g_neIntsM {K : PySem.W.Frag} {H : Hp} {Q : VK} {p q : Addr} {l : List Int} (hp : SqT K H p (l.map V.int)) (hq : SqT K H q (l.map V.int)) (k : Q (.bl false) H) : rNeU K (.ref p) (.ref q) H Q := by
  refine g_neDa (.tup hp (dpAll_ints l)) (.tup hq (dpAll_ints l)) (la_shaped (la_tup (n := 0) la_ints)) (la_shaped (la_tup (n := 0) la_ints)) (.inl ⟨_, rfl⟩) ?_
  rw [eqv_same (by rw [clean]; exact clean_ints l)]
  exact k
theorem sum_zero : ∀ {l : List Int} {f : Int → Int}, (∀ z ∈ l, f z = 0) → (l.map f).sum = 0
  | [], _, _ => rfl
  | z :: r, f, h => by
    rw [List.map_cons, List.sum_cons, h z List.mem_cons_self, sum_zero fun y hy => h y (List.mem_cons_of_mem _ hy)]; rfl
section
variable {P : Program} {w : World} {K : PySem.W.Frag} {mg : Str → Option Value} {base : Heap}
theorem ok__law_made (T : Txt P K mg) : FnOk P w K mg base CX0 10 T.f__law_made T.fd__law_made ["layout", "mirror", "rows", "label", "forks"] (spMade K T.C_Layout T.C_Mirror T.C_Side T.C_Device) := by
  have cl_Side := T.cl_Side
  have cl_Mirror := T.cl_Mirror
  have a_Side_seat := T.a_Side_seat
  have a_Mirror_generation := T.a_Mirror_generation
  have a_Mirror_sides := T.a_Mirror_sides
  have G_Mirror_pending := ok_Mirror_pending (P := P) (w := w) (base := base) T
  have G_Mirror_was_cut := ok_Mirror_was_cut (P := P) (w := w) (base := base) T
  have G_Mirror_members := ok_Mirror_members (P := P) (w := w) (base := base) T
  have G_Side_label := ok_Side_label (P := P) (w := w) (base := base) T
  refine T.F__law_made.ok sc__law_made (fun vs H Q E h => ?_) (fun cdv A outer s H vs Q E hr h => ?_)
  · obtain ⟨R, a, mo, rl, t, fa, tm, tb, tf, L, M, F, A, rs, zs, l, fk, k, rfl, sR, ha, hL, hdev, hm, mw, hrl, ⟨rzl, hrz⟩, zl3, ht, hfa, hse, hgen, hpw, hrows, hq⟩ := h
    rfl
  · obtain ⟨R, a, mo, rl, t, fa, tm, tb, tf, L, M, F, A, rs, zs, l, fk, k, rfl, sR, ha, hL, hdev, hm, mw, hrl, ⟨rzl, hrz⟩, zl3, ht, hfa, hse, hgen, hpw, hrows, hq⟩ := h
    refine ⟨_, (pss_cons (ps_set (i := 5) sc__law_made.nd rfl (by first | exact Or.inl rfl | exact Or.inr rfl) (pe_callTy (callTupU (K := K)) (by rfl) T.n_tuple (by decide +kernel) (pa_cons (pe_lc (own := [("row", 9)]) (g := gName 9) (tt := tYes) rfl sc__law_made.nd (pi_listK (K := K) (pv 2)) (blkOk_by (N := N__law_made) (sc := defScope s__law_made) (by decide +kernel)) (fun _ _ _ _ _ => (pg_name (i := 9) sc__law_made.nd rfl (by first | exact Or.inl rfl | exact Or.inr rfl))) (fun _ _ _ _ _ => pts_nil) (fun _ _ _ _ _ => (pe_fldK (K := K) (pe_ix (ixU (K := K)) (pv 9) pe_int (fun _ _ => rfl)) rfl))) pa_nil)))
      (pss_cons (ps_set (i := 6) sc__law_made.nd rfl (by first | exact Or.inl rfl | exact Or.inr rfl) (pe_op (opAddU (K := K)) (pe_ix (ixU (K := K)) (pv 3) pe_int (fun _ _ => rfl)) (pe_callB (callLenU (K := K)) (by rfl) T.n_len (by decide +kernel) (pa_cons (pv 2) pa_nil))))
      (pss_cons (ps_if (PW.pt (pw_or (pt_cmpR (opNeU (K := K) hr.units) (pe_meth0 (pv 1) T.cl_Mirror T.m_Mirror_members G_Mirror_members (hr.mono (by decide)) T.b_Mirror_members .nil pass0) (pv 5) (nomark _)) (pw_or (pt_cmpR (opNeU (K := K) hr.units) (pe_fldK (K := K) (pv 1) rfl) (pv 6) (nomark _)) (pw_or (pt_truthK (K := K) (pe_meth0 (pv 1) T.cl_Mirror T.m_Mirror_was_cut G_Mirror_was_cut (hr.mono (by decide)) T.b_Mirror_was_cut .nil pass0) (by intro _; rfl)) (pw_or1 (pt_cmpR (opNeU (K := K) hr.units) (pe_meth0 (pv 1) T.cl_Mirror T.m_Mirror_pending G_Mirror_pending (hr.mono (by decide)) T.b_Mirror_pending .nil pass0) pe_int (nomark _))))))) (pss_one (ps_ret pe_bl)) pss_nil)
      (pss_cons (ps_for PassesOwn.never rfl (pi_tupK (K := K) (pv 5)) (pg_name (i := 7) sc__law_made.nd rfl (by first | exact Or.inl rfl | exact Or.inr rfl)) (pss_cons (ps_set (i := 8) sc__law_made.nd rfl (by first | exact Or.inl rfl | exact Or.inr rfl) (pe_meth0 (pe_dget (hu_of hr) (pe_fldK (K := K) (pv 1) rfl) (pv 7) (fun _ _ => rfl)) T.cl_Side T.m_Side_label G_Side_label (hr.mono (by decide)) T.b_Side_label .nil pass0))
      (pss_one (ps_if (PW.pt (pw_or (pt_cmpR (opNeU (K := K) hr.units) (pe_tup (pa_cons (pe_ix (ixU (K := K)) (pv 8) pe_int (fun _ _ => rfl)) (pa_cons (pe_ix (ixU (K := K)) (pv 8) pe_int (fun _ _ => rfl)) (pa_cons (pe_ix (ixU (K := K)) (pv 8) pe_int (fun _ _ => rfl)) pa_nil)))) (pe_tup (pa_cons (pv 6) (pa_cons (pv 5) (pa_cons (pv 4) pa_nil)))) (nomark _)) (pw_or1 (pt_cmpR (opNeU (K := K) hr.units) (pe_fldK (K := K) (pe_dget (hu_of hr) (pe_fldK (K := K) (pv 1) rfl) (pv 7) (fun _ _ => rfl)) rfl) (pv 7) (nomark _))))) (pss_one (ps_ret pe_bl)) pss_nil))))
      (pss_one (ps_ret pe_bl)))))), ?_⟩
    try dsimp only [cxOf]
    have hrlH := sR _ _ hrl
    have rl3 : rs.length ≤ 3 := by omega
    fail "go"
    refine g_LsW (SqL.of hrlH) fun D nD => ?_
    refine lc_list (K := K) (a := rl) (xs := rs.map V.ref) (fun i H' => Same H H' ∧ H' D = some (.lst ((zs.take i).map V.int))) ⟨(Gr.newM (M := []) sR nD).same, upd_same⟩ (fun j H' _ ⟨s, _⟩ => SqL.of (s _ _ hrlH)) ?_ ?_
    · rintro i v H1 hv ⟨s1, hD1⟩
      rw [List.getElem?_map] at hv
      obtain ⟨r, hr', rfl⟩ := Option.map_eq_some_iff.mp hv
      obtain ⟨il, _⟩ := List.getElem?_eq_some_iff.mp hr'
      have hz : zs[i]? = some (zs[i]'(by omega)) := List.getElem?_eq_getElem _
      generalize zs[i]'(by omega) = z at hz
      obtain ⟨s, c, lp, d, hrr, ⟨sx, hs⟩⟩ := hrz i r z hr' hz
      have hrr1 := s1 _ _ (sR _ _ hrr)
      have hs1 := s1 _ _ hs
      refine ⟨rfl, ?_⟩
      fail "go"
      refine ⟨_, hD1, by rw [List.length_map, List.length_take]; exact Nat.lt_of_le_of_lt (show _ ≤ 1000 by omega) (by decide), fun b o e => ?_, by rw [upd_same, take_snoc hz, List.map_append]; rfl⟩
      rw [upd_ne (ne_of_none e nD)]; exact s1 _ _ e
    · rintro H1 ⟨s1, hD1⟩
      rw [List.length_map, rzl, List.take_length] at hD1
      fail "go"
      refine g_tupL (SqL.of hD1) ?_
      have sR1 := sR.trans s1
      have hm1 := hm.frame (Mu.ofSame (M := []) sR s1).g fun _ _ => List.not_mem_nil
      have hrl1 := s1 _ _ hrlH
      fail "newR"
      rename_i p2 H2 R2 n2 g2 h2 s2
      have hm2 := hm1.frame g2 fun _ _ => List.not_mem_nil
      have hrl2 := g2.same _ _ hrl1
      have ht2 := sqT_mono (g2.rr.trans s2) ht
      have hfa2 := sqT_mono (g2.rr.trans s2) hfa
      have a2 := ha.mono g2.rr
      obtain ⟨dxm, sdm, gdm, fam, kvm, gvm, hmo, hsd2, _, _, _, key2, _⟩ := hm2.at
      have s02 : Same H H2 := s1.trans g2.same
      have hfaR := sqT_mono g2.rr hfa
      clear g2 hrl1 hD1 sR1 hm1 s1 hrlH
      fail "gi"
      refine g_seqIN (fun σ H' => σ = [some (.ref a), some (.ref mo), some (.ref rl), some (.ref t), some (.ref fa), some (.ref p2), some (.int (l.gen + (zs.length : Int))), none, none, none] ∧ Same H2 H') ?_ (fun Nx rest => ?_)
      · rintro σ H3 ⟨rfl, s3⟩
        have h23 := (s2.trans s3) _ _ h2
        have sR3 := s2.trans s3
        clear hmo
        fail "go"
        refine g_TsW (SqT.of h23) ?_
        refine for_tup (K := K) (a := p2) (xs := zs.map V.int) (fun i σ H' => ∃ x7 x8 : Option V, σ = [some (.ref a), some (.ref mo), some (.ref rl), some (.ref t), some (.ref fa), some (.ref p2), some (.int (l.gen + (zs.length : Int))), x7, x8, none] ∧ Same H3 H') ⟨none, none, rfl, Same.refl H3⟩ (fun j σ H' _ ⟨_, _, _, s⟩ => SqT.of (s _ _ h23)) ?_ ?_
        · rintro i v σ H4 hv ⟨x7, x8, rfl, s4⟩
          obtain ⟨z, hz, rfl⟩ := map_get hv
          have zs' : z ∈ M.seats := by rw [hse]; exact List.mem_of_getElem? hz
          have zk := seats_keys.mp zs'
          have sR4 := sR3.trans s4
          have hm4 := hm2.frame (Mu.ofSame (M := []) s2 (s3.trans s4)).g fun _ _ => List.not_mem_nil
          obtain ⟨dx4, sd4, gd4, fa4, kv4, gv4, hmo4, hsd4, _, _, _, key4, _⟩ := hm4.at
          obtain ⟨s, hvs, hsA⟩ := key4 z zk
          obtain ⟨m, ms, so, hmz, _, _, rz, _⟩ := hm4.side hsA
          obtain ⟨rwm, _, _⟩ := mw.rows _ hmz
          obtain ⟨dd0, dds0, ems0, ⟨⟨sx0, hs0⟩, _⟩⟩ := id so
          have rwm : RsW L k m := rwm
          obtain ⟨_, bef, hlab⟩ := hrows z zk
          rw [rz] at hlab
          have lok : LabOk L m := ⟨rwm.ln, hdev, fun c hc => ⟨(rwm.c2 c hc).ok hL, (rwm.c2 c hc).octblk hL⟩⟩
          fail "go"
          refine g_DgI hsd4 hvs ?_
          fail "go"
          refine ⟨M.pw.dark, R2, s, a, L, z, m, ms, rfl, sR4, a2, hL, so, lok, fun v H5 s5 dv => ?_⟩
          rw [hlab] at dv
          obtain ⟨q, qm, qb, qf, rfl, hqt, hqm, hqb, hqf⟩ := dpLb dv
          have sR5 := sR4.trans s5
          have hm5 := hm4.frame (Mu.ofSame (M := []) sR4 s5).g fun _ _ => List.not_mem_nil
          obtain ⟨dx5, sd5, gd5, fa5, kv5, gv5, hmo5, hsd5, _, _, _, key5, _⟩ := hm5.at
          obtain ⟨s', hvs', hsA'⟩ := key5 z zk
          obtain ⟨m', ms', so', _⟩ := hm5.side hsA'
          obtain ⟨dd, dds, ems, ⟨⟨sx, hss⟩, nin, non, dev⟩⟩ := so'
          have h25 := (s3.trans (s4.trans s5)) _ _ (s2 _ _ h2)
          have hfa5 := sqT_mono sR5 hfaR
          clear hmo4 hsd4 hs0
          fail "go"
          refine ⟨by fail "sz", ?_⟩
          fail "newM"
          rename_i p6 H6 n6 g6 m6 h6 s6
          fail "go"
          refine ⟨by fail "sz", ?_⟩
          fail "newM"
          rename_i p7 H7 n7 g7 m7 h7 s7
          have h67 := g7.g.same _ _ h6
          have s57 := g6.g.same.trans g7.g.same
          have hqm7 := sqT_mono s57 hqm
          have hqf7 := sqT_mono s57 hqf
          have h27 := s57 _ _ h25
          have hfa7 := sqT_mono s57 hfa5
          have hmo7 := s57 _ _ hmo5
          have hsd7 := s57 _ _ hsd5
          have hss7 := s57 _ _ hss
          rw [← hgen] at h7
          have d1 : Dp K H7 (.ref p6) (.tuple [.int M.gen, intsD zs, intsD fk]) := .tup (SqT.of h67) (.cons (.int _) (.cons (.tup hqm7 (dpAll_ints _)) (.cons (.tup hqf7 (dpAll_ints _)) .nil)))
          have d2 : Dp K H7 (.ref p7) (.tuple [.int M.gen, intsD zs, intsD fk]) := .tup (SqT.of h7) (.cons (.int _) (.cons (.tup (SqT.of h27) (dpAll_ints _)) (.cons (.tup hfa7 (dpAll_ints _)) .nil)))
          have laT : LaD (.tuple [.int M.gen, intsD zs, intsD fk]) 2 := la_tup (la_cons la_int (la_cons (la_tup la_ints) (la_cons (la_tup la_ints) la_non')))
          clear g6 g7 h6 h67 hmo5 hsd5 hss h25
          refine g_neDa d1 d2 (la_shaped laT) (la_shaped laT) (.inl ⟨_, rfl⟩) ?_
          rw [eqv_same (by simp [clean, cleanAll, clean_ints, intsD])]
          fail "go"
          refine g_DgI hsd7 hvs' ?_
          fail "go"
          rw [if_neg (by simp)]
          fail "go"
          exact ⟨_, _, rfl, s4.trans (s5.trans s57)⟩
        · rintro σ H4 ⟨x7, x8, rfl, s4⟩
          fail "go"
          exact hq _ (s02.trans (s3.trans s4))
      · fail "go"
        rw [List.length_map, rzl]
        refine ⟨R2, mo, a, M, F, A, rfl, s2, hm2, fun p3 H3 s3 np3 hp3 => ?_⟩
        have h23 := s3 _ _ (s2 _ _ h2)
        rw [hse] at hp3
        fail "go"
        refine g_neIntsM (l := zs) (SqT.of hp3) (SqT.of h23) ?_
        have hm3 := hm2.frame (Mu.ofSame (M := []) s2 s3).g fun _ _ => List.not_mem_nil
        have sR3 := s2.trans s3
        obtain ⟨dx3, sd3, gd3, fa3, kv3, gv3, hmo3, _⟩ := hm3.at
        clear hmo
        fail "go"
        rw [hgen, decide_eq_true rfl]
        refine g_iteF rfl ?_
        fail "go"
        refine ⟨R2, mo, a, M, F, A, rfl, hm3, ?_⟩
        rw [hpw]
        fail "go"
        refine ⟨false, rfl, ?_⟩
        fail "go"
        refine ⟨R2, mo, a, M, F, A, rfl, sR3, hm3, fun H4 s4 => ?_⟩
        fail "go"
        rw [sum_zero fun z hz => by rw [(hrows z (seats_keys.mp hz)).1]; rfl]
        fail "go"
        exact rest _ _ ⟨rfl, s3.trans s4⟩
end
def spDevSure (C : Addr) : Sp := fun vs H Q _ => ∃ (d a l1 l2 l3 : Addr) (us : List V), vs = [.ref d] ∧ DevG C H d a l1 l2 l3 ∧ H l1 = some (.lst us) ∧ ∀ p, H p = none → Q (.ref p) (upd H p (.lst us))
section
variable {P : Program} {w : World} {K : PySem.W.Frag} {mg : Str → Option Value} {base : Heap}
theorem ok_Device_sure_blocks (T : Txt P K mg) : FnOk P w K mg base CX0 1 T.f_Device_sure_blocks T.fd_Device_sure_blocks ["self"] (spDevSure T.C_Device) := by
  have cl_Device := T.cl_Device
  have a_Device_sure := T.a_Device_sure
  refine T.F_Device_sure_blocks.ok sc_Device_sure_blocks (fun vs H Q E h => ?_) (fun cdv A outer s H vs Q E hr h => ?_)
  · obtain ⟨d, a, l1, l2, l3, us, rfl, ⟨dx, ff, bb, hd⟩, h1, hq⟩ := h
    rfl
  · obtain ⟨d, a, l1, l2, l3, us, rfl, ⟨dx, ff, bb, hd⟩, h1, hq⟩ := h
    refine ⟨_, (pss_one (ps_ret (pe_callTy (callListU (K := K)) (by rfl) T.n_list (by decide +kernel) (pa_cons (pe_fldK (K := K) (pv 0) rfl) pa_nil)))), ?_⟩
    try dsimp only [cxOf]
    have r0 := Same.refl H
    fail "go"
    exact g_listL (SqL.of h1) hq
end
def spLaw (K : PySem.W.Frag) : Sp := fun vs H Q _ => ∃ (a : Addr) (ns : List Int), vs = [.ref a] ∧ SqL K H a (ns.map V.int) ∧ ns.length ≤ 63 ∧ ∀ H', Q (.bl true) H'
local macro_rules | `(tactic| fail "calls") => `(tactic| ((with_reducible show spTake _ _ _ _); refine ⟨_, _, _, rfl, by fail "hp", by fail "ar", by fail "ar", ?_⟩; fail "mut"))
theorem lays_dev : ∀ L ∈ lays, 12 ≤ L.device ∧ L.device < 900 := by
  intro L h
  simp only [lays, List.mem_cons, List.not_mem_nil, or_false] at h
  rcases h with rfl | rfl | rfl | rfl | rfl | rfl <;> exact ⟨by decide, by decide⟩
theorem mz_W {L : Lay} {cs : List Cell} (h : (cs.length : Int) = L.device + 2) (c : ∀ c ∈ cs, CW L c) : RsW L 0 (mz cs) := ⟨h, h, Nat.le_refl 0, fun q hq => absurd hq List.not_mem_nil, c, c, fun q hq => absurd hq List.not_mem_nil⟩
theorem g_neLb {K : PySem.W.Frag} {H : Hp} {Q : VK} {v w : V} {x y : Option Lb} (hv : Dp K H v (lbD x)) (hw : Dp K H w (lbD y)) (q : Q (.bl (!decide (x = y))) H) : rNeU K v w H Q := by
  refine g_neDa hv hw (la_shaped (la_lbD x)) (la_shaped (la_lbD y)) ?_ ?_
  · rcases lbV hv with ⟨_, rfl⟩ | ⟨c, t, _, rfl⟩
    · exact .inr rfl
    · exact .inl ⟨_, rfl⟩
  · rw [eqv_lbD]; exact q
/-- a row of the law that belongs to a side -/
def RowE (K : PySem.W.Frag) (L : Lay) (R : Hp) (r : Addr) (e : Ent) : Prop := ∃ (c lp : Addr) (us uls : List V) (cs : List Cell) (ls : List (Option Lb)), R r = some (.lst [.ref e.s, .ref c, .ref lp]) ∧ R c = some (.lst us) ∧ DpAll K R us (cs.map cellD) ∧ R lp = some (.lst uls) ∧ DpAll K R uls (ls.map lbD) ∧ e.m = mz cs ∧ (cs.length : Int) = L.device + 2 ∧ (∀ c ∈ cs, CW L c) ∧ newestOf ls = labOf L e.z e.m ∧ ∀ l, labOf L e.z e.m = some l → smallLb l
theorem RowE.mono {K : PySem.W.Frag} {L : Lay} {R R' : Hp} {r : Addr} {e : Ent} (h : RowE K L R r e) (s : Same R R') : RowE K L R' r e := by
  obtain ⟨c, lp, us, uls, cs, ls, h1, h2, h3, h4, h5, h6⟩ := h
  exact ⟨c, lp, us, uls, cs, ls, s _ _ h1, s _ _ h2, dpAll_mono s h3, s _ _ h4, dpAll_mono s h5, h6⟩
/-- sides and rows that are there -/
structure KSt (K : PySem.W.Frag) (CS CD : Addr) (L : Lay) (R H : Hp) (a S rl : Addr) (os : List (Option Ent)) (rs : List Addr) : Prop where
  sR : Same R H
  hS : H S = some (.lst (os.map sideV))
  hr : H rl = some (.lst (rs.map V.ref))
  RS : R S = none
  Rr : R rl = none
  len : rs.length = (os.filterMap id).length
  row : ∀ (i : Nat) (r : Addr) (e : Ent), rs[i]? = some r → (os.filterMap id)[i]? = some e → RowE K L R r e
  side : ∀ e ∈ os.filterMap id, SideOkD false K CS CD R H e.s a e.z e.m e.ms
  asc : ((os.filterMap id).map (·.z)).Pairwise (· < ·)
  rng : ∀ e ∈ os.filterMap id, 0 ≤ e.z ∧ e.z < (os.length : Int)
  own : ∀ e ∈ os.filterMap id, S ∉ e.ms ∧ rl ∉ e.ms
theorem KSt.frame {K : PySem.W.Frag} {CS CD : Addr} {L : Lay} {R H R' H' : Hp} {a S rl : Addr} {os : List (Option Ent)} {rs : List Addr} (h : KSt K CS CD L R H a S rl os rs) (g : Gr [] R H R' H') : KSt K CS CD L R' H' a S rl os rs :=
  ⟨g.rh, g.same _ _ h.hS, g.same _ _ h.hr, g.fr _ _ h.hS h.RS, g.fr _ _ h.hr h.Rr, h.len, fun i r e h1 h2 => (h.row i r e h1 h2).mono g.rr, fun e he => (h.side e he).frame g fun _ _ => List.not_mem_nil, h.asc, h.rng, h.own⟩
theorem ents_snoc (os : List (Option Ent)) (o : Option Ent) : (os ++ [o]).filterMap id = os.filterMap id ++ o.toList := by
  rw [List.filterMap_append]
  cases o <;> rfl
theorem KSt.no {K : PySem.W.Frag} {CS CD : Addr} {L : Lay} {R H H' : Hp} {a S rl : Addr} {os : List (Option Ent)} {rs : List Addr} (h : KSt K CS CD L R H a S rl os rs) (g : Gr [S] R H R H') (hS : H' S = some (.lst (os.map sideV ++ [.non]))) (Sr : S ≠ rl) : KSt K CS CD L R H' a S rl (os ++ [none]) rs := by
  have e : (os ++ [none]).filterMap id = os.filterMap id := by rw [ents_snoc]; simp
  refine ⟨g.rh, by rw [List.map_append]; exact hS, g.hh _ _ (nin1 Sr.symm) h.hr, h.RS, h.Rr, by rw [e]; exact h.len, by rw [e]; exact h.row, fun f hf => ?_, by rw [e]; exact h.asc, fun f hf => ?_, by rw [e]; exact h.own⟩
  · rw [e] at hf
    exact (h.side f hf).frame g fun y hy hn => (h.own f hf).1 (by rw [← List.mem_singleton.mp hn]; exact hy)
  · rw [e] at hf
    have := h.rng f hf
    rw [List.length_append]
    exact ⟨this.1, by simp; omega⟩
theorem KSt.yes {K : PySem.W.Frag} {CS CD : Addr} {L : Lay} {R H H' : Hp} {a S rl r : Addr} {os : List (Option Ent)} {rs : List Addr} {f : Ent} (h : KSt K CS CD L R H a S rl os rs) (g : Gr [S, rl] R H R H') (hS : H' S = some (.lst (os.map sideV ++ [.ref f.s]))) (hr : H' rl = some (.lst (rs.map V.ref ++ [.ref r]))) (row : RowE K L R r f) (so : SideOkD false K CS CD R H f.s a f.z f.m f.ms) (z : f.z = (os.length : Int)) (own : S ∉ f.ms ∧ rl ∉ f.ms) : KSt K CS CD L R H' a S rl (os ++ [some f]) (rs ++ [r]) := by
  have e : (os ++ [some f]).filterMap id = os.filterMap id ++ [f] := by rw [ents_snoc]; rfl
  have sd : ∀ k : Ent, SideOkD false K CS CD R H k.s a k.z k.m k.ms → S ∉ k.ms ∧ rl ∉ k.ms → SideOkD false K CS CD R H' k.s a k.z k.m k.ms := fun k hk ho => hk.frame g fun y hy hn => by
    simp only [List.mem_cons, List.not_mem_nil, or_false] at hn
    rcases hn with rfl | rfl
    · exact ho.1 hy
    · exact ho.2 hy
  refine ⟨g.rh, by rw [List.map_append]; exact hS, by rw [List.map_append]; exact hr, h.RS, h.Rr, by rw [e, List.length_append, List.length_append, h.len]; rfl, fun i x k h1 h2 => ?_, fun k hk => ?_, ?_, fun k hk => ?_, fun k hk => ?_⟩
  · rw [e] at h2
    by_cases hi : i < rs.length
    · rw [List.getElem?_append_left hi] at h1
      rw [List.getElem?_append_left (by rw [← h.len]; exact hi)] at h2
      exact h.row i x k h1 h2
    · rw [List.getElem?_append_right (by omega)] at h1
      rw [List.getElem?_append_right (by rw [← h.len]; omega), ← h.len] at h2
      have e0 : i - rs.length = 0 := by
        have := (List.getElem?_eq_some_iff.mp h1).1
        simp at this
        omega
      rw [e0] at h1 h2
      have h1 : r = x := by simpa using h1
      have h2 : f = k := by simpa using h2
      rw [← h1, ← h2]; exact row
  · rw [e] at hk
    rcases List.mem_append.mp hk with hk | hk
    · exact sd k (h.side k hk) (h.own k hk)
    · rw [List.mem_singleton.mp hk]; exact sd f so own
  · rw [e, List.map_append, List.pairwise_append]
    refine ⟨h.asc, List.pairwise_singleton _ _, fun x hx y hy => ?_⟩
    obtain ⟨k, hk, rfl⟩ := List.mem_map.mp hx
    rw [List.mem_singleton.mp hy]
    show k.z < f.z
    rw [z]
    exact (h.rng k hk).2
  · rw [e] at hk
    rw [List.length_append]
    rcases List.mem_append.mp hk with hk | hk
    · have := h.rng k hk
      exact ⟨this.1, by simp; omega⟩
    · rw [List.mem_singleton.mp hk, z]
      exact ⟨by omega, by simp; omega⟩
  · rw [e] at hk
    rcases List.mem_append.mp hk with hk | hk
    · exact h.own k hk
    · rw [List.mem_singleton.mp hk]; exact own
/-- what an assembly of the seats wants -/
structure FPre (K : PySem.W.Frag) (CL CS CD : Addr) (L : Lay) (R1 R H : Hp) (a S rl : Addr) (os : List (Option Ent)) : Prop where
  sR : Same R H
  r1 : Same R1 R
  la : LayAt CL R a L
  tup : TupIn R H
  es : ∀ e ∈ os.filterMap id, SideOkD false K CS CD R H e.s a e.z e.m e.ms ∧ RsW L 100 e.m ∧ 0 ≤ e.z ∧ e.z < 3
  nd : ((sidesOf os).map (·.1)).Nodup
  rl : R rl = H rl
  zok : ZsOk L (sidesOf os)
  zm : sidesOf os = (os.filterMap id).map Ent.zm
theorem KSt.pre {K : PySem.W.Frag} {CL CS CD : Addr} {L : Lay} {R1 H : Hp} {a S rl : Addr} {os : List (Option Ent)} {rs : List Addr} (h : KSt K CS CD L R1 H a S rl os rs) (ha : LayAt CL R1 a L) (hL : L.Ok) (o3 : os.length ≤ 3) : ∃ R, FPre K CL CS CD L R1 R H a S rl os := by
  have row : ∀ e ∈ os.filterMap id, ∃ cs, e.m = mz cs ∧ (cs.length : Int) = L.device + 2 ∧ ∀ c ∈ cs, CW L c := fun e he => by
    obtain ⟨i, hi⟩ := List.mem_iff_getElem?.mp he
    have il := (List.getElem?_eq_some_iff.mp hi).1
    have hr : rs[i]? = some (rs[i]'(by rw [h.len]; exact il)) := List.getElem?_eq_getElem _
    obtain ⟨c, lp, vs, uls, cs, ls, k1, k2, k3, k4, k5, k6, k7, k8, k9, k10⟩ := h.row i _ _ hr hi
    exact ⟨cs, k6, k7, k8⟩
  have zm : sidesOf os = (os.filterMap id).map Ent.zm := List.map_congr_left fun e he => by
    obtain ⟨cs, hm, _⟩ := row e he
    show (e.z, e.m.settle) = (e.z, e.m)
    rw [hm, settle_mz]
  have mU : ∀ y, y ∈ (os.filterMap id).flatMap (·.ms) → ∃ e ∈ os.filterMap id, y ∈ e.ms := fun y hy => by simpa using hy
  have nU : ∀ y ∈ (os.filterMap id).flatMap (·.ms), R1 y = none := fun y hy => by
    obtain ⟨e, he, hm⟩ := mU y hy
    exact (h.side e he).non y hm
  have r1 : Same R1 (off H ((os.filterMap id).flatMap (·.ms))) := same_off h.sR nU
  have z1 : (sidesOf os).map (·.1) = (os.filterMap id).map (·.z) := by rw [zm, List.map_map]; rfl
  refine ⟨_, off_same, r1, ha.mono r1, tupIn_off fun y hy us => ?_, fun e he => ?_, ?_, off_out fun hy => ?_, ⟨fun q hq => ?_, ?_⟩, zm⟩
  · obtain ⟨e, he, hm⟩ := mU y hy
    exact (h.side e he).notup y hm us
  · obtain ⟨cs, hm, hl, hc⟩ := row e he
    have := h.rng e he
    refine ⟨(h.side e he).re r1 fun y hy => off_in (List.mem_flatMap.mpr ⟨e, he, hy⟩), ?_, this.1, by omega⟩
    rw [hm]
    exact (mz_W hl hc).up (by decide)
  · rw [z1]
    exact h.asc.imp fun h => by omega
  · obtain ⟨e, he, hm⟩ := mU _ hy
    exact (h.own e he).2 hm
  · rw [zm] at hq
    obtain ⟨e, he, rfl⟩ := List.mem_map.mp hq
    obtain ⟨cs, hm, hl, hc⟩ := row e he
    have := h.rng e he
    show Still e.m ∧ (e.m.seen.length : Int) = _ ∧ 0 ≤ e.z ∧ e.z < 3
    rw [hm]
    exact ⟨⟨rfl, rfl⟩, hl, this.1, by omega⟩
  · rw [z1]; exact h.asc
theorem KSt.keep {K : PySem.W.Frag} {CS CD : Addr} {L : Lay} {R H H' : Hp} {a S rl : Addr} {os : List (Option Ent)} {rs : List Addr} (h : KSt K CS CD L R H a S rl os rs) (s : Same H H') : KSt K CS CD L R H' a S rl os rs := h.frame (Mu.ofSame h.sR s).g
theorem curL_B {L : Lay} {l : Lb} {e : Ent} : curL L l e.zm = curB e.z (labOf L e.z e.m) l := by
  unfold curL curB
  show (match labOf L e.z e.m with | none => _ | some own => _) = _
  cases labOf L e.z e.m with
  | none => rfl
  | some o => rfl
theorem cur_snoc {L : Lay} {l : Lb} {es : List Ent} {i : Nat} {e : Ent} (h : es[i]? = some e) : (curOf L l ((es.take (i + 1)).map Ent.zm)).map (·.1) = (curOf L l ((es.take i).map Ent.zm)).map (·.1) ++ if curL L l e.zm = true then [e.z] else [] := by
  unfold curOf
  rw [List.take_add_one, h, Option.toList, List.map_append, List.filter_append, List.map_append]
  congr 1
  by_cases c : curL L l e.zm = true
  · rw [if_pos c]
    show (List.filter _ [e.zm]).map _ = _
    rw [List.filter_cons_of_pos c]; rfl
  · rw [if_neg c]
    show (List.filter _ [e.zm]).map _ = _
    rw [List.filter_cons_of_neg c]; rfl
theorem g_neB {K : PySem.W.Frag} {H : Hp} {Q : VK} {i j : Bool} (q : Q (.bl (!decide (i = j))) H) : rNeU K (.bl i) (.bl j) H Q := q
theorem seats3_len (a b c : Int) : (seats3 a b c).length ≤ 3 := by
  unfold seats3
  split <;> split <;> split <;> simp
theorem g_seq3N {w t u v : TS} {D : Ends} {σ : St} {H : Hp} (P : St → Hp → Prop) (hw : ∀ σ H, P σ H → w D σ H) (q : ∀ N : St → Hp → Prop, (∀ σ H, P σ H → N σ H) → tSeq t (tSeq u v) { D with nx := N } σ H) : tSeq t (tSeq u (tSeq v w)) D σ H := q _ hw
theorem g_neIntsV {K : PySem.W.Frag} {H : Hp} {Q : VK} {p q : Addr} {l m : List Int} (hp : SqT K H p (l.map V.int)) (hq : SqT K H q (m.map V.int)) (k : Q (.bl (!decide (l = m))) H) : rNeU K (.ref p) (.ref q) H Q := by
  refine g_neDa (.tup hp (dpAll_ints l)) (.tup hq (dpAll_ints m)) (la_shaped (la_tup (n := 0) la_ints)) (la_shaped (la_tup (n := 0) la_ints)) (.inl ⟨_, rfl⟩) ?_
  rw [eqv_dec (b := decide (l = m)) (by rw [clean]; exact clean_ints l) (by rw [clean]; exact clean_ints m)]
  · exact k
  · rw [decide_eq_true_iff, PyData.tuple.injEq]; exact ⟨fun h => by rw [h], ints_inj⟩
/-- the mirror is made: what is told then -/
def MadeP (K : PySem.W.Frag) (CM CS CD : Addr) (L : Lay) (l : Lb) (os : List (Option Ent)) (p : Addr) (R1 H9 : Hp) (q fa : Addr) (H' : Hp) : Prop := ∃ (mo : Addr) (R' : Hp) (F : List Addr) (A : List (Int × Addr)) (z : Int) (m : Rows), (curOf L l (sidesOf os)).head? = some (z, m) ∧ MirOk K CM CS CD R' H' mo p (asmOf L l (sidesOf os) z m none) F A ∧ Same R' H' ∧ Same R1 R' ∧ Same H9 H' ∧ (∀ x ∈ F, H9 x = none) ∧ H' q = some (.lst [.str "", .ref mo]) ∧ SqT K H' fa ((asmFk l (curOf L l (sidesOf os)) z).map V.int)
theorem dpAll_pt {K : PySem.W.Frag} {H : Hp} : ∀ {vs : List V} {ds : List PyData}, vs.length = ds.length → (∀ (j : Nat) (v : V) (d : PyData), vs[j]? = some v → ds[j]? = some d → Dp K H v d) → DpAll K H vs ds
  | [], [], _, _ => .nil
  | [], _ :: _, h, _ => by simp at h
  | _ :: _, [], h, _ => by simp at h
  | v :: vs, d :: ds, h, g => .cons (g 0 v d rfl rfl) (dpAll_pt (by simpa using h) fun j w e h1 h2 => g (j + 1) w e (by simpa using h1) (by simpa using h2))
theorem clean_rowsE : ∀ es : List Ent, cleanAll (es.map fun e => PyData.list (e.m.sure.map cellD)) = true
  | [] => rfl
  | e :: r => by rw [List.map_cons, cleanAll, clean, clean_cells, clean_rowsE r]; rfl
section
variable {P : Program} {w : World} {K : PySem.W.Frag} {mg : Str → Option Value} {base : Heap}
theorem ok_law (T : Txt P K mg) : FnOk P w K mg base CX0 14 T.f_law T.fd_law ["script"] (spLaw K) := by
  have cl_Side := T.cl_Side
  have a_Side_seat := T.a_Side_seat
  have a_Side_device := T.a_Side_device
  have G__law_layout := ok__law_layout (P := P) (w := w) (base := base) T
  have G__law_number := ok__law_number (P := P) (w := w) (base := base) T
  have G__law_take := ok__law_take (P := P) (w := w) (base := base) T
  have G__law_labelled := ok__law_labelled (P := P) (w := w) (base := base) T
  have G__law_best := ok__law_best (P := P) (w := w) (base := base) T
  have G_label_to_follow := ok_label_to_follow (P := P) (w := w) (base := base) T
  have G__law_fault := ok__law_fault (P := P) (w := w) (base := base) T
  have G__law_current := ok__law_current (P := P) (w := w) (base := base) T
  have G_is_current := ok_is_current (P := P) (w := w) (base := base) T
  have G__law_made := ok__law_made (P := P) (w := w) (base := base) T
  have G_Device_sure_blocks := ok_Device_sure_blocks (P := P) (w := w) (base := base) T
  refine T.F_law.ok sc_law (fun vs H Q E h => ?_) (fun cdv A outer s H vs Q E hr h => ?_)
  · obtain ⟨a, ns, rfl, hS, hlen, hq⟩ := h
    rfl
  · obtain ⟨a, ns, rfl, hS, hlen, hq⟩ := h
    refine ⟨_, (pss_cons (ps_set (i := 1) sc_law.nd rfl (by first | exact Or.inl rfl | exact Or.inr rfl) (pe_call G__law_layout (hr.mono (by decide)) rfl T.g__law_layout T.F__law_layout.kp T.b__law_layout .nil pass0 (pa_cons (pe_lst (pa_cons (pe_call G__law_number (hr.mono (by decide)) rfl T.g__law_number T.F__law_number.kp T.b__law_number .nil pass0 (pa_cons (pv 0) (pa_cons pe_int pa_nil))) pa_nil)) pa_nil)))
      (pss_cons (ps_set (i := 2) sc_law.nd rfl (by first | exact Or.inl rfl | exact Or.inr rfl) (pe_lst pa_nil))
      (pss_cons (ps_set (i := 3) sc_law.nd rfl (by first | exact Or.inl rfl | exact Or.inr rfl) (pe_lst pa_nil))
      (pss_cons (ps_set (i := 4) sc_law.nd rfl (by first | exact Or.inl rfl | exact Or.inr rfl) (pe_ix (ixU (K := K)) (pe_lst (pa_cons pe_non (pa_cons (pe_tup (pa_cons pe_int (pa_cons pe_int pa_nil))) (pa_cons (pe_tup (pa_cons pe_int (pa_cons pe_int (pa_cons pe_int pa_nil)))) (pa_cons (pe_tup (pa_cons pe_int (pa_cons pe_int pa_nil))) pa_nil))))) (pe_call G__law_take (hr.mono (by decide)) rfl T.g__law_take T.F__law_take.kp T.b__law_take .nil pass0 (pa_cons (pe_lst (pa_cons (pe_call G__law_number (hr.mono (by decide)) rfl T.g__law_number T.F__law_number.kp T.b__law_number .nil pass0 (pa_cons (pv 0) (pa_cons pe_int pa_nil))) pa_nil)) (pa_cons pe_int pa_nil))) (fun _ _ => rfl)))
      (pss_cons (ps_for PassesOwn.never rfl (pi_range1 rfl T.n_range (pa_cons pe_int pa_nil)) (pg_name (i := 5) sc_law.nd rfl (by first | exact Or.inl rfl | exact Or.inr rfl)) (pss_cons (ps_set (i := 6) sc_law.nd rfl (by first | exact Or.inl rfl | exact Or.inr rfl) (pe_lst (pa_cons (pe_call G__law_number (hr.mono (by decide)) rfl T.g__law_number T.F__law_number.kp T.b__law_number .nil pass0 (pa_cons (pv 0) (pa_cons (pe_op (opAddU (K := K)) pe_int (pv 5)) pa_nil))) pa_nil)))
      (pss_cons (ps_set (i := 7) sc_law.nd rfl (by first | exact Or.inl rfl | exact Or.inr rfl) (pe_call G__law_labelled (hr.mono (by decide)) rfl T.g__law_labelled T.F__law_labelled.kp T.b__law_labelled .nil pass0 (pa_cons (pv 1) (pa_cons (pv 5) (pa_cons (pv 6) (pa_cons (pv 4) pa_nil))))))
      (pss_cons (ps_expr (pe_bm PySem.F.plainAttrs_list PySem.F.slot_list_append PySem.F.type_list_append mt_append (pv 2) (pa_cons (pe_ix (ixU (K := K)) (pe_lst (pa_cons (pe_ix (ixU (K := K)) (pv 7) pe_int (fun _ _ => rfl)) (pa_cons pe_non pa_nil))) (pe_callTy callIntU (by rfl) T.n_int (by decide +kernel) (pa_cons (pe_cmpR (opEqU (K := K) hr.units) (pe_call G__law_take (hr.mono (by decide)) rfl T.g__law_take T.F__law_take.kp T.b__law_take .nil pass0 (pa_cons (pv 6) (pa_cons pe_int pa_nil))) pe_int (nomark _)) pa_nil)) (fun _ _ => rfl)) pa_nil)))
      (pss_one (ps_if (pt_cmpR opNotU (pe_ix (ixU (K := K)) (pv 2) (pv 5) (fun _ _ => rfl)) pe_non (nomark _)) (pss_one (ps_expr (pe_bm PySem.F.plainAttrs_list PySem.F.slot_list_append PySem.F.type_list_append mt_append (pv 3) (pa_cons (pv 7) pa_nil)))) pss_nil))))))
      (pss_cons (ps_set (i := 8) sc_law.nd rfl (by first | exact Or.inl rfl | exact Or.inr rfl) (pe_call G__law_best (hr.mono (by decide)) rfl T.g__law_best T.F__law_best.kp T.b__law_best .nil pass0 (pa_cons (pe_lc (own := [("row", 7)]) (g := gName 7) (tt := tYes) rfl sc_law.nd (pi_listK (K := K) (pv 3)) (blkOk_by (N := N_law) (sc := defScope s_law) (by decide +kernel)) (fun _ _ _ _ _ => (pg_name (i := 7) sc_law.nd rfl (by first | exact Or.inl rfl | exact Or.inr rfl))) (fun _ _ _ _ _ => pts_nil) (fun _ _ _ _ _ => (pe_call G__law_best (hr.mono (by decide)) rfl T.g__law_best T.F__law_best.kp T.b__law_best .nil pass0 (pa_cons (pe_ix (ixU (K := K)) (pv 7) pe_int (fun _ _ => rfl)) pa_nil)))) pa_nil)))
      (pss_cons (ps_setLc (i := 9) (own := [("row", 7)]) (g := gName 7) (tt := tYes) rfl sc_law.nd rfl rfl (sw_true rfl rfl rfl (by decide +kernel)) (pi_listK (K := K) (pv 3)) (blkOk_by (N := N_law) (sc := defScope s_law) (by decide +kernel)) (fun _ _ _ _ _ => (pg_name (i := 7) sc_law.nd rfl (by first | exact Or.inl rfl | exact Or.inr rfl))) (fun _ _ _ _ _ => pts_nil) (fun _ _ _ _ _ => (pe_ix (ixU (K := K)) (pv 7) pe_int (fun _ _ => rfl))))
      (pss_cons (ps_if (PW.pt (pw_or (pt_cmpR (opNeU (K := K) hr.units) (pe_call G_label_to_follow (hr.mono (by decide)) rfl T.g_label_to_follow T.F_label_to_follow.kp T.b_label_to_follow .nil pass0 (pa_cons (pv 9) pa_nil)) (pv 8) (nomark _)) (pw_or1 (pt_cmpR (opNeRefs (K := K) (hu65 hr)) (pv 9) (pe_lc (own := [("row", 7)]) (g := gName 7) (tt := tYes) rfl sc_law.nd (pi_listK (K := K) (pv 3)) (blkOk_by (N := N_law) (sc := defScope s_law) (by decide +kernel)) (fun _ _ _ _ _ => (pg_name (i := 7) sc_law.nd rfl (by first | exact Or.inl rfl | exact Or.inr rfl))) (fun _ _ _ _ _ => pts_nil) (fun _ _ _ _ _ => (pe_ix (ixU (K := K)) (pv 7) pe_int (fun _ _ => rfl)))) (nomark _))))) (pss_one (ps_ret pe_bl)) pss_nil)
      (pss_cons (ps_if (pt_cmpR opIsU (pv 8) pe_non (nomark _)) (pss_one (ps_ret (pe_and (pe_cmpR (opEqU (K := K) hr.units) (pe_call G__law_fault (hr.mono (by decide)) rfl T.g__law_fault T.F__law_fault.kp T.b__law_fault .nil pass0 (pa_cons (pv 2) (pa_cons pe_bl pa_nil))) (pe_lst (pa_cons pe_str (pa_cons pe_non pa_nil))) (nomark _)) (pe_one (pe_cmpR (opEqU (K := K) hr.units) (pe_call G__law_fault (hr.mono (by decide)) rfl T.g__law_fault T.F__law_fault.kp T.b__law_fault .nil pass0 (pa_cons (pv 2) (pa_cons pe_bl pa_nil))) (pe_lst (pa_cons pe_str (pa_cons pe_non pa_nil))) (nomark _)))))) pss_nil)
      (pss_cons (ps_set (i := 10) sc_law.nd rfl (by first | exact Or.inl rfl | exact Or.inr rfl) (pe_lst pa_nil))
      (pss_cons (ps_for PassesOwn.never rfl (pi_listK (K := K) (pv 3)) (pg_name (i := 7) sc_law.nd rfl (by first | exact Or.inl rfl | exact Or.inr rfl)) (pss_cons (ps_set (i := 11) sc_law.nd rfl (by first | exact Or.inl rfl | exact Or.inr rfl) (pe_call G__law_current (hr.mono (by decide)) rfl T.g__law_current T.F__law_current.kp T.b__law_current .nil pass0 (pa_cons (pv 7) (pa_cons (pv 8) pa_nil))))
      (pss_cons (ps_if (pt_cmpR (opNeU (K := K) hr.units) (pe_call G_is_current (hr.mono (by decide)) rfl T.g_is_current T.F_is_current.kp T.b_is_current .nil pass0 (pa_cons (pe_ix (ixU (K := K)) (pv 7) pe_int (fun _ _ => rfl)) (pa_cons (pv 8) pa_nil))) (pv 11) (nomark _)) (pss_one (ps_ret pe_bl)) pss_nil)
      (pss_one (ps_if (pt_truthK (K := K) (pv 11) (by intro _; rfl)) (pss_one (ps_expr (pe_bm PySem.F.plainAttrs_list PySem.F.slot_list_append PySem.F.type_list_append mt_append (pv 10) (pa_cons (pe_fldK (K := K) (pe_ix (ixU (K := K)) (pv 7) pe_int (fun _ _ => rfl)) rfl) pa_nil)))) pss_nil)))))
      (pss_cons (ps_set (i := 12) sc_law.nd rfl (by first | exact Or.inl rfl | exact Or.inr rfl) (pe_callTy (callTupU (K := K)) (by rfl) T.n_tuple (by decide +kernel) (pa_cons (pe_lc (own := [("seat", 5)]) (g := gName 5) (tt := _) rfl sc_law.nd (pi_tupK (K := K) (pe_ix (ixU (K := K)) (pv 8) pe_int (fun _ _ => rfl))) (blkOk_by (N := N_law) (sc := defScope s_law) (by decide +kernel)) (fun _ _ _ _ _ => (pg_name (i := 5) sc_law.nd rfl (by first | exact Or.inl rfl | exact Or.inr rfl))) (fun _ _ _ _ _ => pts_one (pt_cmpR (opNinF (K := K)) (pv 5) (pv 10) (by rfl))) (fun _ _ _ _ _ => (pv 5))) pa_nil)))
      (pss_cons (ps_set (i := 13) sc_law.nd rfl (by first | exact Or.inl rfl | exact Or.inr rfl) (pe_call G__law_fault (hr.mono (by decide)) rfl T.g__law_fault T.F__law_fault.kp T.b__law_fault .nil pass0 (pa_cons (pv 2) (pa_cons pe_bl pa_nil))))
      (pss_cons (ps_set (i := 14) sc_law.nd rfl (by first | exact Or.inl rfl | exact Or.inr rfl) (pe_ix (ixU (K := K)) (pv 8) pe_int (fun _ _ => rfl)))
      (pss_cons (ps_if (pt_cmpR (opNeU (K := K) hr.units) (pv 12) (pe_tup pa_nil) (nomark _)) (pss_cons (ps_if (pt_cmpR (opNeU (K := K) hr.units) (pv 13) (pe_lst (pa_cons pe_str (pa_cons (pv 12) pa_nil))) (nomark _)) (pss_one (ps_ret pe_bl)) pss_nil)
      (pss_cons (ps_set (i := 13) sc_law.nd rfl (by first | exact Or.inl rfl | exact Or.inr rfl) (pe_call G__law_fault (hr.mono (by decide)) rfl T.g__law_fault T.F__law_fault.kp T.b__law_fault .nil pass0 (pa_cons (pv 2) (pa_cons pe_bl pa_nil))))
      (pss_one (ps_set (i := 14) sc_law.nd rfl (by first | exact Or.inl rfl | exact Or.inr rfl) (pe_op (opCatAK (K := K)) (pv 14) (pe_tup (pa_cons (pe_op (opAddU (K := K)) (pe_op opMultU pe_int (pe_ix (ixU (K := K)) (pv 8) pe_int (fun _ _ => rfl))) (pe_ix (ixU (K := K)) (pv 10) pe_int (fun _ _ => rfl))) pa_nil))))))) pss_nil)
      (pss_cons (ps_if (PW.pt (pw_or (pt_cmpR (opNeU (K := K) hr.units) (pe_ix (ixU (K := K)) (pv 13) pe_int (fun _ _ => rfl)) pe_str (nomark _)) (pw_or1 (pt_not (pt_truthK (K := K) (pe_call G__law_made (hr.mono (by decide)) rfl T.g__law_made T.F__law_made.kp T.b__law_made .nil pass0 (pa_cons (pv 1) (pa_cons (pe_ix (ixU (K := K)) (pv 13) pe_int (fun _ _ => rfl)) (pa_cons (pv 3) (pa_cons (pv 8) (pa_cons (pv 14) pa_nil)))))) (by intro _; rfl)))))) (pss_one (ps_ret pe_bl)) pss_nil)
      (pss_one (ps_ret (pe_cmpR (opEqU (K := K) hr.units) (pe_lc (own := [("row", 7)]) (g := gName 7) (tt := tYes) rfl sc_law.nd (pi_listK (K := K) (pv 3)) (blkOk_by (N := N_law) (sc := defScope s_law) (by decide +kernel)) (fun _ _ _ _ _ => (pg_name (i := 7) sc_law.nd rfl (by first | exact Or.inl rfl | exact Or.inr rfl))) (fun _ _ _ _ _ => pts_nil) (fun _ _ _ _ _ => (pe_meth0 (pe_fldK (K := K) (pe_ix (ixU (K := K)) (pv 7) pe_int (fun _ _ => rfl)) rfl) T.cl_Device T.m_Device_sure_blocks G_Device_sure_blocks (hr.mono (by decide)) T.b_Device_sure_blocks .nil pass0))) (pe_lc (own := [("row", 7)]) (g := gName 7) (tt := tYes) rfl sc_law.nd (pi_listK (K := K) (pv 3)) (blkOk_by (N := N_law) (sc := defScope s_law) (by decide +kernel)) (fun _ _ _ _ _ => (pg_name (i := 7) sc_law.nd rfl (by first | exact Or.inl rfl | exact Or.inr rfl))) (fun _ _ _ _ _ => pts_nil) (fun _ _ _ _ _ => (pe_ix (ixU (K := K)) (pv 7) pe_int (fun _ _ => rfl)))) (nomark _)))))))))))))))))))), ?_⟩
    try dsimp only [cxOf]
    have r0 := Same.refl H
    fail "go"
    refine ⟨_, _, _, rfl, hS, by omega, ?_⟩
    fail "go"
    refine ⟨by fail "sz", ?_⟩
    fail "newM"
    rename_i b H1 n1 g1 m1 h1 s1
    fail "go"
    refine ⟨H, b, _, rfl, s1, m1, h1, fun p H2 L s2 np hb2 ha hL => ?_⟩
    obtain ⟨m, hb2⟩ := hb2
    obtain ⟨lx, haf⟩ := ha
    have hOk := lays_ok L hL
    have hdev := lays_dev L hL
    have pb : p ≠ b := by rintro rfl; rw [haf] at hb2; cases hb2
    have sHW : Same H (wo H2 b) := same_wo s2 m1
    have haf2 : wo H2 b p = some (.ins T.C_Layout lx L.flds) := by unfold wo; rw [if_neg pb]; exact haf
    have hS2 := sqL_mono sHW hS
    have sW : Same (wo H2 b) H2 := wo_same
    generalize wo H2 b = R2 at sHW haf2 hS2 sW
    clear haf sHW s2 s1 g1 h1 n1 r0 hS hb2 pb m1
    fail "go"
    refine ⟨by fail "sz", ?_⟩
    fail "newM"
    rename_i S H3 n3 g3 RS hSl s3
    clear g3 sW
    fail "go"
    refine ⟨by fail "sz", ?_⟩
    fail "newM"
    rename_i rl H4 n4 g4 Rr hrl s4
    have hS4 := g4.g.same _ _ hSl
    have Sr : S ≠ rl := ne_of_none hSl n4
    clear g4 n3 s3 hSl n4
    fail "go"
    refine ⟨by fail "sz", ?_⟩
    fail "newR"
    rename_i p1 H5 R5 n5 g5 h1 s5
    have k0 : KSt K T.C_Side T.C_Device L R2 H4 p S rl [] [] := ⟨s4, hS4, hrl, RS, Rr, rfl, fun i r e h => by simp at h, fun e h => absurd h List.not_mem_nil, .nil, fun e h => absurd h List.not_mem_nil, fun e h => absurd h List.not_mem_nil⟩
    have k5 := k0.frame g5
    have r5 := g5.rr
    clear k0 g5 n5 s4 hS4 hrl RS Rr
    fail "go"
    refine ⟨by fail "sz", ?_⟩
    fail "newR"
    rename_i p2 H6 R6 n6 g6 h2 s6
    have k6 := k5.frame g6
    replace h1 := g6.rr _ _ h1
    have r6 := r5.trans g6.rr
    clear k5 g6 n6 s5 r5
    fail "go"
    refine ⟨by fail "sz", ?_⟩
    fail "newR"
    rename_i p3 H7 R7 n7 g7 h3 s7
    have k7 := k6.frame g7
    replace h1 := g7.rr _ _ h1
    replace h2 := g7.rr _ _ h2
    have r7 := r6.trans g7.rr
    clear k6 g7 n7 s6 r6
    have hS7 := sqL_mono (r7.trans s7) hS2
    fail "go"
    refine ⟨by fail "sz", ?_⟩
    fail "newM"
    rename_i p4 H8 n8 g8 m8 h4 s8
    have k8 := k7.frame g8.g
    have hS8 := sqL_mono (r7.trans s8) hS2
    clear g8 n8 s7 k7 hS7
    fail "go"
    refine ⟨_, _, _, rfl, hS8, by omega, ?_⟩
    fail "go"
    refine ⟨by fail "sz", ?_⟩
    fail "newM"
    rename_i b9 H9 n9 g9 m9 h9 s9
    have k9 := k8.frame g9.g
    have h49 := g9.g.same _ _ h4
    have hS9 := sqL_mono (r7.trans s9) hS2
    have b94 : p4 ≠ b9 := ne_of_none h4 n9
    have hf9 : H8 b9 = none := n9
    have g09 : Mu [] R7 H8 H9 := g9
    clear g9 n9 hS8 h4
    fail "go"
    rename_i HA gA hA sA
    have kA : KSt K T.C_Side T.C_Device L R7 HA p S rl [] [] := k8.frame ((g09.g.nil.trans gA.g).forget (by intro y hy _; rw [List.mem_singleton.mp hy]; exact hf9))
    have h4A := gA.g.hh _ _ (nin1 b94) h49
    have xr := mod_rng (lawNumber ns 9) (show (0 : Int) < 4 by decide)
    generalize lawNumber ns 9 % 4 = xi at xr ⊢
    have pick : ∃ cv : V, atI [V.non, .ref p1, .ref p2, .ref p3] xi = some cv ∧ comV K R7 cv := by
      obtain ⟨xi, rfl⟩ := Int.eq_ofNat_of_zero_le xr.1
      have : xi < 4 := by omega
      match xi, this with
      | 0, _ => exact ⟨.non, rfl, .inl rfl⟩
      | 1, _ => exact ⟨.ref p1, rfl, .inr ⟨p1, [0, 1], rfl, SqT.of h1, by decide, by decide⟩⟩
      | 2, _ => exact ⟨.ref p2, rfl, .inr ⟨p2, [0, 1, 2], rfl, SqT.of h2, by decide, by decide⟩⟩
      | 3, _ => exact ⟨.ref p3, rfl, .inr ⟨p3, [1, 2], rfl, SqT.of h3, by decide, by decide⟩⟩
    obtain ⟨cv, hcv, hcm⟩ := pick
    have a7 : LayAt T.C_Layout R7 p L := ⟨lx, r7 _ _ haf2⟩
    have hS7 := sqL_mono r7 hS2
    refine g_ixL (SqL.of h4A) hcv ?_
    clear g09 gA hA sA k9 h49 hS9 h4A k8 hS2 haf2 r7 h1 h2 h3 hcv hf9 b94 s9
    fail "go"
    refine g_R1W (n := 3) rfl (by decide) ?_
    refine for_range (lo := 0) (n := 3) (fun i σ H' => ∃ (R' : Hp) (os : List (Option Ent)) (rs : List Addr) (x5 x6 x7 : Option V), σ = [some (.ref a), some (.ref p), some (.ref S), some (.ref rl), some cv, x5, x6, x7, none, none, none, none, none, none, none] ∧ Same R7 R' ∧ KSt K T.C_Side T.C_Device L R' H' p S rl os rs ∧ os.length = i) ⟨R7, [], [], none, none, none, rfl, Same.refl R7, kA, rfl⟩ ?_ ?_
    · clear kA
      rintro i σ H1 hi ⟨R1, os, rs, x5, x6, x7, rfl, r71, ks, osl⟩
      rw [Int.zero_add]
      have s1 := ks.sR
      have hS1 := sqL_mono (r71.trans s1) hS7
      have rsl : rs.length ≤ 3 := by have := List.length_filterMap_le id os; rw [ks.len]; omega
      fail "go"
      refine ⟨a, ns, _, rfl, hS1, by omega, ?_⟩
      fail "go"
      refine ⟨by fail "sz", ?_⟩
      fail "newM"
      rename_i bx H2 n2 g2 m2 h2 s2
      have k2 := ks.frame g2.g
      have hf : H1 bx = none := n2
      have g12 : Mu [] R1 H1 H2 := g2
      clear g2 n2 hS1
      fail "go"
      refine ⟨R1, p, bx, cv, L, (i : Int), _, rfl, s2, a7.mono r71, hOk, ⟨by omega, by omega⟩, by omega, by omega, hcm.imp id (fun ⟨t, C, e, h, w⟩ => ⟨t, C, e, sqT_mono r71 h, w⟩), m2, h2, fun R3 H3 r s c lp ms us cs uls ls g3 hb3 hr hc du hl dl so fr clen cw en sml => ?_⟩
      obtain ⟨n3, hb3⟩ := hb3
      have g13 : Mu' [bx] R1 H1 R3 H3 := ⟨g12.g.nil.trans g3⟩
      have k3 := ks.frame (g13.g.forget (by intro y hy _; rw [List.mem_singleton.mp hy]; exact hf))
      have r13 := g3.rr
      have Rbx := g3.fr _ _ h2 m2
      have fr1 : ∀ y ∈ ms, H1 y = none := fun y hy => g12.g.free (fr y hy)
      have s3 := k3.sR
      have bms : bx ∉ ms := fun h => by have := fr _ h; rw [h2] at this; cases this
      have hS3 := k3.hS
      have bS : bx ≠ S := fun e => by rw [e, ks.hS] at hf; cases hf
      have brl : bx ≠ rl := fun e => by rw [e, ks.hr] at hf; cases hf
      have rowE : RowE K L R3 r ⟨(i : Int), s, mz cs, ms⟩ := ⟨c, lp, us, uls, cs, ls, hr, hc, du, hl, dl, rfl, clen, cw, en, sml⟩
      clear k2 s2 h2 g3 hc du hl dl
      fail "go"
      refine ⟨by fail "sz", ?_⟩
      fail "newM"
      rename_i t4 H4 n4 g4 m4 h4 s4
      have hb4 := g4.g.same _ _ hb3
      have b4 : t4 ≠ bx := (ne_of_none hb3 n4).symm
      have hf4 : H3 t4 = none := n4
      have g34 : Mu [] R3 H3 H4 := g4
      have hS4 := g4.g.same _ _ hS3
      have t4S : t4 ≠ S := (ne_of_none hS3 n4).symm
      clear g4 n4 hb3 hS3
      fail "go"
      rename_i H5 g5 hb5 s5
      have h45 := g5.g.hh _ _ (nin1 b4) h4
      have hS5 := g5.g.hh _ _ (nin1 bS.symm) hS4
      have k5 : KSt K T.C_Side T.C_Device L R3 H5 p S rl os rs := ks.frame ((g13.g.trans (g34.g.nil.trans g5.g)).forget (M := []) (by intro y hy _; rw [List.mem_singleton.mp hy]; exact hf))
      have so5 : SideOkD false K T.C_Side T.C_Device R3 H5 s p (i : Int) (mz cs) ms := so.frame (g34.g.nil.trans g5.g) fun y hy hn => bms (by rw [← List.mem_singleton.mp hn]; exact hy)
      have hr5 := s5 _ _ hr
      have RS5 := k5.RS
      have Rr5 := k5.Rr
      clear g34 g5 hb5 hS4 h4 s4 hb4 so
      by_cases c0 : n3 % 4 = 0
      · rw [if_pos (decide_eq_true c0)]
        refine g_ixL (SqL.of h45) (show atI [V.ref s, V.non] 1 = some .non from rfl) ?_
        fail "go"
        rename_i H6 g6 hS6 s6
        have k6 := k5.no g6.g hS6 Sr
        have ix : atI (os.map sideV ++ [V.non]) (i : Int) = some .non := atI_nat (by rw [List.getElem?_append_right (by rw [List.length_map]; omega), List.length_map, osl, Nat.sub_self]; rfl)
        clear g6 hS5
        refine g_ixL (SqL.of hS6) ix ?_
        fail "go"
        exact ⟨R3, _, rs, _, _, _, rfl, r71.trans r13, k6, by rw [List.length_append, osl]; rfl⟩
      · rw [if_neg (by simpa using c0)]
        refine g_ixL (SqL.of h45) (show atI [V.ref s, V.non] 0 = some (.ref s) from rfl) ?_
        fail "go"
        rename_i H6 g6 hS6 s6
        have ix : atI (os.map sideV ++ [V.ref s]) (i : Int) = some (.ref s) := atI_nat (by rw [List.getElem?_append_right (by rw [List.length_map]; omega), List.length_map, osl, Nat.sub_self]; rfl)
        have hr6 := g6.g.hh _ _ (nin1 Sr.symm) k5.hr
        have gS : Mu' [S] R3 H5 R3 H6 := ⟨g6.g⟩
        clear g6 hS5
        refine g_ixL (SqL.of hS6) ix ?_
        fail "go"
        rename_i H7 g7 hr7 s7
        have k7 := k5.yes (f := ⟨(i : Int), s, mz cs, ms⟩) ((gS.g.mono (by simp)).trans (g7.g.mono (by simp))) (g7.g.hh _ _ (nin1 Sr) hS6) hr7 rowE so5 (by show (i : Int) = _; rw [osl]) ⟨fun h => (by have := fr1 _ h; rw [ks.hS] at this; cases this), fun h => (by have := fr1 _ h; rw [ks.hr] at this; cases this)⟩
        exact ⟨R3, _, _, _, _, _, rfl, r71.trans r13, k7, by rw [List.length_append, osl]; rfl⟩
    · rintro σ H1 ⟨R1, os, rs, x5, x6, x7, rfl, r71, ks, osl⟩
      have el : (os.filterMap id).length ≤ 3 := by have := List.length_filterMap_le id os; omega
      obtain ⟨es, hes⟩ : ∃ es, es = os.filterMap id := ⟨_, rfl⟩
      have rel := ks.len
      have row0 := ks.row
      rw [← hes] at el rel row0
      have s1 := ks.sR
      have hr1 := ks.hr
      have a1 := a7.mono r71
      have rat : ∀ (i : Nat) (r : Addr), rs[i]? = some r → ∃ e, es[i]? = some e ∧ RowE K L R1 r e := fun i r h => by
        have il := (List.getElem?_eq_some_iff.mp h).1
        have he : es[i]? = some (es[i]'(by omega)) := List.getElem?_eq_getElem _
        exact ⟨_, he, row0 i r _ h he⟩
      clear kA
      fail "go"
      refine g_LsW (SqL.of hr1) fun D nD => ?_
      refine lc_list (K := K) (a := rl) (xs := rs.map V.ref) (FoInv K H1 D (es.map fun e => labOf L e.z e.m)) ⟨[], (Gr.newM (M := []) s1 nD).same, upd_same, .nil⟩ (fun j H' _ ⟨us, s, _⟩ => SqL.of (s _ _ hr1)) ?_ ?_
      · rintro i v H2 hv ⟨us, s2, hD2, du⟩
        rw [List.getElem?_map] at hv
        obtain ⟨r, hr, rfl⟩ := Option.map_eq_some_iff.mp hv
        obtain ⟨e, he, row⟩ := rat i r hr
        obtain ⟨c, lp, vs, uls, cs, ls, k1, k2, k3, k4, k5, k6, k7, k8, k9, k10⟩ := row
        have s12 := s1.trans s2
        have k1' := s12 _ _ k1
        have k4' := s12 _ _ k4
        refine ⟨rfl, ?_⟩
        clear s1
        fail "go"
        refine ⟨lp, uls, ls, rfl, SqL.of k4', dpAll_mono s12 k5, fun w dw => ?_⟩
        rw [k9] at dw
        have gD : Gr [D] (wo H2 D) H2 (wo H2 D) (upd H2 D (.lst (us ++ [w]))) := Gr.mut wo_same wo_self hD2
        have ul := dpAll_len du
        refine ⟨_, hD2, by rw [ul, List.length_map, List.length_take, List.length_map]; exact Nat.lt_of_le_of_lt (show _ ≤ 1000 by omega) (by decide), us ++ [w], fun b o e => ?_, upd_same, ?_⟩
        · rw [upd_ne (ne_of_none e nD)]; exact s2 _ _ e
        · rw [List.take_add_one, List.getElem?_map, he, List.map_append]
          exact dpAll_app (dpAll_wo1 hD2 (only_lbs _) gD du) (.cons (dp_wo1 hD2 (only_lb _) gD dw) .nil)
      · rintro H2 ⟨us, s2, hD2, du⟩
        have du : DpAll K H2 us ((es.map fun e => labOf L e.z e.m).map lbD) := by
          rw [List.length_map, rel, show es.length = (es.map fun e => labOf L e.z e.m).length by simp, List.take_length] at du
          exact du
        have k2 := ks.frame (Mu.ofSame (M := []) s1 s2).g
        have sd1 := ks.side
        rw [← hes] at sd1
        have hr2 := s2 _ _ hr1
        have s12 := s1.trans s2
        clear s1 hr1
        fail "go"
        refine ⟨D, us, _, rfl, SqL.of hD2, du, fun lv dl => ?_⟩
        have ef : newestOf (es.map fun e => labOf L e.z e.m) = folLb L (es.map Ent.zm) := by unfold folLb; rw [List.map_map]; rfl
        rw [ef] at dl
        fail "go"
        refine g_LsW (SqL.of hr2) fun D3 nD3 => ?_
        refine lc_list (K := K) (a := rl) (xs := rs.map V.ref) (fun i H' => Same H2 H' ∧ H' D3 = some (.lst ((es.take i).map fun e => V.ref e.s))) ⟨(Gr.newM (M := []) s12 nD3).same, upd_same⟩ (fun j H' _ ⟨s, _⟩ => SqL.of (s _ _ hr2)) ?_ ?_
        · rintro i v H3 hv ⟨s3, hD3⟩
          rw [List.getElem?_map] at hv
          obtain ⟨r, hr, rfl⟩ := Option.map_eq_some_iff.mp hv
          obtain ⟨e, he, row⟩ := rat i r hr
          obtain ⟨c, lp, vs, uls, cs, ls, k1, k2, k3, k4, k5, k6, k7, k8, k9, k10⟩ := row
          have k1' := s3 _ _ (s12 _ _ k1)
          refine ⟨rfl, ?_⟩
          fail "go"
          refine ⟨_, hD3, by rw [List.length_map, List.length_take]; exact Nat.lt_of_le_of_lt (show _ ≤ 1000 by omega) (by decide), fun b o e => ?_, by rw [upd_same, List.take_add_one, he, List.map_append]; rfl⟩
          rw [upd_ne (ne_of_none e nD3)]; exact s3 _ _ e
        · rintro H3 ⟨s3, hD3⟩
          rw [List.length_map, rel, List.take_length] at hD3
          have s13 := s12.trans s3
          have g3 : Mu [] R1 H1 H3 := Mu.ofSame ks.sR (s2.trans s3)
          have k3 := ks.frame g3.g
          have dl3 := dp_mono s3 dl
          have labs : ∀ e ∈ es, LabOk L e.m := fun e he => by
            obtain ⟨i, hi⟩ := List.mem_iff_getElem?.mp he
            have il := (List.getElem?_eq_some_iff.mp hi).1
            have hr : rs[i]? = some (rs[i]'(by omega)) := List.getElem?_eq_getElem _
            obtain ⟨c, lp, vs, uls, cs, ls, k1, k2, k3, k4, k5, k6, k7, k8, k9, k10⟩ := row0 i _ _ hr hi
            rw [k6]
            exact labOk_of hOk ⟨by omega, by omega⟩ (mz_W k7 k8)
          have sd3 : ∀ e ∈ es, SideOkD false K T.C_Side T.C_Device R1 H3 e.s p e.z e.m e.ms ∧ LabOk L e.m := fun e he => ⟨(sd1 e he).frame g3.g fun _ _ => List.not_mem_nil, labs e he⟩
          have hr3 := s3 _ _ hr2
          have s23 := s2.trans s3
          clear g3 s12 s2 s3 hr2 hD2 du dl
          fail "go"
          refine ⟨R1, D3, p, L, es, rfl, s13, a1, hOk, hD3, el, sd3, fun v H4 s4 dv => ?_⟩
          have dl4 := dp_mono s4 dl3
          have hD4 := s4 _ _ hD3
          have hr4 := s4 _ _ hr3
          have s14 := s13.trans s4
          clear dl3 hD3 hr3 s13
          fail "go"
          refine g_neLb dv dl4 ?_
          rw [decide_eq_true rfl]
          refine ⟨_, rfl, ?_⟩
          rw [if_neg (by simp)]
          have k4 := k3.frame (Mu.ofSame (M := []) k3.sR s4).g
          fail "go"
          refine g_LsW (SqL.of hr4) fun D5 nD5 => ?_
          refine lc_list (K := K) (a := rl) (xs := rs.map V.ref) (fun i H' => Same H4 H' ∧ H' D5 = some (.lst ((es.take i).map fun e => V.ref e.s))) ⟨(Gr.newM (M := []) s14 nD5).same, upd_same⟩ (fun j H' _ ⟨s, _⟩ => SqL.of (s _ _ hr4)) ?_ ?_
          · rintro i v H5 hv ⟨s5, hD5⟩
            rw [List.getElem?_map] at hv
            obtain ⟨r, hr, rfl⟩ := Option.map_eq_some_iff.mp hv
            obtain ⟨e, he, row⟩ := rat i r hr
            obtain ⟨c, lp, vs, uls, cs, ls, k1, k2, k3, k4, k5, k6, k7, k8, k9, k10⟩ := row
            have k1' := s5 _ _ (s14 _ _ k1)
            refine ⟨rfl, ?_⟩
            fail "go"
            refine ⟨_, hD5, by rw [List.length_map, List.length_take]; exact Nat.lt_of_le_of_lt (show _ ≤ 1000 by omega) (by decide), fun b o e => ?_, by rw [upd_same, List.take_add_one, he, List.map_append]; rfl⟩
            rw [upd_ne (ne_of_none e nD5)]; exact s5 _ _ e
          · rintro H5 ⟨s5, hD5⟩
            rw [List.length_map, rel, List.take_length] at hD5
            have k5 := k4.frame (Mu.ofSame (M := []) s14 s5).g
            have dl5 := dp_mono s5 dl4
            have hD45 := s5 _ _ hD4
            have es_ref : es.map (fun e => V.ref e.s) = (es.map (·.s)).map V.ref := by rw [List.map_map]; rfl
            rw [es_ref] at hD5 hD45
            refine ⟨_, _, es.map (·.s), rfl, rfl, SqL.of hD45, SqL.of hD5, ?_⟩
            have sd5 : ∀ e ∈ es, SideOkD false K T.C_Side T.C_Device R1 H5 e.s p e.z e.m e.ms ∧ LabOk L e.m := fun e he => by
              have h1 := k5.side e (by rw [← hes]; exact he)
              exact ⟨h1, labs e he⟩
            have s5' := k5.sR
            clear k3 k4 dl4 hD4 hr4 s14 hD5 hD45 s4 sd3 dv s5
            fail "go"
            obtain ⟨RF, fp⟩ := k5.pre a1 hOk (by omega)
            cases hfo : folLb L (es.map Ent.zm) with
            | none =>
              rw [hfo] at dl5
              obtain rfl := dp_non dl5
              have hS5 := k5.hS
              clear s5' sd5 dl5 k2
              fail "go"
              refine ⟨RF, S, p, L, os, false, rfl, fp.sR, fp.la, hOk, ⟨by omega, by omega⟩, fp.tup, hS5, by omega, fp.es, fp.nd, fun _ H6 q6 s6 h6 => ?_, fun l hl => by rw [fp.zm, ← hes, hfo] at hl; cases hl⟩
              have k6 : KSt K T.C_Side T.C_Device L R1 H6 p S rl os rs := k5.frame (Mu.ofSame (M := []) k5.sR s6).g
              have sR6 := k6.sR
              clear hS5 fp
              fail "go"
              refine ⟨by fail "sz", ?_⟩
              fail "newM"
              rename_i q7 H7 n7 g7 m7 h7 s7
              have k7 := k6.frame g7.g
              have h67 := g7.g.same _ _ h6
              obtain ⟨RG, fg⟩ := k7.pre a1 hOk (by omega)
              have hS7' := k7.hS
              have dA : Dp K H7 (.ref q6) (.list [.str "no mirror", .none]) := .lst (SqL.of h67) (.cons (.str _) (.cons .non .nil))
              have dB : Dp K H7 (.ref q7) (.list [.str "no mirror", .none]) := .lst (SqL.of h7) (.cons (.str _) (.cons .non .nil))
              have laS : LaD (.list [.str "no mirror", .none]) 1 := la_lst (la_cons ⟨by rw [PyData.canLay0]; decide +kernel, by simp [PyData.depth]⟩ (la_cons la_non la_non'))
              clear k6 g7 h6 h67 h7 k5 s7 sR6
              refine g_eqDa dA dB (la_shaped laS) (la_shaped laS) (.inl ⟨_, rfl⟩) ?_
              rw [eqv_same (by rfl)]
              fail "go"
              refine ⟨RG, S, p, L, os, true, rfl, fg.sR, fg.la, hOk, ⟨by omega, by omega⟩, fg.tup, hS7', by omega, fg.es, fg.nd, fun _ H8 q8 s8 h8 => ?_, fun l hl => by rw [fg.zm, ← hes, hfo] at hl; cases hl⟩
              have sR8 := k7.sR.trans s8
              clear hS7' fg
              fail "go"
              refine ⟨by fail "sz", ?_⟩
              fail "newM"
              rename_i q9 H9 n9 g9 m9 h9 s9
              have h89 := g9.g.same _ _ h8
              have dA : Dp K H9 (.ref q8) (.list [.str "no mirror", .none]) := .lst (SqL.of h89) (.cons (.str _) (.cons .non .nil))
              have dB : Dp K H9 (.ref q9) (.list [.str "no mirror", .none]) := .lst (SqL.of h9) (.cons (.str _) (.cons .non .nil))
              refine g_eqDa dA dB (la_shaped laS) (la_shaped laS) (.inl ⟨_, rfl⟩) ?_
              rw [eqv_same (by rfl)]
              exact hq _
            | some l =>
              rw [hfo] at dl5
              have ezm : sidesOf os = es.map Ent.zm := by rw [fp.zm, hes]
              have zok := fp.zok
              have zsW : ∀ q ∈ sidesOf os, RsW L 100 q.2 ∧ 0 ≤ q.1 ∧ q.1 < 3 := fun q hq => by
                rw [fp.zm] at hq
                obtain ⟨e, he, rfl⟩ := List.mem_map.mp hq
                exact (fp.es e he).2
              have znd := fp.nd
              have zl3 : (sidesOf os).length ≤ 3 := by rw [ezm, List.length_map]; exact el
              have lsm : smallLb l ∧ l.mem.length ≤ 3 := by
                obtain ⟨q, hq, e⟩ := fol_mem hfo
                obtain ⟨k, hk, rfl⟩ := List.mem_map.mp hq
                obtain ⟨i, hi⟩ := List.mem_iff_getElem?.mp hk
                have il := (List.getElem?_eq_some_iff.mp hi).1
                have hr : rs[i]? = some (rs[i]'(by omega)) := List.getElem?_eq_getElem _
                obtain ⟨c, lp, vs, uls, cs, ls, k1, k2, k3, k4, k5, k6, k7, k8, k9, k10⟩ := row0 i _ _ hr hi
                refine ⟨k10 l e, ?_⟩
                rw [← (labsOf_ok (labOf_labs e)).1]
                exact seats3_len _ _ _
              clear fp
              obtain ⟨t, tm, tb, tf, rfl, ht5, hm5, hb5, hf5⟩ := dpLb dl5
              clear k2
              fail "go"
              refine ⟨by fail "sz", ?_⟩
              fail "newM"
              rename_i T6 H6 n6 g6 m6 h6 s6
              have g56 : Mu' [] R1 H5 R1 H6 := ⟨g6.g⟩
              have k6 := k5.frame g6.g
              have HT : H5 T6 = none := n6
              have s56 : Same H5 H6 := g6.g.same
              have hr6 := k6.hr
              clear g6 n6 s5'
              fail "go"
              refine g_LsW (SqL.of hr6) ?_
              refine for_list (K := K) (a := rl) (xs := rs.map V.ref) (fun i σ H' => ∃ x7 x11 : Option V, σ = [some (.ref a), some (.ref p), some (.ref S), some (.ref rl), some cv, x5, x6, x7, some (.ref t), some (.ref D3), some (.ref T6), x11, none, none, none] ∧ Mu' [T6] R1 H6 R1 H' ∧ H' T6 = some (.lst (((curOf L l ((es.take i).map Ent.zm)).map (·.1)).map V.int))) ⟨_, _, rfl, ⟨Gr.refl s6⟩, h6⟩ (fun j σ H' _ ⟨_, _, _, g, _⟩ => SqL.of (g.g.hh _ _ (nin1 (ne_of_none k5.hr HT)) hr6)) ?_ ?_
              · rintro i v σ H7 hv ⟨x7, x11, rfl, g7, hT7⟩
                rw [List.getElem?_map] at hv
                obtain ⟨r, hr, rfl⟩ := Option.map_eq_some_iff.mp hv
                obtain ⟨e, he, row⟩ := rat i r hr
                obtain ⟨c, lp, vs, uls, cs, ls, k1, k2, k3, k4, k5', k6', k7, k8, k9, k10⟩ := row
                have g57 : Mu' [T6] R1 H5 R1 H7 := ⟨g56.g.nil.trans g7.g⟩
                have k7' : KSt K T.C_Side T.C_Device L R1 H7 p S rl os rs := k5.frame (g57.g.forget (M := []) (by intro y hy _; rw [List.mem_singleton.mp hy]; exact HT))
                have s57 : Same H5 H7 := (g57.g.forget (M := []) (by intro y hy _; rw [List.mem_singleton.mp hy]; exact HT)).same
                have hem := List.mem_of_getElem? he
                have so := k7'.side e (by rw [← hes]; exact hem)
                have dl7 : Dp K H7 (.ref t) l.d := dp_mono s57 dl5
                have s7 := k7'.sR
                have hr7 := s7 _ _ k1
                have R1T : R1 T6 = none := m6
                obtain ⟨d, ds, ems, ⟨⟨sx, hs⟩, nin, non, dev⟩⟩ := id so
                clear ht5 hm5 hb5 hf5 s6
                fail "go"
                refine ⟨R1, r, e.s, c, lp, t, d, p, e.z, ls, l, rfl, s7, ⟨uls, k1, k4, k5'⟩, ⟨_, hs⟩, dl7, ?_⟩
                rw [k9, ← curL_B]
                fail "go"
                refine ⟨R1, .ref t, p, L, e, l, rfl, s7, a1, hOk, so, labs e hem, dl7, fun H8 s8 => ?_⟩
                have hT8 := s8 _ _ hT7
                have hr8 := s8 _ _ hr7
                have hs8 := s8 _ _ hs
                have s78 := s7.trans s8
                have g8 : Mu' [T6] R1 H6 R1 H8 := ⟨g7.g.trans (Mu.ofSame (M := []) s7 s8).g.nil⟩
                clear s7 hr7 hs hT7 dl7
                fail "go"
                refine g_neB ?_
                rw [decide_eq_true rfl]
                refine ⟨_, rfl, ?_⟩
                rw [if_neg (by simp)]
                fail "go"
                refine ⟨_, rfl, ?_⟩
                have cl3 : ((curOf L l ((es.take i).map Ent.zm)).map (·.1)).length ≤ 3 := by
                  rw [List.length_map]
                  refine Nat.le_trans (List.length_filter_le _ _) ?_
                  rw [List.length_map, List.length_take]; omega
                have cl3' : (curOf L l (List.take i (List.map Ent.zm es))).length ≤ 3 := by
                  refine Nat.le_trans (List.length_filter_le _ _) ?_
                  rw [List.length_take, List.length_map]; omega
                have sn := cur_snoc (L := L) (l := l) he
                by_cases cc : curL L l e.zm = true
                · rw [if_pos cc]
                  rw [if_pos cc] at sn
                  fail "go"
                  refine ⟨_, _, rfl, ?_⟩
                  rw [sn, List.map_append]
                  rename_i H9 g9 hT9 s9
                  exact ⟨⟨g8.g.trans g9.g⟩, hT9⟩
                · rw [if_neg cc]
                  rw [if_neg cc, List.append_nil] at sn
                  fail "go"
                  refine ⟨_, _, rfl, g8, ?_⟩
                  rw [sn]; exact hT8
              · rintro σ H7 ⟨x7, x11, rfl, g7, hT7⟩
                rw [List.length_map, rel, List.take_length] at hT7
                have g57 : Mu' [T6] R1 H5 R1 H7 := ⟨g56.g.nil.trans g7.g⟩
                have s57 : Same H5 H7 := (g57.g.forget (M := []) (by intro y hy _; rw [List.mem_singleton.mp hy]; exact HT)).same
                have k7 : KSt K T.C_Side T.C_Device L R1 H7 p S rl os rs := k5.frame (Mu.ofSame (M := []) k5.sR s57).g
                have ht7 := sqT_mono s57 ht5
                have hm7 := sqT_mono s57 hm5
                have hf7 := sqT_mono s57 hf5
                have s7 := k7.sR
                have dl7 : Dp K H7 (.ref t) l.d := dp_mono s57 dl5
                clear ht5 hm5 hf5 hb5 g7 g57 g56 s6 h6 k6 dl5 s57 sd5 hr6
                fail "go"
                refine g_TsW hm7 fun D8 nD8 => ?_
                have RD8 : R1 D8 = none := s7.free nD8
                have mD : ∀ y, y ∈ [D8] → H7 y = none := fun y hy => by rw [List.mem_singleton.mp hy]; exact nD8
                refine lc_tup (K := K) (a := tm) (xs := l.mem.map V.int) (fun i H' => Same H7 H' ∧ H' D8 = some (.lst (((l.mem.take i).filter fun z => decide (z ∉ (curOf L l (es.map Ent.zm)).map (·.1))).map V.int))) ⟨(Gr.newM (M := []) s7 nD8).same, upd_same⟩ (fun j H' _ ⟨s, _⟩ => sqT_mono s hm7) ?_ ?_
                · rintro i v H8 hv ⟨s8, hD8⟩
                  obtain ⟨z, hz, rfl⟩ := map_get hv
                  have hT8 := s8 _ _ hT7
                  refine ⟨rfl, ?_⟩
                  fail "go"
                  refine g_ninF (.inl (SqL.of hT8)) rfl (flat_ints _) ?_
                  rw [inV_ints]
                  refine ⟨_, rfl, ?_⟩
                  have tk : (l.mem.take (i + 1)).filter (fun z => decide (z ∉ (curOf L l (es.map Ent.zm)).map (·.1))) = (l.mem.take i).filter (fun z => decide (z ∉ (curOf L l (es.map Ent.zm)).map (·.1))) ++ (if z ∉ (curOf L l (es.map Ent.zm)).map (·.1) then [z] else []) := by
                    have e0 : l.mem.take (i + 1) = l.mem.take i ++ [z] := by rw [List.take_add_one, hz]; rfl
                    rw [e0, List.filter_append, List.filter_cons]
                    by_cases h : z ∉ (curOf L l (es.map Ent.zm)).map (·.1)
                    · rw [if_pos (decide_eq_true h), if_pos h]; rfl
                    · rw [if_neg (by rw [decide_eq_true_iff]; exact h), if_neg h]; rfl
                  have fl : ((l.mem.take i).filter fun z => decide (z ∉ (curOf L l (es.map Ent.zm)).map (·.1))).length ≤ 3 := by
                    have := List.length_filter_le (fun z => decide (z ∉ (curOf L l (es.map Ent.zm)).map (·.1))) (l.mem.take i)
                    rw [List.length_take] at this
                    have := lsm.2
                    omega
                  rw [tk]
                  by_cases h : z ∈ (curOf L l (es.map Ent.zm)).map (·.1)
                  · rw [if_neg (by simpa using h), if_neg (by simpa using h), List.append_nil]
                    exact ⟨s8, hD8⟩
                  · rw [if_pos (by simpa using h), if_pos h]
                    fail "go"
                    refine ⟨_, hD8, by rw [List.length_map]; exact Nat.lt_of_le_of_lt (show _ ≤ 1000 by omega) (by decide), fun b o e => ?_, by rw [upd_same, List.map_append]; rfl⟩
                    rw [upd_ne (ne_of_none e nD8)]; exact s8 _ _ e
                · rintro H8 ⟨s8, hD8⟩
                  rw [List.length_map, List.take_length] at hD8
                  have s17 := s7.trans s8
                  clear s7
                  fail "go"
                  refine g_tupL (SqL.of hD8) ?_
                  fail "newM"
                  rename_i tM H9 n9 g9 m9 hM9 s9
                  have s79 : Same H7 H9 := s8.trans g9.g.same
                  have k9 : KSt K T.C_Side T.C_Device L R1 H9 p S rl os rs := k7.frame (Mu.ofSame (M := []) k7.sR s79).g
                  have ht9 := sqT_mono s79 ht7
                  have hf9 := sqT_mono s79 hf7
                  have hT9 := s79 _ _ hT7
                  have dl9 := dp_mono s79 dl7
                  have hS9 := k9.hS
                  rw [← ezm] at hM9 hT9
                  clear g9 n9 hD8 s8 s17 hm7 ht7 hf7 hT7 dl7 k7 k5 s79
                  have hfo' : folLb L (sidesOf os) = some l := by rw [ezm]; exact hfo
                  obtain ⟨⟨lg1, lg4, lf2, lfr⟩, lm3⟩ := lsm
                  refine g_seq3N (fun σ H' => ∃ q fa : Addr, σ = [some (.ref a), some (.ref p), some (.ref S), some (.ref rl), some cv, x5, x6, x7, some (.ref t), some (.ref D3), some (.ref T6), x11, some (.ref tM), some (.ref q), some (.ref fa)] ∧ MadeP K T.C_Mirror T.C_Side T.C_Device L l os p R1 H9 q fa H') ?_ (fun Nx rest => ?_)
                  · clear ht9 hf9 hT9 hM9 hS9 s9 m9
                    rintro σ H10 ⟨q10, fa, rfl, mo, R10, F, A, z, m, hh, hmo, sM, r10, s10, hF, hq10, hfa⟩
                    have k10 : KSt K T.C_Side T.C_Device L R1 H10 p S rl os rs := KSt.keep k9 s10
                    have dl10 := dp_mono s10 dl9
                    have rlF : rl ∉ F := fun h => by have := hF _ h; rw [k9.hr] at this; cases this
                    have nR : ∀ y ∈ F, R1 y = none := fun y hy => r10.free (hmo.nons y hy)
                    have r1x : Same R1 (off H10 F) := same_off k10.sR nR
                    have hmo' := hmo.re (same_off sM hmo.nons) (fun y hy => off_in hy)
                    have tI : TupIn (off H10 F) H10 := tupIn_off hmo.notup
                    have hrx : off H10 F rl = some (.lst (rs.map V.ref)) := by rw [off_out rlF]; exact k10.hr
                    have sx : Same (off H10 F) H10 := off_same
                    obtain ⟨t', tm', tb', tf', e', ht', _⟩ := dpLb dl10
                    cases e'
                    have htx := sqT_in tI ht'
                    have hfx := sqT_in tI hfa
                    have lfk : (asmFk l (curOf L l (sidesOf os)) z).length ≤ 16 ∧ ∀ f ∈ asmFk l (curOf L l (sidesOf os)) z, 0 ≤ f ∧ f < 16777216 := by
                      have hz := zok.still _ (cur_in hh)
                      have hz0 : 0 ≤ z ∧ z < 3 := hz.2.2
                      unfold asmFk
                      split
                      · exact ⟨by omega, fun f hf => by have := lfr f hf; omega⟩
                      · refine ⟨by rw [List.length_append]; simp; omega, fun f hf => ?_⟩
                        rcases List.mem_append.mp hf with hf | hf
                        · have := lfr f hf; omega
                        · rw [List.mem_singleton.mp hf]; omega
                    obtain ⟨fin, seats⟩ := asm_fin (by omega) zok hfo' hh (by omega) lfk.1 lfk.2
                    have hw := (asmOf_W (c := none) hOk (by omega) hdev.2 zsW znd zl3 (List.mem_of_mem_head? hh) (by omega) (by omega) (by omega) (fun x hx => by have := lfr x hx; omega)).1
                    have ez : (sidesOf os).map (·.1) = es.map (·.z) := by rw [ezm, List.map_map]; rfl
                    have elz : (sidesOf os).length = (es.map (·.z)).length := by rw [← ez, List.length_map]
                    rw [ez] at seats
                    rw [elz] at fin
                    have rowsL : RowsL (off H10 F) H10 T.C_Side p rs (es.map (·.z)) := by
                      refine ⟨by rw [List.length_map, rel], fun i r zz h1 h2 => ?_⟩
                      obtain ⟨e, he, c, lp, vs, uls, cs, ls, k1, _⟩ := rat i r h1
                      rw [List.getElem?_map, he] at h2
                      cases h2
                      obtain ⟨d, ds, ems, ⟨⟨sx', hs⟩, _⟩⟩ := k10.side e (by rw [← hes]; exact List.mem_of_getElem? he)
                      exact ⟨e.s, c, lp, d, r1x _ _ k1, _, hs⟩
                    have s1x := r1x.trans sx
                    generalize off H10 F = RX at r1x hmo' tI hrx sx htx hfx rowsL s1x
                    have elz3 : (es.map (·.z)).length ≤ 3 := by rw [List.length_map]; exact el
                    clear k9 dl9 hmo tI ht' sM
                    fail "go"
                    refine ⟨RX, p, mo, rl, t, fa, tm', tb', tf', L, asmOf L l (sidesOf os) z m none, F, A, rs, es.map (·.z), l, asmFk l (curOf L l (sidesOf os)) z, 7100, rfl, sx, a1.mono r1x, hOk, ⟨by omega, by omega⟩, hmo', hw, hrx, rowsL, elz3, htx, hfx, seats, fin.gen, fin.on.off, fun y hy => ?_, fun H11 s11 => ?_⟩
                    · obtain ⟨bef, hb⟩ := fin.lab y hy
                      exact ⟨(fin.still y hy).1.1, bef, by rw [hb, fin.gen, fin.fk, seats]⟩
                    have k11 : KSt K T.C_Side T.C_Device L R1 H11 p S rl os rs := KSt.keep k10 s11
                    have hr11 := k11.hr
                    have s1_11 := k11.sR
                    clear hmo' hw htx hfx rowsL k10 s1x dl10 sx
                    refine ⟨_, rfl, ?_⟩
                    rw [if_neg (by simp)]
                    fail "go"
                    refine g_LsW (SqL.of hr11) fun DA nDA => ?_
                    have RDA : R1 DA = none := s1_11.free nDA
                    refine lc_list (K := K) (a := rl) (xs := rs.map V.ref) (fun i H' => ∃ ps : List Addr, Same H11 H' ∧ H' DA = some (.lst (ps.map V.ref)) ∧ ps.length = i ∧ ∀ (j : Nat) (q : Addr) (e : Ent), ps[j]? = some q → es[j]? = some e → ∃ us, H' q = some (.lst us) ∧ q ≠ DA ∧ DpAll K R1 us (e.m.sure.map cellD)) ⟨[], (Gr.newM (M := []) s1_11 nDA).same, upd_same, rfl, fun j q e h => by simp at h⟩ (fun j H' _ ⟨_, s, _⟩ => SqL.of (s _ _ hr11)) ?_ ?_
                    · rintro i v H12 hv ⟨ps, s12, hDA, pl, hps⟩
                      rw [List.getElem?_map] at hv
                      obtain ⟨r, hr, rfl⟩ := Option.map_eq_some_iff.mp hv
                      obtain ⟨e, he, c, lp, vs, uls, cs, ls, k1, k2, k3, k4, k5', k6', k7, k8, k9, k10⟩ := rat i r hr
                      have k12 : KSt K T.C_Side T.C_Device L R1 H12 p S rl os rs := KSt.keep k11 s12
                      have sR12 := k12.sR
                      have k1' := sR12 _ _ k1
                      obtain ⟨d, ds, ems, ⟨⟨sx', hs⟩, nin, non, l1, l2, l3, eds, dev, ndd, nonn, u1, u2, u3, lat⟩⟩ := k12.side e (by rw [← hes]; exact List.mem_of_getElem? he)
                      refine ⟨rfl, ?_⟩
                      obtain ⟨dxd, fd, bd, hd, pwd⟩ := dev
                      fail "go"
                      refine ⟨d, p, l1, l2, l3, u1, rfl, ⟨dxd, fd, bd, hd⟩, lat.h1, fun q nq => ?_⟩
                      have DAq : DA ≠ q := ne_of_none hDA nq
                      refine ⟨_, by rw [upd_ne DAq]; exact hDA, by rw [List.length_map]; exact Nat.lt_of_le_of_lt (show _ ≤ 1000 by have := (List.getElem?_eq_some_iff.mp he).1; omega) (by decide), ps ++ [q], fun b o e => ?_, by rw [upd_same, List.map_append]; rfl, by simp [pl], fun j q' e' h1 h2 => ?_⟩
                      · rw [upd_ne (ne_of_none e nDA), upd_ne (ne_of_none (s12 _ _ e) nq)]; exact s12 _ _ e
                      · by_cases hj : j < ps.length
                        · rw [List.getElem?_append_left hj] at h1
                          obtain ⟨us, hu, qn, du⟩ := hps j q' e' h1 h2
                          exact ⟨us, by rw [upd_ne qn, upd_ne (ne_of_none hu nq)]; exact hu, qn, du⟩
                        · rw [List.getElem?_append_right (by omega)] at h1
                          have e0 : j - ps.length = 0 := by
                            have := (List.getElem?_eq_some_iff.mp h1).1
                            simp at this
                            omega
                          rw [e0] at h1
                          have ej : j = i := by omega
                          rw [ej, he] at h2
                          have h1 : q = q' := by simpa using h1
                          have h2 : e = e' := by simpa using h2
                          rw [← h1, ← h2]
                          exact ⟨u1, by rw [upd_ne DAq.symm, upd_same], DAq.symm, lat.d1⟩
                    · rintro H12 ⟨ps, s12, hDA, pl, hps⟩
                      rw [List.length_map, rel] at pl
                      have hr12 := s12 _ _ hr11
                      have s112 := s1_11.trans s12
                      fail "go"
                      refine g_LsW (SqL.of hr12) fun DB nDB => ?_
                      refine lc_list (K := K) (a := rl) (xs := rs.map V.ref) (fun i H' => ∃ qs : List Addr, Same H12 H' ∧ H' DB = some (.lst (qs.map V.ref)) ∧ qs.length = i ∧ ∀ (j : Nat) (q : Addr) (e : Ent), qs[j]? = some q → es[j]? = some e → ∃ us, R1 q = some (.lst us) ∧ DpAll K R1 us (e.m.sure.map cellD)) ⟨[], (Gr.newM (M := []) s112 nDB).same, upd_same, rfl, fun j q e h => by simp at h⟩ (fun j H' _ ⟨_, s, _⟩ => SqL.of (s _ _ hr12)) ?_ ?_
                      · rintro i v H13 hv ⟨qs, s13, hDB, ql, hqs⟩
                        rw [List.getElem?_map] at hv
                        obtain ⟨r, hr, rfl⟩ := Option.map_eq_some_iff.mp hv
                        obtain ⟨e, he, c, lp, vs, uls, cs, ls, k1, k2, k3, k4, k5', k6', k7, k8, k9, k10⟩ := rat i r hr
                        have k1' := s13 _ _ (s112 _ _ k1)
                        refine ⟨rfl, ?_⟩
                        fail "go"
                        refine ⟨_, hDB, by rw [List.length_map]; exact Nat.lt_of_le_of_lt (show _ ≤ 1000 by have := (List.getElem?_eq_some_iff.mp he).1; omega) (by decide), qs ++ [c], fun b o e => ?_, by rw [upd_same, List.map_append]; rfl, by simp [ql], fun j q' e' h1 h2 => ?_⟩
                        · rw [upd_ne (ne_of_none e nDB)]; exact s13 _ _ e
                        · by_cases hj : j < qs.length
                          · rw [List.getElem?_append_left hj] at h1
                            exact hqs j q' e' h1 h2
                          · rw [List.getElem?_append_right (by omega)] at h1
                            have e0 : j - qs.length = 0 := by
                              have := (List.getElem?_eq_some_iff.mp h1).1
                              simp at this
                              omega
                            rw [e0] at h1
                            have ej : j = i := by omega
                            rw [ej, he] at h2
                            have h1 : c = q' := by simpa using h1
                            have h2 : e = e' := by simpa using h2
                            rw [← h1, ← h2]
                            exact ⟨vs, k2, by rw [k6']; exact k3⟩
                      · rintro H13 ⟨qs, s13, hDB, ql, hqs⟩
                        rw [List.length_map, rel] at ql
                        have hDA13 := s13 _ _ hDA
                        have sR13 := s112.trans s13
                        have dA : Dp K H13 (.ref DA) (.list (es.map fun e => PyData.list (e.m.sure.map cellD))) := .lst (SqL.of hDA13) (dpAll_pt (by simp [pl]) fun j v d h1 h2 => by
                          rw [List.getElem?_map] at h1 h2
                          obtain ⟨q, hq', rfl⟩ := Option.map_eq_some_iff.mp h1
                          obtain ⟨e, he, rfl⟩ := Option.map_eq_some_iff.mp h2
                          obtain ⟨us, hu, _, du⟩ := hps j q e hq' he
                          exact .lst (SqL.of (s13 _ _ hu)) (dpAll_mono sR13 du))
                        have dB : Dp K H13 (.ref DB) (.list (es.map fun e => PyData.list (e.m.sure.map cellD))) := .lst (SqL.of hDB) (dpAll_pt (by simp [ql]) fun j v d h1 h2 => by
                          rw [List.getElem?_map] at h1 h2
                          obtain ⟨q, hq', rfl⟩ := Option.map_eq_some_iff.mp h1
                          obtain ⟨e, he, rfl⟩ := Option.map_eq_some_iff.mp h2
                          obtain ⟨us, hu, du⟩ := hqs j q e hq' he
                          exact .lst (SqL.of (sR13 _ _ hu)) (dpAll_mono sR13 du))
                        have laB : LaD (.list (es.map fun e => PyData.list (e.m.sure.map cellD))) 5 := la_lst fun d h => by obtain ⟨e, _, rfl⟩ := List.mem_map.mp h; exact la_cells
                        refine g_eqDa dA dB (la_shaped laB) (la_shaped laB) (.inl ⟨_, rfl⟩) ?_
                        rw [eqv_same (by rw [clean]; exact clean_rowsE es)]
                        exact hq _
                  · fail "go"
                    obtain ⟨RF, fp⟩ := k9.pre a1 hOk (by omega)
                    refine ⟨RF, S, p, L, os, false, rfl, fp.sR, fp.la, hOk, ⟨by omega, by omega⟩, fp.tup, hS9, by omega, fp.es, fp.nd, ?_, ?_⟩
                    · intro h
                      rw [hfo'] at h; cases h
                    intro l' hl'
                    rw [hfo'] at hl'
                    cases hl'
                    refine ⟨⟨by omega, by omega⟩, by omega, fun x hx => by have := lfr x hx; omega, fun hmi _ H10 q10 t10 s10 hq10 ht10 => ?_, fun z m hh hok R10 H10 mo F A q10 hmo g10 hF hq10 _ => ?_⟩
                    · have s010 := s9.trans s10
                      have k10 : KSt K T.C_Side T.C_Device L R1 H10 p S rl os rs := KSt.keep k9 s10
                      have ht10' := sqT_mono s10 ht9
                      have hf10 := sqT_mono s10 hf9
                      have hT10 := s10 _ _ hT9
                      have hM10 := s10 _ _ hM9
                      have hS10 := k10.hS
                      clear ht9 hf9 hT9 hM9 hS9 s9 dl9
                      have eM : (l.mem.filter fun z => decide (z ∉ (curOf L l (sidesOf os)).map (·.1))) = missOf l (curOf L l (sidesOf os)) := rfl
                      rw [eM] at hM10
                      fail "go"
                      refine ⟨by fail "sz", ?_⟩
                      fail "newM"
                      rename_i q11 H11 n11 g11 m11 h11 s11
                      have s1011 := g11.g.same
                      have k11 : KSt K T.C_Side T.C_Device L R1 H11 p S rl os rs := KSt.keep k10 s1011
                      have hM11 := s1011 _ _ hM10
                      have hq11 := s1011 _ _ hq10
                      have ht11 := sqT_mono s1011 ht10
                      have ht11' := sqT_mono s1011 ht10'
                      have hf11 := sqT_mono s1011 hf10
                      have hT11 := s1011 _ _ hT10
                      have s911 := s10.trans s1011
                      clear g11 n11 hM10 hq10 ht10 ht10' hf10 hT10 hS10 k10 s1011 s10 s010
                      refine g_neIntsV (SqT.of hM11) (m := []) (SqT.of h11) ?_
                      rw [decide_eq_false hmi]
                      refine ⟨_, rfl, ?_⟩
                      rw [if_pos (by rfl)]
                      fail "go"
                      refine ⟨by fail "sz", ?_⟩
                      fail "newM"
                      rename_i q12 H12 n12 g12 m12 h12 s12
                      have s1112 := g12.g.same
                      have k12 : KSt K T.C_Side T.C_Device L R1 H12 p S rl os rs := KSt.keep k11 s1112
                      have hM12 := s1112 _ _ hM11
                      have hq12 := s1112 _ _ hq11
                      have ht12 := sqT_mono s1112 ht11
                      have ht12' := sqT_mono s1112 ht11'
                      have hf12 := sqT_mono s1112 hf11
                      have hT12 := s1112 _ _ hT11
                      have s912 := s911.trans s1112
                      have hS12 := k12.hS
                      have dA : Dp K H12 (.ref q10) (.list [.str "degraded", intsD (missOf l (curOf L l (sidesOf os)))]) := .lst (SqL.of hq12) (.cons (.str _) (.cons (.tup ht12 (dpAll_ints _)) .nil))
                      have dB : Dp K H12 (.ref q12) (.list [.str "degraded", intsD (missOf l (curOf L l (sidesOf os)))]) := .lst (SqL.of h12) (.cons (.str _) (.cons (.tup (SqT.of hM12) (dpAll_ints _)) .nil))
                      have laS : LaD (.list [.str "degraded", intsD (missOf l (curOf L l (sidesOf os)))]) 2 := la_lst (la_cons ⟨by rw [PyData.canLay0]; decide +kernel, by simp [PyData.depth]⟩ (la_cons (la_tup la_ints) la_non'))
                      clear g12 n12 hM11 hq11 ht11 ht11' hf11 hT11 k11 s1112 s911 h11 h12 ht12
                      refine g_neDa dA dB (la_shaped laS) (la_shaped laS) (.inl ⟨_, rfl⟩) ?_
                      rw [eqv_same (by simp [clean, cleanAll, clean_ints, intsD])]
                      refine ⟨_, rfl, ?_⟩
                      rw [if_neg (by simp)]
                      fail "go"
                      obtain ⟨RG, fg⟩ := k12.pre a1 hOk (by omega)
                      refine ⟨RG, S, p, L, os, true, rfl, fg.sR, fg.la, hOk, ⟨by omega, by omega⟩, fg.tup, hS12, by omega, fg.es, fg.nd, ?_, ?_⟩
                      · intro h
                        rw [hfo'] at h; cases h
                      intro l' hl'
                      rw [hfo'] at hl'
                      cases hl'
                      refine ⟨⟨by omega, by omega⟩, by omega, fun x hx => by have := lfr x hx; omega, fun _ h => (by cases h), fun z m hh hok R13 H13 mo F A q13 hmo g13 hF hq13 _ => ?_⟩
                      have rr := fg.r1.trans g13.rr
                      have s1213 := g13.same
                      have s13 := g13.rh
                      have ht13 := sqT_mono s1213 ht12'
                      have hf13 := sqT_mono s1213 hf12
                      have hT13 := s1213 _ _ hT12
                      have s913 := s912.trans s1213
                      have hF9 : ∀ x ∈ F, H9 x = none := fun x hx => by
                        have h1 := hF x hx
                        cases e : H9 x with
                        | none => rfl
                        | some o => rw [s912 _ _ e] at h1; cases h1
                      have aT : atI (((curOf L l (sidesOf os)).map (·.1)).map V.int) 0 = some (.int z) := by
                        cases ec : curOf L l (sidesOf os) with
                        | nil => rw [ec] at hh; cases hh
                        | cons q r => rw [ec] at hh; cases hh; exact atI_nat (j := 0) rfl
                      clear hM12 hq12 ht12' hf12 hT12 hS12 k12 s1213 s912 dA dB g13 fg s11 s12
                      fail "go"
                      refine g_ixL (SqL.of hT13) aT ?_
                      fail "go"
                      refine ⟨by fail "sz", ?_⟩
                      fail "newM"
                      rename_i q14 H14 n14 g14 m14 h14 s14
                      have s1314 := g14.g.same
                      refine g_catA (sqT_mono s1314 hf13) (SqT.of h14) (by rw [List.length_map]; exact Nat.le_trans (show _ ≤ 1000 by simp; omega) (by decide)) (by simp) fun fa H15 s1415 hfa => ?_
                      refine rest _ _ ⟨q13, fa, rfl, mo, R13, F, A, z, m, hh, hmo.frame (Mu.ofSame (M := []) s13 (s1314.trans s1415)).g (fun _ _ => List.not_mem_nil), s13.trans (s1314.trans s1415), rr, (s913.trans s1314).trans s1415, hF9, s1415 _ _ (s1314 _ _ hq13), ?_⟩
                      unfold asmFk
                      rw [if_neg hmi, List.map_append]
                      exact hfa
                    · have rr := fp.r1.trans g10.rr
                      have s910 := g10.same
                      have s10 := g10.rh
                      have ht10 := sqT_mono s910 ht9
                      have hf10 := sqT_mono s910 hf9
                      have hM10 := s910 _ _ hM9
                      clear ht9 hf9 hM9 hS9 s9 dl9 g10 k9 hT9 fp
                      have hmi : missOf l (curOf L l (sidesOf os)) = [] := hok.resolve_right (by simp)
                      have eM : (l.mem.filter fun z => decide (z ∉ (curOf L l (sidesOf os)).map (·.1))) = [] := hmi
                      rw [eM] at hM10
                      fail "go"
                      refine ⟨by fail "sz", ?_⟩
                      fail "newM"
                      rename_i q11 H11 n11 g11 m11 h11 s11
                      have s1011 := g11.g.same
                      refine g_neIntsV (l := []) (m := []) (SqT.of (s1011 _ _ hM10)) (SqT.of h11) ?_
                      rw [decide_eq_true rfl]
                      refine ⟨_, rfl, ?_⟩
                      rw [if_neg (by simp)]
                      refine rest _ _ ⟨q10, tf, rfl, mo, R10, F, A, z, m, hh, hmo.frame g11.g (fun _ _ => List.not_mem_nil), s10.trans s1011, rr, s910.trans s1011, hF, s1011 _ _ hq10, ?_⟩
                      unfold asmFk
                      rw [if_pos hmi]
                      exact sqT_mono s1011 hf10
end
local macro_rules | `(tactic| fail "kwc") => `(tactic| ((repeat (refine ⟨_, _, _, _, _, _, rfl, rfl, ?_⟩)); rfl))
theorem facts {P : Program} {w : World} {K : PySem.W.Frag} {h : Heap} {mg : Str → Option Value} {fa0 : Addr} (X : K.In h) (G : h.Ns mainGlobals mg) (hfa : mg ("law" : Str) = some (.ref fa0)) (c : SkS.SaysS SkH.fa SkH.fn SkH.ex "Degraded" SkH.sv w h K) (hP : P.main.file = SkH.R.prog.main.file) (hT : (P.main.scope.names.lookup ("super" : Str)).isSome = false) :
    ∃ fd : FuncData, (∀ (s : Shared) (v : Value), BindsTo s fd ⟨[v], []⟩ [("script", v)]) ∧ ∀ base : Heap, K.In base → base.Ns mainGlobals mg → FnOk P w K mg base CX0 14 fa0 fd ["script"] (spLaw K) := by
  have cD := c.t.d
  have z0 : SkH.ex K = true := c.more
  unfold SkH.ex at z0
  obtain ⟨w0, z1⟩ := He.ba z0
  obtain ⟨w1, z2⟩ := He.ba z1
  obtain ⟨w2, z3⟩ := He.ba z2
  obtain ⟨w3, z4⟩ := He.ba z3
  obtain ⟨w4, z5⟩ := He.ba z4
  obtain ⟨w5, z6⟩ := He.ba z5
  obtain ⟨w6, z7⟩ := He.ba z6
  obtain ⟨w7, z8⟩ := He.ba z7
  obtain ⟨w8, z9⟩ := He.ba z8
  obtain ⟨w9, z10⟩ := He.ba z9
  obtain ⟨w10, z11⟩ := He.ba z10
  obtain ⟨w11, z12⟩ := He.ba z11
  obtain ⟨w12, z13⟩ := He.ba z12
  obtain ⟨w13, z14⟩ := He.ba z13
  have w14 := z14
  have e0 := hfa.symm.trans (He.glo_ok X G (cD.fact 69 (f := .glo "law") rfl))
  cases e0
  obtain ⟨fd0, FD0⟩ := cD.def_ 0 (d := SkH.d0) rfl
  have F__law_take : Fun K "_law_take" "_law_take" s__law_take (He.fAd K ("_law_take", none)) fd0 := funOf FD0
  have b__law_take := F__law_take.binds (ps := ["box", "size"]) fun _ _ _ _ _ _ us hl => match us, hl with | [_, _], _ => rfl
  obtain ⟨fd1, FD1⟩ := cD.def_ 1 (d := SkH.d1) rfl
  have F_parts_of : Fun K "parts_of" "parts_of" s_parts_of (He.fAd K ("parts_of", none)) fd1 := funOf FD1
  have b_parts_of := F_parts_of.binds (ps := ["number", "size"]) fun _ _ _ _ _ _ us hl => match us, hl with | [_, _], _ => rfl
  obtain ⟨fd2, FD2⟩ := cD.def_ 2 (d := SkH.d2) rfl
  have F_Layout___init__ : Fun K "__init__" "Layout.__init__" s_Layout___init__ (He.fAd K ("Layout", some "__init__")) fd2 := funOf FD2
  have b_Layout___init__ := F_Layout___init__.binds (ps := ["self", "segments", "segment_blocks", "block_size"]) fun _ _ _ _ _ _ us hl => match us, hl with | [_, _, _, _], _ => rfl
  obtain ⟨fd3, FD3⟩ := cD.def_ 3 (d := SkH.d3) rfl
  have F__law_layout : Fun K "_law_layout" "_law_layout" s__law_layout (He.fAd K ("_law_layout", none)) fd3 := funOf FD3
  have b__law_layout := F__law_layout.binds (ps := ["box"]) fun _ _ _ _ _ _ us hl => match us, hl with | [_], _ => rfl
  obtain ⟨fd4, FD4⟩ := cD.def_ 4 (d := SkH.d4) rfl
  have F__law_number : Fun K "_law_number" "_law_number" s__law_number (He.fAd K ("_law_number", none)) fd4 := funOf FD4
  have b__law_number := F__law_number.binds (ps := ["script", "k"]) fun _ _ _ _ _ _ us hl => match us, hl with | [_, _], _ => rfl
  obtain ⟨fd5, FD5⟩ := cD.def_ 5 (d := SkH.d5) rfl
  have F__law_low : Fun K "_law_low" "_law_low" s__law_low (He.fAd K ("_law_low", none)) fd5 := funOf FD5
  have b__law_low := F__law_low.binds (ps := ["number", "count"]) fun _ _ _ _ _ _ us hl => match us, hl with | [_, _], _ => rfl
  obtain ⟨fd6, FD6⟩ := cD.def_ 6 (d := SkH.d6) rfl
  have F__law_octets : Fun K "_law_octets" "_law_octets" s__law_octets (He.fAd K ("_law_octets", none)) fd6 := funOf FD6
  have b__law_octets := F__law_octets.binds (ps := ["layout", "block"]) fun _ _ _ _ _ _ us hl => match us, hl with | [_, _], _ => rfl
  obtain ⟨fd7, FD7⟩ := cD.def_ 7 (d := SkH.d7) rfl
  have F__law_check : Fun K "_law_check" "_law_check" s__law_check (He.fAd K ("_law_check", none)) fd7 := funOf FD7
  have b__law_check := F__law_check.binds (ps := ["layout", "address", "block"]) fun _ _ _ _ _ _ us hl => match us, hl with | [_, _, _], _ => rfl
  obtain ⟨fd8, FD8⟩ := cD.def_ 8 (d := SkH.d8) rfl
  have F__law_sealed : Fun K "_law_sealed" "_law_sealed" s__law_sealed (He.fAd K ("_law_sealed", none)) fd8 := funOf FD8
  have b__law_sealed := F__law_sealed.binds (ps := ["layout", "address", "block"]) fun _ _ _ _ _ _ us hl => match us, hl with | [_, _, _], _ => rfl
  obtain ⟨fd9, FD9⟩ := cD.def_ 9 (d := SkH.d9) rfl
  have F__law_label_block : Fun K "_law_label_block" "_law_label_block" s__law_label_block (He.fAd K ("_law_label_block", none)) fd9 := funOf FD9
  have b__law_label_block := F__law_label_block.binds (ps := ["layout", "seat", "label"]) fun _ _ _ _ _ _ us hl => match us, hl with | [_, _, _], _ => rfl
  obtain ⟨fd10, FD10⟩ := cD.def_ 10 (d := SkH.d10) rfl
  have F__law_label_cell : Fun K "_law_label_cell" "_law_label_cell" s__law_label_cell (He.fAd K ("_law_label_cell", none)) fd10 := funOf FD10
  have b__law_label_cell := F__law_label_cell.binds (ps := ["layout", "seat", "label", "slot"]) fun _ _ _ _ _ _ us hl => match us, hl with | [_, _, _, _], _ => rfl
  obtain ⟨fd11, FD11⟩ := cD.def_ 11 (d := SkH.d11) rfl
  have F__law_data : Fun K "_law_data" "_law_data" s__law_data (He.fAd K ("_law_data", none)) fd11 := funOf FD11
  have b__law_data := F__law_data.binds (ps := ["layout", "box"]) fun _ _ _ _ _ _ us hl => match us, hl with | [_, _], _ => rfl
  obtain ⟨fd12, FD12⟩ := cD.def_ 12 (d := SkH.d12) rfl
  have F_Device___init__ : FunD K "__init__" "Device.__init__" (defArgs s_Device___init__) (defBody s_Device___init__) (defScope s_Device___init__) [V.non] [] (He.fAd K ("Device", some "__init__")) fd12 := FD12
  obtain ⟨dz_Device___init__, dy_Device___init__, b_Device___init__⟩ := F_Device___init__.binds1 (ps := ["self", "layout", "blocks"]) 3 1 (by simp) rfl fun _ _ _ _ _ _ _ us its hl hi => match us, its, hl, hi with | [_, _, _], [_], _, _ => ⟨_, rfl, rfl⟩
  cases dy_Device___init__
  obtain ⟨fd13, FD13⟩ := cD.def_ 13 (d := SkH.d13) rfl
  have F_Side___init__ : FunD K "__init__" "Side.__init__" (defArgs s_Side___init__) (defBody s_Side___init__) (defScope s_Side___init__) [V.non] [] (He.fAd K ("Side", some "__init__")) fd13 := FD13
  obtain ⟨dz_Side___init__, dy_Side___init__, b_Side___init__⟩ := F_Side___init__.binds1 (ps := ["self", "layout", "seat", "cells"]) 4 1 (by simp) rfl fun _ _ _ _ _ _ _ us its hl hi => match us, its, hl, hi with | [_, _, _, _], [_], _, _ => ⟨_, rfl, rfl⟩
  cases dy_Side___init__
  obtain ⟨fd14, FD14⟩ := cD.def_ 14 (d := SkH.d14) rfl
  have F__law_labelled : Fun K "_law_labelled" "_law_labelled" s__law_labelled (He.fAd K ("_law_labelled", none)) fd14 := funOf FD14
  have b__law_labelled := F__law_labelled.binds (ps := ["layout", "seat", "box", "common"]) fun _ _ _ _ _ _ us hl => match us, hl with | [_, _, _, _], _ => rfl
  obtain ⟨fd15, FD15⟩ := cD.def_ 15 (d := SkH.d15) rfl
  have F__law_best : Fun K "_law_best" "_law_best" s__law_best (He.fAd K ("_law_best", none)) fd15 := funOf FD15
  have b__law_best := F__law_best.binds (ps := ["labels"]) fun _ _ _ _ _ _ us hl => match us, hl with | [_], _ => rfl
  obtain ⟨fd16, FD16⟩ := cD.def_ 16 (d := SkH.d16) rfl
  have F_is_newer : Fun K "is_newer" "is_newer" s_is_newer (He.fAd K ("is_newer", none)) fd16 := funOf FD16
  have b_is_newer := F_is_newer.binds (ps := ["label", "other"]) fun _ _ _ _ _ _ us hl => match us, hl with | [_, _], _ => rfl
  obtain ⟨fd17, FD17⟩ := cD.def_ 17 (d := SkH.d17) rfl
  have F_newest_label : Fun K "newest_label" "newest_label" s_newest_label (He.fAd K ("newest_label", none)) fd17 := funOf FD17
  have b_newest_label := F_newest_label.binds (ps := ["labels"]) fun _ _ _ _ _ _ us hl => match us, hl with | [_], _ => rfl
  obtain ⟨fd18, FD18⟩ := cD.def_ 18 (d := SkH.d18) rfl
  have F_seats_of_bits : Fun K "seats_of_bits" "seats_of_bits" s_seats_of_bits (He.fAd K ("seats_of_bits", none)) fd18 := funOf FD18
  have b_seats_of_bits := F_seats_of_bits.binds (ps := ["octets"]) fun _ _ _ _ _ _ us hl => match us, hl with | [_], _ => rfl
  obtain ⟨fd19, FD19⟩ := cD.def_ 19 (d := SkH.d19) rfl
  have F_number_of : Fun K "number_of" "number_of" s_number_of (He.fAd K ("number_of", none)) fd19 := funOf FD19
  have b_number_of := F_number_of.binds (ps := ["octets"]) fun _ _ _ _ _ _ us hl => match us, hl with | [_], _ => rfl
  obtain ⟨fd20, FD20⟩ := cD.def_ 20 (d := SkH.d20) rfl
  have F_bits_of_seats : Fun K "bits_of_seats" "bits_of_seats" s_bits_of_seats (He.fAd K ("bits_of_seats", none)) fd20 := funOf FD20
  have b_bits_of_seats := F_bits_of_seats.binds (ps := ["seats"]) fun _ _ _ _ _ _ us hl => match us, hl with | [_], _ => rfl
  obtain ⟨fd21, FD21⟩ := cD.def_ 21 (d := SkH.d21) rfl
  have F_number_octets : Fun K "number_octets" "number_octets" s_number_octets (He.fAd K ("number_octets", none)) fd21 := funOf FD21
  have b_number_octets := F_number_octets.binds (ps := ["number", "count"]) fun _ _ _ _ _ _ us hl => match us, hl with | [_, _], _ => rfl
  obtain ⟨fd22, FD22⟩ := cD.def_ 22 (d := SkH.d22) rfl
  have F_label_block : Fun K "label_block" "label_block" s_label_block (He.fAd K ("label_block", none)) fd22 := funOf FD22
  have b_label_block := F_label_block.binds (ps := ["layout", "seat", "label"]) fun _ _ _ _ _ _ us hl => match us, hl with | [_, _, _], _ => rfl
  obtain ⟨fd23, FD23⟩ := cD.def_ 23 (d := SkH.d23) rfl
  have F_label_of : Fun K "label_of" "label_of" s_label_of (He.fAd K ("label_of", none)) fd23 := funOf FD23
  have b_label_of := F_label_of.binds (ps := ["layout", "seat", "block"]) fun _ _ _ _ _ _ us hl => match us, hl with | [_, _, _], _ => rfl
  obtain ⟨fd24, FD24⟩ := cD.def_ 24 (d := SkH.d24) rfl
  have F_Device_read : Fun K "read" "Device.read" s_Device_read (He.fAd K ("Device", some "read")) fd24 := funOf FD24
  have b_Device_read := F_Device_read.binds (ps := ["self", "address"]) fun _ _ _ _ _ _ us hl => match us, hl with | [_, _], _ => rfl
  obtain ⟨fd25, FD25⟩ := cD.def_ 25 (d := SkH.d25) rfl
  have F_pairs_of : Fun K "pairs_of" "pairs_of" s_pairs_of (He.fAd K ("pairs_of", none)) fd25 := funOf FD25
  have b_pairs_of := F_pairs_of.binds (ps := ["numbers"]) fun _ _ _ _ _ _ us hl => match us, hl with | [_], _ => rfl
  obtain ⟨fd26, FD26⟩ := cD.def_ 26 (d := SkH.d26) rfl
  have F_summary_octets : Fun K "summary_octets" "summary_octets" s_summary_octets (He.fAd K ("summary_octets", none)) fd26 := funOf FD26
  have b_summary_octets := F_summary_octets.binds (ps := ["layout", "mark", "numbers", "action"]) fun _ _ _ _ _ _ us hl => match us, hl with | [_, _, _, _], _ => rfl
  obtain ⟨fd27, FD27⟩ := cD.def_ 27 (d := SkH.d27) rfl
  have F_bits_of : Fun K "bits_of" "bits_of" s_bits_of (He.fAd K ("bits_of", none)) fd27 := funOf FD27
  have b_bits_of := F_bits_of.binds (ps := ["used", "last_id"]) fun _ _ _ _ _ _ us hl => match us, hl with | [_, _], _ => rfl
  obtain ⟨fd28, FD28⟩ := cD.def_ 28 (d := SkH.d28) rfl
  have F_body_octets : Fun K "body_octets" "body_octets" s_body_octets (He.fAd K ("body_octets", none)) fd28 := funOf FD28
  have b_body_octets := F_body_octets.binds (ps := ["layout", "kind", "body"]) fun _ _ _ _ _ _ us hl => match us, hl with | [_, _, _], _ => rfl
  obtain ⟨fd29, FD29⟩ := cD.def_ 29 (d := SkH.d29) rfl
  have F_block_octets : Fun K "block_octets" "block_octets" s_block_octets (He.fAd K ("block_octets", none)) fd29 := funOf FD29
  have b_block_octets := F_block_octets.binds (ps := ["layout", "block"]) fun _ _ _ _ _ _ us hl => match us, hl with | [_, _], _ => rfl
  obtain ⟨fd30, FD30⟩ := cD.def_ 30 (d := SkH.d30) rfl
  have F_check_of : Fun K "check_of" "check_of" s_check_of (He.fAd K ("check_of", none)) fd30 := funOf FD30
  have b_check_of := F_check_of.binds (ps := ["layout", "address", "block"]) fun _ _ _ _ _ _ us hl => match us, hl with | [_, _, _], _ => rfl
  obtain ⟨fd31, FD31⟩ := cD.def_ 31 (d := SkH.d31) rfl
  have F_is_whole : Fun K "is_whole" "is_whole" s_is_whole (He.fAd K ("is_whole", none)) fd31 := funOf FD31
  have b_is_whole := F_is_whole.binds (ps := ["layout", "address", "cell"]) fun _ _ _ _ _ _ us hl => match us, hl with | [_, _, _], _ => rfl
  obtain ⟨fd32, FD32⟩ := cD.def_ 32 (d := SkH.d32) rfl
  have F_Side_read : Fun K "read" "Side.read" s_Side_read (He.fAd K ("Side", some "read")) fd32 := funOf FD32
  have b_Side_read := F_Side_read.binds (ps := ["self", "address"]) fun _ _ _ _ _ _ us hl => match us, hl with | [_, _], _ => rfl
  obtain ⟨fd33, FD33⟩ := cD.def_ 33 (d := SkH.d33) rfl
  have F_Side_labels : Fun K "labels" "Side.labels" s_Side_labels (He.fAd K ("Side", some "labels")) fd33 := funOf FD33
  have b_Side_labels := F_Side_labels.binds (ps := ["self"]) fun _ _ _ _ _ _ us hl => match us, hl with | [_], _ => rfl
  obtain ⟨fd34, FD34⟩ := cD.def_ 34 (d := SkH.d34) rfl
  have F_Side_label : Fun K "label" "Side.label" s_Side_label (He.fAd K ("Side", some "label")) fd34 := funOf FD34
  have b_Side_label := F_Side_label.binds (ps := ["self"]) fun _ _ _ _ _ _ us hl => match us, hl with | [_], _ => rfl
  obtain ⟨fd35, FD35⟩ := cD.def_ 35 (d := SkH.d35) rfl
  have F_label_to_follow : Fun K "label_to_follow" "label_to_follow" s_label_to_follow (He.fAd K ("label_to_follow", none)) fd35 := funOf FD35
  have b_label_to_follow := F_label_to_follow.binds (ps := ["sides"]) fun _ _ _ _ _ _ us hl => match us, hl with | [_], _ => rfl
  obtain ⟨fd36, FD36⟩ := cD.def_ 36 (d := SkH.d36) rfl
  have F_Side_settled : Fun K "settled" "Side.settled" s_Side_settled (He.fAd K ("Side", some "settled")) fd36 := funOf FD36
  have b_Side_settled := F_Side_settled.binds (ps := ["self"]) fun _ _ _ _ _ _ us hl => match us, hl with | [_], _ => rfl
  obtain ⟨fd37, FD37⟩ := cD.def_ 37 (d := SkH.d37) rfl
  have F_is_next : Fun K "is_next" "is_next" s_is_next (He.fAd K ("is_next", none)) fd37 := funOf FD37
  have b_is_next := F_is_next.binds (ps := ["label", "own"]) fun _ _ _ _ _ _ us hl => match us, hl with | [_, _], _ => rfl
  obtain ⟨fd38, FD38⟩ := cD.def_ 38 (d := SkH.d38) rfl
  have F_is_current : Fun K "is_current" "is_current" s_is_current (He.fAd K ("is_current", none)) fd38 := funOf FD38
  have b_is_current := F_is_current.binds (ps := ["side", "label"]) fun _ _ _ _ _ _ us hl => match us, hl with | [_, _], _ => rfl
  obtain ⟨fd39, FD39⟩ := cD.def_ 39 (d := SkH.d39) rfl
  have F_fork_of : Fun K "fork_of" "fork_of" s_fork_of (He.fAd K ("fork_of", none)) fd39 := funOf FD39
  have b_fork_of := F_fork_of.binds (ps := ["generation", "seat"]) fun _ _ _ _ _ _ us hl => match us, hl with | [_, _], _ => rfl
  obtain ⟨fd40, FD40⟩ := cD.def_ 40 (d := SkH.d40) rfl
  have F_first_whole : Fun K "first_whole" "first_whole" s_first_whole (He.fAd K ("first_whole", none)) fd40 := funOf FD40
  have b_first_whole := F_first_whole.binds (ps := ["sides", "address"]) fun _ _ _ _ _ _ us hl => match us, hl with | [_, _], _ => rfl
  obtain ⟨fd41, FD41⟩ := cD.def_ 41 (d := SkH.d41) rfl
  have F_Mirror___init__ : FunD K "__init__" "Mirror.__init__" (defArgs s_Mirror___init__) (defBody s_Mirror___init__) (defScope s_Mirror___init__) [V.ref (He.dflAt ("Mirror", some "__init__") 0 K)] [] (He.fAd K ("Mirror", some "__init__")) fd41 := FD41
  obtain ⟨dz_Mirror___init__, dy_Mirror___init__, b_Mirror___init__⟩ := F_Mirror___init__.binds1 (ps := ["self", "layout", "sides", "generation", "forks"]) 5 1 (by simp) rfl fun _ _ _ _ _ _ _ us its hl hi => match us, its, hl, hi with | [_, _, _, _, _], [_], _, _ => ⟨_, rfl, rfl⟩
  cases dy_Mirror___init__
  obtain ⟨fd42, FD42⟩ := cD.def_ 42 (d := SkH.d42) rfl
  have F_Mirror_cut_after : Fun K "cut_after" "Mirror.cut_after" s_Mirror_cut_after (He.fAd K ("Mirror", some "cut_after")) fd42 := funOf FD42
  have b_Mirror_cut_after := F_Mirror_cut_after.binds (ps := ["self", "count"]) fun _ _ _ _ _ _ us hl => match us, hl with | [_, _], _ => rfl
  obtain ⟨fd43, FD43⟩ := cD.def_ 43 (d := SkH.d43) rfl
  have F_sealed : Fun K "sealed" "sealed" s_sealed (He.fAd K ("sealed", none)) fd43 := funOf FD43
  have b_sealed := F_sealed.binds (ps := ["layout", "address", "block"]) fun _ _ _ _ _ _ us hl => match us, hl with | [_, _, _], _ => rfl
  obtain ⟨fd44, FD44⟩ := cD.def_ 44 (d := SkH.d44) rfl
  have F_Device_cut_after : Fun K "cut_after" "Device.cut_after" s_Device_cut_after (He.fAd K ("Device", some "cut_after")) fd44 := funOf FD44
  have b_Device_cut_after := F_Device_cut_after.binds (ps := ["self", "count"]) fun _ _ _ _ _ _ us hl => match us, hl with | [_, _], _ => rfl
  obtain ⟨fd45, FD45⟩ := cD.def_ 45 (d := SkH.d45) rfl
  have F_Mirror_count_command : Fun K "count_command" "Mirror.count_command" s_Mirror_count_command (He.fAd K ("Mirror", some "count_command")) fd45 := funOf FD45
  have b_Mirror_count_command := F_Mirror_count_command.binds (ps := ["self"]) fun _ _ _ _ _ _ us hl => match us, hl with | [_], _ => rfl
  obtain ⟨fd46, FD46⟩ := cD.def_ 46 (d := SkH.d46) rfl
  have F_Device__count_command : Fun K "_count_command" "Device._count_command" s_Device__count_command (He.fAd K ("Device", some "_count_command")) fd46 := funOf FD46
  have b_Device__count_command := F_Device__count_command.binds (ps := ["self"]) fun _ _ _ _ _ _ us hl => match us, hl with | [_], _ => rfl
  obtain ⟨fd47, FD47⟩ := cD.def_ 47 (d := SkH.d47) rfl
  have F_Device_write : Fun K "write" "Device.write" s_Device_write (He.fAd K ("Device", some "write")) fd47 := funOf FD47
  have b_Device_write := F_Device_write.binds (ps := ["self", "address", "block"]) fun _ _ _ _ _ _ us hl => match us, hl with | [_, _, _], _ => rfl
  obtain ⟨fd48, FD48⟩ := cD.def_ 48 (d := SkH.d48) rfl
  have F_Side_write : Fun K "write" "Side.write" s_Side_write (He.fAd K ("Side", some "write")) fd48 := funOf FD48
  have b_Side_write := F_Side_write.binds (ps := ["self", "address", "block"]) fun _ _ _ _ _ _ us hl => match us, hl with | [_, _, _], _ => rfl
  obtain ⟨fd49, FD49⟩ := cD.def_ 49 (d := SkH.d49) rfl
  have F_Device_barrier : Fun K "barrier" "Device.barrier" s_Device_barrier (He.fAd K ("Device", some "barrier")) fd49 := funOf FD49
  have b_Device_barrier := F_Device_barrier.binds (ps := ["self"]) fun _ _ _ _ _ _ us hl => match us, hl with | [_], _ => rfl
  obtain ⟨fd50, FD50⟩ := cD.def_ 50 (d := SkH.d50) rfl
  have F_Side_barrier : Fun K "barrier" "Side.barrier" s_Side_barrier (He.fAd K ("Side", some "barrier")) fd50 := funOf FD50
  have b_Side_barrier := F_Side_barrier.binds (ps := ["self"]) fun _ _ _ _ _ _ us hl => match us, hl with | [_], _ => rfl
  obtain ⟨fd51, FD51⟩ := cD.def_ 51 (d := SkH.d51) rfl
  have F_Mirror_copy_to : Fun K "copy_to" "Mirror.copy_to" s_Mirror_copy_to (He.fAd K ("Mirror", some "copy_to")) fd51 := funOf FD51
  have b_Mirror_copy_to := F_Mirror_copy_to.binds (ps := ["self", "side", "content"]) fun _ _ _ _ _ _ us hl => match us, hl with | [_, _, _], _ => rfl
  obtain ⟨fd52, FD52⟩ := cD.def_ 52 (d := SkH.d52) rfl
  have F_Mirror_members : Fun K "members" "Mirror.members" s_Mirror_members (He.fAd K ("Mirror", some "members")) fd52 := funOf FD52
  have b_Mirror_members := F_Mirror_members.binds (ps := ["self"]) fun _ _ _ _ _ _ us hl => match us, hl with | [_], _ => rfl
  obtain ⟨fd53, FD53⟩ := cD.def_ 53 (d := SkH.d53) rfl
  have F_Side_write_label : Fun K "write_label" "Side.write_label" s_Side_write_label (He.fAd K ("Side", some "write_label")) fd53 := funOf FD53
  have b_Side_write_label := F_Side_write_label.binds (ps := ["self", "label"]) fun _ _ _ _ _ _ us hl => match us, hl with | [_, _], _ => rfl
  obtain ⟨fd54, FD54⟩ := cD.def_ 54 (d := SkH.d54) rfl
  have F_Mirror_write_labels : Fun K "write_labels" "Mirror.write_labels" s_Mirror_write_labels (He.fAd K ("Mirror", some "write_labels")) fd54 := funOf FD54
  have b_Mirror_write_labels := F_Mirror_write_labels.binds (ps := ["self", "sides", "label"]) fun _ _ _ _ _ _ us hl => match us, hl with | [_, _, _], _ => rfl
  obtain ⟨fd55, FD55⟩ := cD.def_ 55 (d := SkH.d55) rfl
  have F_Mirror_relabel : Fun K "relabel" "Mirror.relabel" s_Mirror_relabel (He.fAd K ("Mirror", some "relabel")) fd55 := funOf FD55
  have b_Mirror_relabel := F_Mirror_relabel.binds (ps := ["self", "before"]) fun _ _ _ _ _ _ us hl => match us, hl with | [_, _], _ => rfl
  obtain ⟨fd56, FD56⟩ := cD.def_ 56 (d := SkH.d56) rfl
  have F_Mirror_clear_labels : Fun K "clear_labels" "Mirror.clear_labels" s_Mirror_clear_labels (He.fAd K ("Mirror", some "clear_labels")) fd56 := funOf FD56
  have b_Mirror_clear_labels := F_Mirror_clear_labels.binds (ps := ["self", "side"]) fun _ _ _ _ _ _ us hl => match us, hl with | [_, _], _ => rfl
  obtain ⟨fd57, FD57⟩ := cD.def_ 57 (d := SkH.d57) rfl
  have F_Mirror_read : Fun K "read" "Mirror.read" s_Mirror_read (He.fAd K ("Mirror", some "read")) fd57 := funOf FD57
  have b_Mirror_read := F_Mirror_read.binds (ps := ["self", "address"]) fun _ _ _ _ _ _ us hl => match us, hl with | [_, _], _ => rfl
  obtain ⟨fd58, FD58⟩ := cD.def_ 58 (d := SkH.d58) rfl
  have F_Mirror_content : Fun K "content" "Mirror.content" s_Mirror_content (He.fAd K ("Mirror", some "content")) fd58 := funOf FD58
  have b_Mirror_content := F_Mirror_content.binds (ps := ["self"]) fun _ _ _ _ _ _ us hl => match us, hl with | [_], _ => rfl
  obtain ⟨fd59, FD59⟩ := cD.def_ 59 (d := SkH.d59) rfl
  have F_Mirror_join : Fun K "join" "Mirror.join" s_Mirror_join (He.fAd K ("Mirror", some "join")) fd59 := funOf FD59
  have b_Mirror_join := F_Mirror_join.binds (ps := ["self", "side", "stale"]) fun _ _ _ _ _ _ us hl => match us, hl with | [_, _, _], _ => rfl
  obtain ⟨fd60, FD60⟩ := cD.def_ 60 (d := SkH.d60) rfl
  have F_assemble : Fun K "assemble" "assemble" s_assemble (He.fAd K ("assemble", none)) fd60 := funOfK FD60
  have FK_assemble : FunD K "assemble" "assemble" (defArgs s_assemble) (defBody s_assemble) (defScope s_assemble) [] [("force", V.bl false), ("cut", V.non)] (He.fAd K ("assemble", none)) fd60 := FD60
  obtain ⟨mv_assemble__force, kb_assemble__force⟩ := FK_assemble.kbinds0 (ps := ["seats", "force", "cut"]) 1 ["force"] [("cut", V.non)] (fun {α} (us mv ws : List α) => us ++ ws ++ mv) (by simp) (by simp) (fun r1 r2 r3 => (r1.append r3).append r2) (fun D doc pm an cdv ct us mv ws l1 l2 l3 => match us, mv, ws, l1, l2, l3 with | [_], [_], [_], _, _, _ => by fail "kwc")
  have kb_assemble : KBn K fd60 ["seats", "force", "cut"] 1 ["force", "cut"] (fun us ws => us ++ ws) (fun vs zs => vs ++ zs) := by
    obtain ⟨oc, od, kV, doc, pm, an, cdv, ct, osl, rfl, lk, hcd⟩ := F_assemble.ex
    exact ⟨fun s us ws _ l1 l2 => match us, l1, ws, l2 with | [_], _, [_, _], _ => BindsTo.of_eq rfl, fun r1 r2 => r1.append r2⟩
  obtain ⟨fd61, FD61⟩ := cD.def_ 61 (d := SkH.d61) rfl
  have F__law_fault : Fun K "_law_fault" "_law_fault" s__law_fault (He.fAd K ("_law_fault", none)) fd61 := funOf FD61
  have b__law_fault := F__law_fault.binds (ps := ["seats", "force"]) fun _ _ _ _ _ _ us hl => match us, hl with | [_, _], _ => rfl
  obtain ⟨fd62, FD62⟩ := cD.def_ 62 (d := SkH.d62) rfl
  have F__law_current : Fun K "_law_current" "_law_current" s__law_current (He.fAd K ("_law_current", none)) fd62 := funOf FD62
  have b__law_current := F__law_current.binds (ps := ["row", "label"]) fun _ _ _ _ _ _ us hl => match us, hl with | [_, _], _ => rfl
  obtain ⟨fd63, FD63⟩ := cD.def_ 63 (d := SkH.d63) rfl
  have F_Device_pending : Fun K "pending" "Device.pending" s_Device_pending (He.fAd K ("Device", some "pending")) fd63 := funOf FD63
  have b_Device_pending := F_Device_pending.binds (ps := ["self"]) fun _ _ _ _ _ _ us hl => match us, hl with | [_], _ => rfl
  obtain ⟨fd64, FD64⟩ := cD.def_ 64 (d := SkH.d64) rfl
  have F_Side_pending : Fun K "pending" "Side.pending" s_Side_pending (He.fAd K ("Side", some "pending")) fd64 := funOf FD64
  have b_Side_pending := F_Side_pending.binds (ps := ["self"]) fun _ _ _ _ _ _ us hl => match us, hl with | [_], _ => rfl
  obtain ⟨fd65, FD65⟩ := cD.def_ 65 (d := SkH.d65) rfl
  have F_Mirror_pending : Fun K "pending" "Mirror.pending" s_Mirror_pending (He.fAd K ("Mirror", some "pending")) fd65 := funOf FD65
  have b_Mirror_pending := F_Mirror_pending.binds (ps := ["self"]) fun _ _ _ _ _ _ us hl => match us, hl with | [_], _ => rfl
  obtain ⟨fd66, FD66⟩ := cD.def_ 66 (d := SkH.d66) rfl
  have F_Mirror_was_cut : Fun K "was_cut" "Mirror.was_cut" s_Mirror_was_cut (He.fAd K ("Mirror", some "was_cut")) fd66 := funOf FD66
  have b_Mirror_was_cut := F_Mirror_was_cut.binds (ps := ["self"]) fun _ _ _ _ _ _ us hl => match us, hl with | [_], _ => rfl
  obtain ⟨fd67, FD67⟩ := cD.def_ 67 (d := SkH.d67) rfl
  have F__law_made : Fun K "_law_made" "_law_made" s__law_made (He.fAd K ("_law_made", none)) fd67 := funOf FD67
  have b__law_made := F__law_made.binds (ps := ["layout", "mirror", "rows", "label", "forks"]) fun _ _ _ _ _ _ us hl => match us, hl with | [_, _, _, _, _], _ => rfl
  obtain ⟨fd68, FD68⟩ := cD.def_ 68 (d := SkH.d68) rfl
  have F_Device_sure_blocks : Fun K "sure_blocks" "Device.sure_blocks" s_Device_sure_blocks (He.fAd K ("Device", some "sure_blocks")) fd68 := funOf FD68
  have b_Device_sure_blocks := F_Device_sure_blocks.binds (ps := ["self"]) fun _ _ _ _ _ _ us hl => match us, hl with | [_], _ => rfl
  obtain ⟨fd69, FD69⟩ := cD.def_ 69 (d := SkH.d69) rfl
  have F_law : Fun K "law" "law" s_law (He.fAd K ("law", none)) fd69 := funOf FD69
  have b_law := F_law.binds (ps := ["script"]) fun _ _ _ _ _ _ us hl => match us, hl with | [_], _ => rfl
  rw [← hP] at w14
  obtain ⟨iC_Degraded, tI_Degraded, cO_Degraded, sC_Degraded, oX_Degraded, xF_Degraded⟩ := sup_facts X G w14 hT
  obtain ⟨fdS_Degraded, FS_Degraded⟩ := sup_fun (st := s_Degraded___init__) c.sup cO_Degraded
  have bS_Degraded := FS_Degraded.binds (ps := ["self", "missing"]) fun _ _ _ _ _ us hl => match us, hl with | [_, _], _ => rfl
  obtain ⟨xP_NoMirror, kP_NoMirror, bP_NoMirror, tP_NoMirror⟩ := He.exc_ok (cD.fact 81 (f := .exc "NoMirror") rfl)
  obtain ⟨t_MOST_SEGMENTS, g_MOST_SEGMENTS⟩ := He.int_ok X G (cD.fact 120 (f := .int "MOST_SEGMENTS" 16) rfl)
  obtain ⟨t_LEAST_SEGMENTS, g_LEAST_SEGMENTS⟩ := He.int_ok X G (cD.fact 121 (f := .int "LEAST_SEGMENTS" 4) rfl)
  obtain ⟨t_MOST_BLOCKS, g_MOST_BLOCKS⟩ := He.int_ok X G (cD.fact 122 (f := .int "MOST_BLOCKS" 32) rfl)
  obtain ⟨t_LEAST_BLOCKS, g_LEAST_BLOCKS⟩ := He.int_ok X G (cD.fact 123 (f := .int "LEAST_BLOCKS" 16) rfl)
  obtain ⟨t_HEAD_OCTETS, g_HEAD_OCTETS⟩ := He.int_ok X G (cD.fact 124 (f := .int "HEAD_OCTETS" 16) rfl)
  obtain ⟨t_SLOTS, g_SLOTS⟩ := He.int_ok X G (cD.fact 125 (f := .int "SLOTS" 3) rfl)
  obtain ⟨t_LABELS, g_LABELS⟩ := He.int_ok X G (cD.fact 126 (f := .int "LABELS" 2) rfl)
  obtain ⟨t_SEATS, g_SEATS⟩ := He.int_ok X G (cD.fact 127 (f := .int "SEATS" 3) rfl)
  obtain ⟨t_FORK_OCTETS, g_FORK_OCTETS⟩ := He.int_ok X G (cD.fact 129 (f := .int "FORK_OCTETS" 3) rfl)
  obtain ⟨t_DATA, g_DATA⟩ := He.int_ok X G (cD.fact 130 (f := .int "DATA" 3) rfl)
  obtain ⟨t_MEMBERS_AT, g_MEMBERS_AT⟩ := He.int_ok X G (cD.fact 131 (f := .int "MEMBERS_AT" 6) rfl)
  obtain ⟨t_COUNT_AT, g_COUNT_AT⟩ := He.int_ok X G (cD.fact 132 (f := .int "COUNT_AT" 12) rfl)
  obtain ⟨t_MOST_FORKS, g_MOST_FORKS⟩ := He.int_ok X G (cD.fact 133 (f := .int "MOST_FORKS" 16) rfl)
  obtain ⟨t_FORKS_AT, g_FORKS_AT⟩ := He.int_ok X G (cD.fact 134 (f := .int "FORKS_AT" 13) rfl)
  obtain ⟨t_HEADER, g_HEADER⟩ := He.int_ok X G (cD.fact 136 (f := .int "HEADER" 16) rfl)
  obtain ⟨t_COMMIT, g_COMMIT⟩ := He.int_ok X G (cD.fact 138 (f := .int "COMMIT" 1) rfl)
  obtain ⟨t_MOVE, g_MOVE⟩ := He.int_ok X G (cD.fact 139 (f := .int "MOVE" 2) rfl)
  obtain ⟨t_SPARE, g_SPARE⟩ := He.int_ok X G (cD.fact 140 (f := .int "SPARE" 16) rfl)
  obtain ⟨t_FACTOR, g_FACTOR⟩ := He.int_ok X G (cD.fact 141 (f := .int "FACTOR" 257) rfl)
  obtain ⟨t_PRIME, g_PRIME⟩ := He.int_ok X G (cD.fact 142 (f := .int "PRIME" 4294967291) rfl)
  have hb : ∀ (s : Shared) (v : Value), BindsTo s fd69 ⟨[v], []⟩ [("script", v)] := by
    obtain ⟨oc, od, kV, doc, pm, an, cdv, ct, osl, rfl, lk, hcd⟩ := F_law.ex
    exact fun s v => BindsTo.of_eq rfl
  exact ⟨_, hb, fun base _ _ => ok_law { f__law_take := (He.fAd K ("_law_take", none)), fd__law_take := fd0, F__law_take := F__law_take, b__law_take := b__law_take, g__law_take := He.glo_ok X G (cD.fact 0 (f := .glo "_law_take") rfl), f_parts_of := (He.fAd K ("parts_of", none)), fd_parts_of := fd1, F_parts_of := F_parts_of, b_parts_of := b_parts_of, g_parts_of := He.glo_ok X G (cD.fact 1 (f := .glo "parts_of") rfl), f_Layout___init__ := (He.fAd K ("Layout", some "__init__")), fd_Layout___init__ := fd2, F_Layout___init__ := F_Layout___init__, b_Layout___init__ := b_Layout___init__, mk_Layout := He.mkr_ok (cD.fact 2 (f := .mkr "Layout") rfl), f__law_layout := (He.fAd K ("_law_layout", none)), fd__law_layout := fd3, F__law_layout := F__law_layout, b__law_layout := b__law_layout, g__law_layout := He.glo_ok X G (cD.fact 3 (f := .glo "_law_layout") rfl), f__law_number := (He.fAd K ("_law_number", none)), fd__law_number := fd4, F__law_number := F__law_number, b__law_number := b__law_number, g__law_number := He.glo_ok X G (cD.fact 4 (f := .glo "_law_number") rfl), f__law_low := (He.fAd K ("_law_low", none)), fd__law_low := fd5, F__law_low := F__law_low, b__law_low := b__law_low, g__law_low := He.glo_ok X G (cD.fact 5 (f := .glo "_law_low") rfl), f__law_octets := (He.fAd K ("_law_octets", none)), fd__law_octets := fd6, F__law_octets := F__law_octets, b__law_octets := b__law_octets, g__law_octets := He.glo_ok X G (cD.fact 6 (f := .glo "_law_octets") rfl), f__law_check := (He.fAd K ("_law_check", none)), fd__law_check := fd7, F__law_check := F__law_check, b__law_check := b__law_check, g__law_check := He.glo_ok X G (cD.fact 7 (f := .glo "_law_check") rfl), f__law_sealed := (He.fAd K ("_law_sealed", none)), fd__law_sealed := fd8, F__law_sealed := F__law_sealed, b__law_sealed := b__law_sealed, g__law_sealed := He.glo_ok X G (cD.fact 8 (f := .glo "_law_sealed") rfl), f__law_label_block := (He.fAd K ("_law_label_block", none)), fd__law_label_block := fd9, F__law_label_block := F__law_label_block, b__law_label_block := b__law_label_block, g__law_label_block := He.glo_ok X G (cD.fact 9 (f := .glo "_law_label_block") rfl), f__law_label_cell := (He.fAd K ("_law_label_cell", none)), fd__law_label_cell := fd10, F__law_label_cell := F__law_label_cell, b__law_label_cell := b__law_label_cell, g__law_label_cell := He.glo_ok X G (cD.fact 10 (f := .glo "_law_label_cell") rfl), f__law_data := (He.fAd K ("_law_data", none)), fd__law_data := fd11, F__law_data := F__law_data, b__law_data := b__law_data, g__law_data := He.glo_ok X G (cD.fact 11 (f := .glo "_law_data") rfl), f_Device___init__ := (He.fAd K ("Device", some "__init__")), fd_Device___init__ := fd12, F_Device___init__ := F_Device___init__, b_Device___init__ := b_Device___init__, mk_Device := He.mkr_ok (cD.fact 12 (f := .mkr "Device") rfl), f_Side___init__ := (He.fAd K ("Side", some "__init__")), fd_Side___init__ := fd13, F_Side___init__ := F_Side___init__, b_Side___init__ := b_Side___init__, mk_Side := He.mkr_ok (cD.fact 13 (f := .mkr "Side") rfl), f__law_labelled := (He.fAd K ("_law_labelled", none)), fd__law_labelled := fd14, F__law_labelled := F__law_labelled, b__law_labelled := b__law_labelled, g__law_labelled := He.glo_ok X G (cD.fact 14 (f := .glo "_law_labelled") rfl), f__law_best := (He.fAd K ("_law_best", none)), fd__law_best := fd15, F__law_best := F__law_best, b__law_best := b__law_best, g__law_best := He.glo_ok X G (cD.fact 15 (f := .glo "_law_best") rfl), f_is_newer := (He.fAd K ("is_newer", none)), fd_is_newer := fd16, F_is_newer := F_is_newer, b_is_newer := b_is_newer, g_is_newer := He.glo_ok X G (cD.fact 16 (f := .glo "is_newer") rfl), f_newest_label := (He.fAd K ("newest_label", none)), fd_newest_label := fd17, F_newest_label := F_newest_label, b_newest_label := b_newest_label, g_newest_label := He.glo_ok X G (cD.fact 17 (f := .glo "newest_label") rfl), f_seats_of_bits := (He.fAd K ("seats_of_bits", none)), fd_seats_of_bits := fd18, F_seats_of_bits := F_seats_of_bits, b_seats_of_bits := b_seats_of_bits, g_seats_of_bits := He.glo_ok X G (cD.fact 18 (f := .glo "seats_of_bits") rfl), f_number_of := (He.fAd K ("number_of", none)), fd_number_of := fd19, F_number_of := F_number_of, b_number_of := b_number_of, g_number_of := He.glo_ok X G (cD.fact 19 (f := .glo "number_of") rfl), f_bits_of_seats := (He.fAd K ("bits_of_seats", none)), fd_bits_of_seats := fd20, F_bits_of_seats := F_bits_of_seats, b_bits_of_seats := b_bits_of_seats, g_bits_of_seats := He.glo_ok X G (cD.fact 20 (f := .glo "bits_of_seats") rfl), f_number_octets := (He.fAd K ("number_octets", none)), fd_number_octets := fd21, F_number_octets := F_number_octets, b_number_octets := b_number_octets, g_number_octets := He.glo_ok X G (cD.fact 21 (f := .glo "number_octets") rfl), f_label_block := (He.fAd K ("label_block", none)), fd_label_block := fd22, F_label_block := F_label_block, b_label_block := b_label_block, g_label_block := He.glo_ok X G (cD.fact 22 (f := .glo "label_block") rfl), f_label_of := (He.fAd K ("label_of", none)), fd_label_of := fd23, F_label_of := F_label_of, b_label_of := b_label_of, g_label_of := He.glo_ok X G (cD.fact 23 (f := .glo "label_of") rfl), f_Device_read := (He.fAd K ("Device", some "read")), fd_Device_read := fd24, F_Device_read := F_Device_read, b_Device_read := b_Device_read, m_Device_read := He.meth_ok (cD.fact 24 (f := .meth "Device" "read") rfl), f_pairs_of := (He.fAd K ("pairs_of", none)), fd_pairs_of := fd25, F_pairs_of := F_pairs_of, b_pairs_of := b_pairs_of, g_pairs_of := He.glo_ok X G (cD.fact 25 (f := .glo "pairs_of") rfl), f_summary_octets := (He.fAd K ("summary_octets", none)), fd_summary_octets := fd26, F_summary_octets := F_summary_octets, b_summary_octets := b_summary_octets, g_summary_octets := He.glo_ok X G (cD.fact 26 (f := .glo "summary_octets") rfl), f_bits_of := (He.fAd K ("bits_of", none)), fd_bits_of := fd27, F_bits_of := F_bits_of, b_bits_of := b_bits_of, g_bits_of := He.glo_ok X G (cD.fact 27 (f := .glo "bits_of") rfl), f_body_octets := (He.fAd K ("body_octets", none)), fd_body_octets := fd28, F_body_octets := F_body_octets, b_body_octets := b_body_octets, g_body_octets := He.glo_ok X G (cD.fact 28 (f := .glo "body_octets") rfl), f_block_octets := (He.fAd K ("block_octets", none)), fd_block_octets := fd29, F_block_octets := F_block_octets, b_block_octets := b_block_octets, g_block_octets := He.glo_ok X G (cD.fact 29 (f := .glo "block_octets") rfl), f_check_of := (He.fAd K ("check_of", none)), fd_check_of := fd30, F_check_of := F_check_of, b_check_of := b_check_of, g_check_of := He.glo_ok X G (cD.fact 30 (f := .glo "check_of") rfl), f_is_whole := (He.fAd K ("is_whole", none)), fd_is_whole := fd31, F_is_whole := F_is_whole, b_is_whole := b_is_whole, g_is_whole := He.glo_ok X G (cD.fact 31 (f := .glo "is_whole") rfl), f_Side_read := (He.fAd K ("Side", some "read")), fd_Side_read := fd32, F_Side_read := F_Side_read, b_Side_read := b_Side_read, m_Side_read := He.meth_ok (cD.fact 32 (f := .meth "Side" "read") rfl), f_Side_labels := (He.fAd K ("Side", some "labels")), fd_Side_labels := fd33, F_Side_labels := F_Side_labels, b_Side_labels := b_Side_labels, m_Side_labels := He.meth_ok (cD.fact 33 (f := .meth "Side" "labels") rfl), f_Side_label := (He.fAd K ("Side", some "label")), fd_Side_label := fd34, F_Side_label := F_Side_label, b_Side_label := b_Side_label, m_Side_label := He.meth_ok (cD.fact 34 (f := .meth "Side" "label") rfl), f_label_to_follow := (He.fAd K ("label_to_follow", none)), fd_label_to_follow := fd35, F_label_to_follow := F_label_to_follow, b_label_to_follow := b_label_to_follow, g_label_to_follow := He.glo_ok X G (cD.fact 35 (f := .glo "label_to_follow") rfl), f_Side_settled := (He.fAd K ("Side", some "settled")), fd_Side_settled := fd36, F_Side_settled := F_Side_settled, b_Side_settled := b_Side_settled, m_Side_settled := He.meth_ok (cD.fact 36 (f := .meth "Side" "settled") rfl), f_is_next := (He.fAd K ("is_next", none)), fd_is_next := fd37, F_is_next := F_is_next, b_is_next := b_is_next, g_is_next := He.glo_ok X G (cD.fact 37 (f := .glo "is_next") rfl), f_is_current := (He.fAd K ("is_current", none)), fd_is_current := fd38, F_is_current := F_is_current, b_is_current := b_is_current, g_is_current := He.glo_ok X G (cD.fact 38 (f := .glo "is_current") rfl), f_fork_of := (He.fAd K ("fork_of", none)), fd_fork_of := fd39, F_fork_of := F_fork_of, b_fork_of := b_fork_of, g_fork_of := He.glo_ok X G (cD.fact 39 (f := .glo "fork_of") rfl), f_first_whole := (He.fAd K ("first_whole", none)), fd_first_whole := fd40, F_first_whole := F_first_whole, b_first_whole := b_first_whole, g_first_whole := He.glo_ok X G (cD.fact 40 (f := .glo "first_whole") rfl), f_Mirror___init__ := (He.fAd K ("Mirror", some "__init__")), fd_Mirror___init__ := fd41, F_Mirror___init__ := F_Mirror___init__, e_Mirror___init__ := (He.dflAt ("Mirror", some "__init__") 0 K), b_Mirror___init__ := b_Mirror___init__, mk_Mirror := He.mkr_ok (cD.fact 41 (f := .mkr "Mirror") rfl), f_Mirror_cut_after := (He.fAd K ("Mirror", some "cut_after")), fd_Mirror_cut_after := fd42, F_Mirror_cut_after := F_Mirror_cut_after, b_Mirror_cut_after := b_Mirror_cut_after, m_Mirror_cut_after := He.meth_ok (cD.fact 42 (f := .meth "Mirror" "cut_after") rfl), f_sealed := (He.fAd K ("sealed", none)), fd_sealed := fd43, F_sealed := F_sealed, b_sealed := b_sealed, g_sealed := He.glo_ok X G (cD.fact 43 (f := .glo "sealed") rfl), f_Device_cut_after := (He.fAd K ("Device", some "cut_after")), fd_Device_cut_after := fd44, F_Device_cut_after := F_Device_cut_after, b_Device_cut_after := b_Device_cut_after, m_Device_cut_after := He.meth_ok (cD.fact 44 (f := .meth "Device" "cut_after") rfl), f_Mirror_count_command := (He.fAd K ("Mirror", some "count_command")), fd_Mirror_count_command := fd45, F_Mirror_count_command := F_Mirror_count_command, b_Mirror_count_command := b_Mirror_count_command, m_Mirror_count_command := He.meth_ok (cD.fact 45 (f := .meth "Mirror" "count_command") rfl), f_Device__count_command := (He.fAd K ("Device", some "_count_command")), fd_Device__count_command := fd46, F_Device__count_command := F_Device__count_command, b_Device__count_command := b_Device__count_command, m_Device__count_command := He.meth_ok (cD.fact 46 (f := .meth "Device" "_count_command") rfl), f_Device_write := (He.fAd K ("Device", some "write")), fd_Device_write := fd47, F_Device_write := F_Device_write, b_Device_write := b_Device_write, m_Device_write := He.meth_ok (cD.fact 47 (f := .meth "Device" "write") rfl), f_Side_write := (He.fAd K ("Side", some "write")), fd_Side_write := fd48, F_Side_write := F_Side_write, b_Side_write := b_Side_write, m_Side_write := He.meth_ok (cD.fact 48 (f := .meth "Side" "write") rfl), f_Device_barrier := (He.fAd K ("Device", some "barrier")), fd_Device_barrier := fd49, F_Device_barrier := F_Device_barrier, b_Device_barrier := b_Device_barrier, m_Device_barrier := He.meth_ok (cD.fact 49 (f := .meth "Device" "barrier") rfl), f_Side_barrier := (He.fAd K ("Side", some "barrier")), fd_Side_barrier := fd50, F_Side_barrier := F_Side_barrier, b_Side_barrier := b_Side_barrier, m_Side_barrier := He.meth_ok (cD.fact 50 (f := .meth "Side" "barrier") rfl), f_Mirror_copy_to := (He.fAd K ("Mirror", some "copy_to")), fd_Mirror_copy_to := fd51, F_Mirror_copy_to := F_Mirror_copy_to, b_Mirror_copy_to := b_Mirror_copy_to, m_Mirror_copy_to := He.meth_ok (cD.fact 51 (f := .meth "Mirror" "copy_to") rfl), f_Mirror_members := (He.fAd K ("Mirror", some "members")), fd_Mirror_members := fd52, F_Mirror_members := F_Mirror_members, b_Mirror_members := b_Mirror_members, m_Mirror_members := He.meth_ok (cD.fact 52 (f := .meth "Mirror" "members") rfl), f_Side_write_label := (He.fAd K ("Side", some "write_label")), fd_Side_write_label := fd53, F_Side_write_label := F_Side_write_label, b_Side_write_label := b_Side_write_label, m_Side_write_label := He.meth_ok (cD.fact 53 (f := .meth "Side" "write_label") rfl), f_Mirror_write_labels := (He.fAd K ("Mirror", some "write_labels")), fd_Mirror_write_labels := fd54, F_Mirror_write_labels := F_Mirror_write_labels, b_Mirror_write_labels := b_Mirror_write_labels, m_Mirror_write_labels := He.meth_ok (cD.fact 54 (f := .meth "Mirror" "write_labels") rfl), f_Mirror_relabel := (He.fAd K ("Mirror", some "relabel")), fd_Mirror_relabel := fd55, F_Mirror_relabel := F_Mirror_relabel, b_Mirror_relabel := b_Mirror_relabel, m_Mirror_relabel := He.meth_ok (cD.fact 55 (f := .meth "Mirror" "relabel") rfl), f_Mirror_clear_labels := (He.fAd K ("Mirror", some "clear_labels")), fd_Mirror_clear_labels := fd56, F_Mirror_clear_labels := F_Mirror_clear_labels, b_Mirror_clear_labels := b_Mirror_clear_labels, m_Mirror_clear_labels := He.meth_ok (cD.fact 56 (f := .meth "Mirror" "clear_labels") rfl), f_Mirror_read := (He.fAd K ("Mirror", some "read")), fd_Mirror_read := fd57, F_Mirror_read := F_Mirror_read, b_Mirror_read := b_Mirror_read, m_Mirror_read := He.meth_ok (cD.fact 57 (f := .meth "Mirror" "read") rfl), f_Mirror_content := (He.fAd K ("Mirror", some "content")), fd_Mirror_content := fd58, F_Mirror_content := F_Mirror_content, b_Mirror_content := b_Mirror_content, m_Mirror_content := He.meth_ok (cD.fact 58 (f := .meth "Mirror" "content") rfl), f_Mirror_join := (He.fAd K ("Mirror", some "join")), fd_Mirror_join := fd59, F_Mirror_join := F_Mirror_join, b_Mirror_join := b_Mirror_join, m_Mirror_join := He.meth_ok (cD.fact 59 (f := .meth "Mirror" "join") rfl), f_assemble := (He.fAd K ("assemble", none)), fd_assemble := fd60, F_assemble := F_assemble, mv_assemble__force := mv_assemble__force, kb_assemble__force := kb_assemble__force, kb_assemble := kb_assemble, g_assemble := He.glo_ok X G (cD.fact 60 (f := .glo "assemble") rfl), f__law_fault := (He.fAd K ("_law_fault", none)), fd__law_fault := fd61, F__law_fault := F__law_fault, b__law_fault := b__law_fault, g__law_fault := He.glo_ok X G (cD.fact 61 (f := .glo "_law_fault") rfl), f__law_current := (He.fAd K ("_law_current", none)), fd__law_current := fd62, F__law_current := F__law_current, b__law_current := b__law_current, g__law_current := He.glo_ok X G (cD.fact 62 (f := .glo "_law_current") rfl), f_Device_pending := (He.fAd K ("Device", some "pending")), fd_Device_pending := fd63, F_Device_pending := F_Device_pending, b_Device_pending := b_Device_pending, m_Device_pending := He.meth_ok (cD.fact 63 (f := .meth "Device" "pending") rfl), f_Side_pending := (He.fAd K ("Side", some "pending")), fd_Side_pending := fd64, F_Side_pending := F_Side_pending, b_Side_pending := b_Side_pending, m_Side_pending := He.meth_ok (cD.fact 64 (f := .meth "Side" "pending") rfl), f_Mirror_pending := (He.fAd K ("Mirror", some "pending")), fd_Mirror_pending := fd65, F_Mirror_pending := F_Mirror_pending, b_Mirror_pending := b_Mirror_pending, m_Mirror_pending := He.meth_ok (cD.fact 65 (f := .meth "Mirror" "pending") rfl), f_Mirror_was_cut := (He.fAd K ("Mirror", some "was_cut")), fd_Mirror_was_cut := fd66, F_Mirror_was_cut := F_Mirror_was_cut, b_Mirror_was_cut := b_Mirror_was_cut, m_Mirror_was_cut := He.meth_ok (cD.fact 66 (f := .meth "Mirror" "was_cut") rfl), f__law_made := (He.fAd K ("_law_made", none)), fd__law_made := fd67, F__law_made := F__law_made, b__law_made := b__law_made, g__law_made := He.glo_ok X G (cD.fact 67 (f := .glo "_law_made") rfl), f_Device_sure_blocks := (He.fAd K ("Device", some "sure_blocks")), fd_Device_sure_blocks := fd68, F_Device_sure_blocks := F_Device_sure_blocks, b_Device_sure_blocks := b_Device_sure_blocks, m_Device_sure_blocks := He.meth_ok (cD.fact 68 (f := .meth "Device" "sure_blocks") rfl), f_law := (He.fAd K ("law", none)), fd_law := fd69, F_law := F_law, b_law := b_law, g_law := He.glo_ok X G (cD.fact 69 (f := .glo "law") rfl), f_Degraded___init__ := (He.fAd K (SkS.supAt "Degraded")), fd_Degraded___init__ := fdS_Degraded, co_Degraded := (He.codeOf K (SkS.supAt "Degraded")), ce_Degraded := (SkS.cellOf K "Degraded"), F_Degraded___init__ := FS_Degraded, b_Degraded___init__ := bS_Degraded, ox_Degraded := oX_Degraded, iC_Degraded := iC_Degraded, tI_Degraded := tI_Degraded, z_Degraded := sC_Degraded, xf_Degraded := xF_Degraded, C_Layout := (He.ga K "Layout"), g_Layout := He.glo_ok X G (cD.fact 70 (f := .glo "Layout") rfl), C_Device := (He.ga K "Device"), g_Device := He.glo_ok X G (cD.fact 71 (f := .glo "Device") rfl), C_Side := (He.ga K "Side"), g_Side := He.glo_ok X G (cD.fact 72 (f := .glo "Side") rfl), C_Mirror := (He.ga K "Mirror"), g_Mirror := He.glo_ok X G (cD.fact 73 (f := .glo "Mirror") rfl), C_Degraded := (He.ga K "Degraded"), g_Degraded := He.glo_ok X G (cD.fact 74 (f := .glo "Degraded") rfl), C_NoMirror := (He.ga K "NoMirror"), g_NoMirror := He.glo_ok X G (cD.fact 75 (f := .glo "NoMirror") rfl), C_SegmentError := (He.ga K "SegmentError"), g_SegmentError := He.glo_ok X G (cD.fact 76 (f := .glo "SegmentError") rfl), cl_Layout := He.cls_ok (cD.fact 77 (f := .cls "Layout") rfl), cl_Device := He.cls_ok (cD.fact 78 (f := .cls "Device") rfl), cl_Side := He.cls_ok (cD.fact 79 (f := .cls "Side") rfl), cl_Mirror := He.cls_ok (cD.fact 80 (f := .cls "Mirror") rfl), xP_NoMirror := xP_NoMirror, kP_NoMirror := kP_NoMirror, bP_NoMirror := bP_NoMirror, tP_NoMirror := tP_NoMirror, em_NoMirror_SegmentError := He.exm_ok (cD.fact 82 (f := .exm "NoMirror" "SegmentError" true) rfl), em_Degraded_SegmentError := He.exm_ok (cD.fact 83 (f := .exm "Degraded" "SegmentError" true) rfl), c_LETTERS_labels := (He.ga K "LETTERS_labels"), g_LETTERS_labels := He.glo_ok X G (cD.fact 128 (f := .glo "LETTERS_labels") rfl), r_LETTERS_labels := rfl, q_LETTERS_labels := fun H => He.tupB_ok w0 H, c_LETTERS_bodies := (He.ga K "LETTERS_bodies"), g_LETTERS_bodies := He.glo_ok X G (cD.fact 135 (f := .glo "LETTERS_bodies") rfl), r_LETTERS_bodies := rfl, q_LETTERS_bodies := fun H => He.tupB_ok w1 H, c_BITS := (He.ga K "BITS"), g_BITS := He.glo_ok X G (cD.fact 137 (f := .glo "BITS") rfl), r_BITS := rfl, q_BITS := fun H => He.tupB_ok w2 H, ec_NoMirror := ⟨He.eqO_ok w3, He.eqO_ok w4, of_decide_eq_true w5, w6, He.eqO_ok w7, He.eqO_ok w8, of_decide_eq_true w9, of_decide_eq_true w10⟩, ke_NoMirror_Degraded := of_decide_eq_true w11, ke_NoMirror_NoMirror := of_decide_eq_true w12, is_Degraded_Degraded := w13, a_Layout_segments := He.noat_ok (cD.fact 84 (f := .noat "Layout" "segments") rfl), a_Layout_segment_blocks := He.noat_ok (cD.fact 85 (f := .noat "Layout" "segment_blocks") rfl), a_Layout_block_size := He.noat_ok (cD.fact 86 (f := .noat "Layout" "block_size") rfl), a_Layout_payload := He.noat_ok (cD.fact 87 (f := .noat "Layout" "payload") rfl), a_Layout_limit := He.noat_ok (cD.fact 88 (f := .noat "Layout" "limit") rfl), a_Layout_last_id := He.noat_ok (cD.fact 89 (f := .noat "Layout" "last_id") rfl), a_Layout_fan := He.noat_ok (cD.fact 90 (f := .noat "Layout" "fan") rfl), a_Layout_region_blocks := He.noat_ok (cD.fact 91 (f := .noat "Layout" "region_blocks") rfl), a_Layout_device_blocks := He.noat_ok (cD.fact 92 (f := .noat "Layout" "device_blocks") rfl), a_Device_layout := He.noat_ok (cD.fact 93 (f := .noat "Device" "layout") rfl), a_Device_sure := He.noat_ok (cD.fact 94 (f := .noat "Device" "sure") rfl), a_Device_seen := He.noat_ok (cD.fact 95 (f := .noat "Device" "seen") rfl), a_Device_waiting := He.noat_ok (cD.fact 96 (f := .noat "Device" "waiting") rfl), a_Device_fuse := He.noat_ok (cD.fact 97 (f := .noat "Device" "fuse") rfl), a_Device_dark := He.noat_ok (cD.fact 98 (f := .noat "Device" "dark") rfl), a_Side_layout := He.noat_ok (cD.fact 99 (f := .noat "Side" "layout") rfl), a_Side_seat := He.noat_ok (cD.fact 100 (f := .noat "Side" "seat") rfl), a_Side_device := He.noat_ok (cD.fact 101 (f := .noat "Side" "device") rfl), a_Degraded_missing := He.noat_ok (cD.fact 102 (f := .noat "Degraded" "missing") rfl), a_Mirror_layout := He.noat_ok (cD.fact 103 (f := .noat "Mirror" "layout") rfl), a_Mirror_sides := He.noat_ok (cD.fact 104 (f := .noat "Mirror" "sides") rfl), a_Mirror_guests := He.noat_ok (cD.fact 105 (f := .noat "Mirror" "guests") rfl), a_Mirror_generation := He.noat_ok (cD.fact 106 (f := .noat "Mirror" "generation") rfl), a_Mirror_forks := He.noat_ok (cD.fact 107 (f := .noat "Mirror" "forks") rfl), a_Mirror_fuse := He.noat_ok (cD.fact 108 (f := .noat "Mirror" "fuse") rfl), a_Mirror_dark := He.noat_ok (cD.fact 109 (f := .noat "Mirror" "dark") rfl), n_int := He.free_ok X G (cD.fact 110 (f := .free "int") rfl), n_len := He.free_ok X G (cD.fact 111 (f := .free "len") rfl), n_range := He.free_ok X G (cD.fact 112 (f := .free "range") rfl), n_list := He.free_ok X G (cD.fact 113 (f := .free "list") rfl), n_tuple := He.free_ok X G (cD.fact 114 (f := .free "tuple") rfl), n_reversed := He.free_ok X G (cD.fact 115 (f := .free "reversed") rfl), n_enumerate := He.free_ok X G (cD.fact 116 (f := .free "enumerate") rfl), n_sorted := He.free_ok X G (cD.fact 117 (f := .free "sorted") rfl), n_isinstance := He.free_ok X G (cD.fact 118 (f := .free "isinstance") rfl), n_sum := He.free_ok X G (cD.fact 119 (f := .free "sum") rfl), u_MOST_SEGMENTS := _, g_MOST_SEGMENTS := g_MOST_SEGMENTS, r_MOST_SEGMENTS := ⟨_, rfl⟩, u_LEAST_SEGMENTS := _, g_LEAST_SEGMENTS := g_LEAST_SEGMENTS, r_LEAST_SEGMENTS := ⟨_, rfl⟩, u_MOST_BLOCKS := _, g_MOST_BLOCKS := g_MOST_BLOCKS, r_MOST_BLOCKS := ⟨_, rfl⟩, u_LEAST_BLOCKS := _, g_LEAST_BLOCKS := g_LEAST_BLOCKS, r_LEAST_BLOCKS := ⟨_, rfl⟩, u_HEAD_OCTETS := _, g_HEAD_OCTETS := g_HEAD_OCTETS, r_HEAD_OCTETS := ⟨_, rfl⟩, u_SLOTS := _, g_SLOTS := g_SLOTS, r_SLOTS := ⟨_, rfl⟩, u_LABELS := _, g_LABELS := g_LABELS, r_LABELS := ⟨_, rfl⟩, u_SEATS := _, g_SEATS := g_SEATS, r_SEATS := ⟨_, rfl⟩, u_FORK_OCTETS := _, g_FORK_OCTETS := g_FORK_OCTETS, r_FORK_OCTETS := ⟨_, rfl⟩, u_DATA := _, g_DATA := g_DATA, r_DATA := ⟨_, rfl⟩, u_MEMBERS_AT := _, g_MEMBERS_AT := g_MEMBERS_AT, r_MEMBERS_AT := ⟨_, rfl⟩, u_COUNT_AT := _, g_COUNT_AT := g_COUNT_AT, r_COUNT_AT := ⟨_, rfl⟩, u_MOST_FORKS := _, g_MOST_FORKS := g_MOST_FORKS, r_MOST_FORKS := ⟨_, rfl⟩, u_FORKS_AT := _, g_FORKS_AT := g_FORKS_AT, r_FORKS_AT := ⟨_, rfl⟩, u_HEADER := _, g_HEADER := g_HEADER, r_HEADER := ⟨_, rfl⟩, u_COMMIT := _, g_COMMIT := g_COMMIT, r_COMMIT := ⟨_, rfl⟩, u_MOVE := _, g_MOVE := g_MOVE, r_MOVE := ⟨_, rfl⟩, u_SPARE := _, g_SPARE := g_SPARE, r_SPARE := ⟨_, rfl⟩, u_FACTOR := _, g_FACTOR := g_FACTOR, r_FACTOR := ⟨_, rfl⟩, u_PRIME := _, g_PRIME := g_PRIME, r_PRIME := ⟨_, rfl⟩ }⟩
end Sk
theorem PySem.Challenge.cw_sidekeep_k19_the_label_that_is_followed_holds : PySem.Challenge.rw_sidekeep_k19_the_label_that_is_followed.Holds := by
  refine SkH.top fun w mg fa h K KX G hmg c => ?_
  obtain ⟨fd, hb, hF⟩ := Sk.facts (P := (PySem.Challenge.rw_sidekeep_k19_the_label_that_is_followed).prog) (w := w) KX G hmg c rfl (by decide +kernel)
  exact ⟨fd, Sk.spLaw K, hb, fun H a ns hl _ hS => ⟨a, ns, rfl, hS, hl, fun _ => rfl⟩, hF⟩
#print axioms PySem.Challenge.cw_sidekeep_k19_the_label_that_is_followed_holds
